/- A variable of several cells, read whole: from the facts on its cells, or from its block. -/
import Derived.Test.YtjnhghplfdiijaaQB
namespace Go.Proofs.Ytjnhghplfdiijaa.Q
open Go.RowKit Go.Proofs.YtjnhghplfdiijaaW.PrintWords Go.Proofs.YtjnhghplfdiijaaW.PrintLast Go.Proofs.YtjnhghplfdiijaaW.PrintMore
set_option linter.unusedVariables false
set_option linter.unusedSimpArgs false

theorem run_loadVar_cells {P : Program} (w : World) (g : Nat) (ty : TypeId) (cs : List Value) (d : TypeDesc) (hc : ∀ k v, cs[k]? = some v → w.cell? ⟨g, k, none⟩ = some v)
    (hu : P.underlying ty = some d) (hd : (match d with | .struct _ | .array _ _ => true | _ => false) = true) (hi : (P.info? ty).map (·.size) = some cs.length) :
    (loadVar ty ⟨g, 0, none⟩).run P w = .ok (.agg cs.toArray) w := by
  have hl : (loadCells ⟨g, 0, none⟩ cs.length).run P w = .ok cs.toArray w :=
    run_loadCells_list (P := P) w ⟨g, 0, none⟩ cs (fun j v hv => by
      have hadd : (⟨g, 0, none⟩ : Addr).add j = ⟨g, j, none⟩ := by unfold Addr.add; split <;> simp_all
      rw [hadd]
      exact hc j v hv)
  cases hq : P.info? ty with
  | none => simp [hq] at hi
  | some i =>
    have hs : i.size = cs.length := by simpa [hq] using hi
    have hagg : (isAgg ty).run P w = .ok true w := by
      unfold isAgg
      rw [Sem.run_bind, run_underlying hu w]
      cases d <;> simp_all
    simp [loadVar, Sem.run_bind, hagg, sizeOf, typeInfo, hq, hs, hl]
/-- An operation that reads it. -/
theorem run_exec_load {P : Program} {w : World} {ev : Operand → Value} {o : Oper} (ty : TypeId) (x : Operand) (g : Nat) (v : Value) (ho : o.op = .load ty x) (hx : ev x = .pointer (some ⟨g, 0, none⟩))
    (h : (loadVar ty ⟨g, 0, none⟩).run P w = .ok v w) : Sem.run P (execOp ev o) w = .ok (.value v) w := by
  unfold execOp
  simp only [ho, hx, Instr.loadAt, Instr.sureAddr, Sem.run_bind, Sem.run_pure, Result.andThen_ok, h]
theorem cells_nil {w : World} {g : Nat} (n : Nat) : ∀ k v, ([] : List Value)[k]? = some v → w.cell? ⟨g, n + k, none⟩ = some v := fun k v h => by simp at h
theorem cells_cons {w : World} {g : Nat} {n : Nat} {x : Value} {xs : List Value} (h : w.cell? ⟨g, n, none⟩ = some x) (t : ∀ k v, xs[k]? = some v → w.cell? ⟨g, n + 1 + k, none⟩ = some v) :
    ∀ k v, (x :: xs)[k]? = some v → w.cell? ⟨g, n + k, none⟩ = some v
  | 0, v, e => by
    simp at e
    subst e
    simpa using h
  | k + 1, v, e => by
    have := t k v (by simpa using e)
    rw [show n + (k + 1) = n + 1 + k by omega]
    exact this
theorem cells_zero {w : World} {g : Nat} {xs : List Value} (h : ∀ k v, xs[k]? = some v → w.cell? ⟨g, 0 + k, none⟩ = some v) : ∀ k v, xs[k]? = some v → w.cell? ⟨g, k, none⟩ = some v := fun k v e => by
  have := h k v e
  rwa [Nat.zero_add] at this
end Go.Proofs.Ytjnhghplfdiijaa.Q
