/- Fields of structs that come in by value: their cells, opened. -/
import Derived.Test.YtjnhghplfdiijaaQB
import Derived.ChangeArms
import Derived.WideShapes
namespace Go.Proofs.Ytjnhghplfdiijaa.Q
open Go.RowKit Go.ChangeShapes Go.WideShapes
set_option linter.unusedVariables false
section
variable {H : Type} {enc : TypeId × Value → H} {P : Program} {w : World} {base : Nat} {spare : Nat → Bool} {held : Bool} {fuel : Nat} {t : TypeId} {cs : List Value} {x : DataW H × List MemPlace} {fs : Array Field}

theorem field_trod (ht : P.underlying t = some (.struct fs)) (h : DataW.trod enc P w base spare held fuel t cs = some x) (j : Nat) (f : Field) (hf : fs[j]? = some f) :
    ∃ n y, DataW.trod enc P w base spare held n f.type ((cs.drop f.offset).take (P.cellsOf f.type)) = some y := by
  obtain ⟨xs, n, _, _, _, hlen, g⟩ := DataW.trod_struct ht h
  have hj : j < xs.length := by
    rw [hlen]
    exact (Array.getElem?_eq_some_iff.mp hf).1
  exact ⟨n, xs[j], (g j f hf).trans (List.getElem?_eq_getElem hj)⟩
theorem take_one {α : Type} {l : List α} {n : Nat} {v : α} (h : (l.drop n).take 1 = [v]) : l[n]? = some v := by
  have h2 : ((l.drop n).take 1)[0]? = some v := by rw [h]; rfl
  simpa using h2
theorem field_int {k : IntKind} (ht : P.underlying t = some (.struct fs)) (h : DataW.trod enc P w base spare held fuel t cs = some x) (j : Nat) (f : Field) (hf : fs[j]? = some f) (hk : P.underlying f.type = some (.int k)) (hc : P.cellsOf f.type = 1) :
    ∃ n, cs[f.offset]? = some (.int k n) ∧ (Lit.int k n).wf = true := by
  obtain ⟨n, y, hy⟩ := field_trod ht h j f hf
  obtain ⟨m, e, _, hw⟩ := DataW.trod_int hk hy
  rw [hc] at e
  exact ⟨m, take_one e, hw⟩
theorem field_string (ht : P.underlying t = some (.struct fs)) (h : DataW.trod enc P w base spare held fuel t cs = some x) (j : Nat) (f : Field) (hf : fs[j]? = some f) (hk : P.underlying f.type = some .string) (hc : P.cellsOf f.type = 1) :
    ∃ s : ByteArray, cs[f.offset]? = some (.string s) ∧ s.size ≤ maxLen := by
  obtain ⟨n, y, hy⟩ := field_trod ht h j f hf
  obtain ⟨m, e, _, hw⟩ := DataW.trod_string hk hy
  rw [hc] at e
  exact ⟨m, take_one e, hw⟩
end
end Go.Proofs.Ytjnhghplfdiijaa.Q
