/- Tells, part 1: contracts of functions and plain laws, one behind the other (joined by wip/merge.py out of: QB Hpure Q195 Hload Hlong Q146 Q149 Q99 Q100 Q187 Q157 Q158 Q107 Q153 Q154 Hcivil Hcivil2 Q94 Hcivil3 Hrefdate Hfigures). -/
import Derived.Test.YtjnhghplfdiijaaMTells0
import Derived.Test.YtjnhghplfdiijaaProg
import Derived.Below
import Derived.Deep.Draws
import Derived.Deep.AppendLies
import Derived.Maps.AppendAt
import Derived.OwnWalk
import Derived.Laws.BytesArg
import Derived.Laws.MakeOwn
import Derived.Laws.OwnMore
import Derived.Deep.OwnRows
import Derived.Tactics
import Derived.Lib.ConvBytes
import Derived.Laws.Slices
import Derived.WalkKit
import Derived.KernelRfl
import Derived.RowKit3
import Derived.Deep.LoopGhost
import Derived.Deep.QuietTactic
import Derived.BigQuiet
import Derived.WideLaws
import Derived.Deep.DeepCutAuto
import Derived.Deep.CutBlock
import Derived.Deep.RegionHeld3
import Derived.Laws.Rows
import Derived.Lib.AppendStr
import Derived.ArgAppend
import Derived.Laws.IdiomCopy
import Derived.OrdersHeld
import Derived.Laws.BitsLemmas
import Derived.RowKit
namespace Go.Proofs.Ytjnhghplfdiijaa.Q
open Go.RowKit Go.Proofs.YtjnhghplfdiijaaW.PrintWords Go.Proofs.YtjnhghplfdiijaaW.PrintLast Go.Proofs.YtjnhghplfdiijaaW.PrintMore
attribute [local go_sem] max2_int min2_int max_two min_two max_three min_three max_four min_four
set_option linter.unusedVariables false
set_option linter.unusedSimpArgs false
def errW : Option Int → Value
  | none => .nilIface
  | some c => .iface 0 (.int .i64 c)
theorem errW_none : errW none = .nilIface := rfl
theorem errW_some (c : Int) : errW (some c) = .iface 0 (.int .i64 c) := rfl
theorem info3 : (Try.prog.info? 3).map (fun i => (i.zero, i.size, i.bytes)) = some (some (.int .i64 0), 1, 8) := by kernel_rfl
theorem info9 : (Try.prog.info? 9).map (fun i => (i.zero, i.size, i.bytes)) = some (some (.string ⟨#[]⟩), 1, 16) := by kernel_rfl
theorem info60 : (Try.prog.info? 60).map (fun i => (i.zero, i.size, i.bytes)) = some (some (.agg #[(.string ⟨#[]⟩), (.string ⟨#[]⟩)]), 2, 32) := by kernel_rfl
structure S60 where
  f0 : ByteArray
  f1 : ByteArray
def z60 : S60 := ⟨(⟨#[]⟩ : ByteArray), (⟨#[]⟩ : ByteArray)⟩
def k60 : Kd S60 := Kd.iso (Kd.pair Kd.string Kd.string) (fun x : S60 => (x.f0, x.f1))
theorem k60_open {w : World} {x : S60} {cs : List Value} (h : k60.K w x cs) : cs = [.string x.f0, .string x.f1] := by
  obtain ⟨_, _, rfl, rfl, rfl⟩ := h
  exact rfl
theorem k60_mkM (w : World) (base : Nat) (ok : Nat → Prop) (x : S60)  : k60.M w base ok x [.string x.f0, .string x.f1] := ⟨[.string x.f0], [.string x.f1], rfl, rfl, rfl⟩
def rd_T60 (xs : List S60) (i : Int) : S60 := xs.getD i.toNat z60
theorem at_T60 {w : World} {A : Option Addr} {n : Nat} {xs : List S60} (h : Kd.C k60 w A n xs) (i : Int) (h0 : 0 ≤ i) (h1 : i < n) : ∃ ad , A = some ad ∧ w.cell? (ad.add (i.toNat * 2)) = some (.string (rd_T60 xs i).f0) ∧ w.cell? ⟨(ad.add (i.toNat * 2)).block, (ad.add (i.toNat * 2)).off + 1, none⟩ = some (.string (rd_T60 xs i).f1) := by
  obtain ⟨ad, c, e, _, hK, hc0⟩ := Kd.C_get h z60 i h0 h1
  have hc : ∀ j u, c[j]? = some u → w.cell? (ad.add (i.toNat * 2 + j)) = some u := hc0
  obtain rfl := k60_open hK
  exact ⟨ad, e, hc 0 _ rfl, by rw [← add_field _ _ 1 (by omega)]; exact hc 1 _ rfl⟩
structure S75 where
  f0 : Int
  f1 : Int
  f2 : Int
  f3 : Int
  f4 : Int
  f5 : Int
def z75 : S75 := ⟨(0 : Int), (0 : Int), (0 : Int), (0 : Int), (0 : Int), (0 : Int)⟩
structure S51 where
  f0 : ByteArray
  f1 : ByteArray
  f2 : Bool
def z51 : S51 := ⟨(⟨#[]⟩ : ByteArray), (⟨#[]⟩ : ByteArray), false⟩
end Go.Proofs.Ytjnhghplfdiijaa.Q

namespace Go.Proofs.Ytjnhghplfdiijaa.Q
open Go.RowKit Go.Proofs.YtjnhghplfdiijaaW.PrintWords Go.Proofs.YtjnhghplfdiijaaW.PrintLast Go.Proofs.YtjnhghplfdiijaaW.PrintMore
set_option linter.unusedVariables false
set_option linter.unusedSimpArgs false
/-- A text's octets. -/
def tl (s : ByteArray) : List UInt8 := s.data.toList
def ofl (l : List UInt8) : ByteArray := ⟨l.toArray⟩
theorem ofl_tl (s : ByteArray) : ofl (tl s) = s := by cases s; simp [ofl, tl]
theorem tl_inj {a b : ByteArray} (h : tl a = tl b) : a = b := by rw [← ofl_tl a, ← ofl_tl b, h]
theorem tl_append (a b : ByteArray) : tl (a ++ b) = tl a ++ tl b := by simp [tl, ByteArray.data_append]
theorem wrap_small {x : Int} (h0 : -9223372036854775808 ≤ x) (h1 : x ≤ 9223372036854775807) : wrap64 x = x := by unfold wrap64; omega
end Go.Proofs.Ytjnhghplfdiijaa.Q

namespace Go.Proofs.Ytjnhghplfdiijaa.Q
open Go.RowKit Go.Proofs.YtjnhghplfdiijaaW.PrintWords Go.Proofs.YtjnhghplfdiijaaW.PrintLast Go.Proofs.YtjnhghplfdiijaaW.PrintMore
attribute [local go_sem] max2_int min2_int max_two min_two max_three min_three max_four min_four
set_option linter.unusedVariables false
set_option linter.unusedSimpArgs false
def civil_Leap.f (a0 : Int) : Option (Bool) := if (Int.tmod a0 4) = 0 then (if (Int.tmod a0 100) = 0 then (some ((Int.tmod a0 400) == 0)) else (some true)) else (some false)
set_option maxHeartbeats 8000000 in
set_option maxRecDepth 100000 in
theorem civil_Leap.calls (a0 : Int) (r : Bool) (w : World) (h : civil_Leap.f a0 = some r) :
    Calls Try.prog 195 #[.int .i64 a0] w fun e w' => e = .returned (.bool r) ∧ Drawn0 w w' := by
  have H : (if (Int.tmod a0 4) = 0 then (if (Int.tmod a0 100) = 0 then (some ((Int.tmod a0 400) == 0)) else (some true)) else (some false)) = some r := h
  clear h
  by_cases c2 : (Int.tmod a0 4) = 0
  · rw [if_pos c2] at H
    have c2b0 : ((Int.tmod a0 4) == 0) = true := beq_iff_eq.mpr c2
    have c2b1 : ((Int.tmod a0 4) != 0) = false := bne_eq_false_iff_eq.mpr c2
    clear c2
    by_cases c3 : (Int.tmod a0 100) = 0
    · rw [if_pos c3] at H
      have c3b0 : ((Int.tmod a0 100) == 0) = true := beq_iff_eq.mpr c3
      have c3b1 : ((Int.tmod a0 100) != 0) = false := bne_eq_false_iff_eq.mpr c3
      clear c3
      obtain rfl := Option.some.inj H
      go_enter Try.func195, Try.ntmps195
      go_wp2
      go_ret
      exact ⟨by first | rfl | (simp; done) | (simp [*]; done), by repeat (first | exact Drawn0.refl _ | apply Drawn0.step)⟩
    · rw [if_neg c3] at H
      have c3b0 : ((Int.tmod a0 100) == 0) = false := beq_eq_false_iff_ne.mpr c3
      have c3b1 : ((Int.tmod a0 100) != 0) = true := bne_iff_ne.mpr c3
      obtain rfl := Option.some.inj H
      go_enter Try.func195, Try.ntmps195
      go_wp2
      go_ret
      exact ⟨by first | rfl | (simp; done) | (simp [*]; done), by repeat (first | exact Drawn0.refl _ | apply Drawn0.step)⟩
  · rw [if_neg c2] at H
    have c2b0 : ((Int.tmod a0 4) == 0) = false := beq_eq_false_iff_ne.mpr c2
    have c2b1 : ((Int.tmod a0 4) != 0) = true := bne_iff_ne.mpr c2
    obtain rfl := Option.some.inj H
    go_enter Try.func195, Try.ntmps195
    go_wp2
    go_ret
    exact ⟨by first | rfl | (simp; done) | (simp [*]; done), by repeat (first | exact Drawn0.refl _ | apply Drawn0.step)⟩
end Go.Proofs.Ytjnhghplfdiijaa.Q

namespace Go.Proofs.Ytjnhghplfdiijaa.Q
open Go.RowKit Go.Proofs.YtjnhghplfdiijaaW.PrintWords Go.Proofs.YtjnhghplfdiijaaW.PrintLast Go.Proofs.YtjnhghplfdiijaaW.PrintMore
set_option linter.unusedVariables false
set_option linter.unusedSimpArgs false
theorem run_loadVar_cells {P : Program} (w : World) (g : Nat) (ty : TypeId) (cs : List Value) (d : TypeDesc) (hc : ∀ k v, cs[k]? = some v → w.cell? ⟨g, k, none⟩ = some v)
    (hu : P.underlying ty = some d) (hd : (match d with | .struct _ | .array _ _ => true | _ => false) = true) (hi : (P.info? ty).map (·.size) = some cs.length) :
    (loadVar ty ⟨g, 0, none⟩).run P w = .ok (.agg cs.toArray) w := by
  have hl : (loadCells ⟨g, 0, none⟩ cs.length).run P w = .ok cs.toArray w :=
    run_loadCells_list (P := P) w ⟨g, 0, none⟩ cs (fun j v hv => by
      have hadd : (⟨g, 0, none⟩ : Addr).add j = ⟨g, j, none⟩ := by unfold Addr.add; split <;> simp_all
      rw [hadd]
      exact hc j v hv)
  cases hq : P.info? ty with
  | none => simp [hq] at hi
  | some i =>
    have hs : i.size = cs.length := by simpa [hq] using hi
    have hagg : (isAgg ty).run P w = .ok true w := by
      unfold isAgg
      rw [Sem.run_bind, run_underlying hu w]
      cases d <;> simp_all
    simp [loadVar, Sem.run_bind, hagg, sizeOf, typeInfo, hq, hs, hl]
/-- The world is forgotten but for what S tells of it. -/
theorem world_gen {P : Program} {c : Code} {Q : Exit → Act → World → Prop} {a : Act} {w : World} (S : World → Prop) (h : S w) (k : ∀ w', S w' → Code.wp P c Q a w') : Code.wp P c Q a w := k w h
theorem blk_put6 {w : World} {g : Nat} {t : TypeId} {a0 a1 a2 a3 a4 a5 : Value} (v0 v1 v2 v3 v4 v5 : Value) (h : w.heap[g]? = some (.cells #[a0, a1, a2, a3, a4, a5] t (0, 0))) :
    ((((((w.setCell ⟨g, 0, none⟩ v0).setCell ⟨g, 1, none⟩ v1).setCell ⟨g, 2, none⟩ v2).setCell ⟨g, 3, none⟩ v3).setCell ⟨g, 4, none⟩ v4).setCell ⟨g, 5, none⟩ v5).heap[g]? = some (.cells #[v0, v1, v2, v3, v4, v5] t (0, 0)) := by
  have h0 : (w.setCell ⟨g, 0, none⟩ v0).heap[g]? = some (.cells #[v0, a1, a2, a3, a4, a5] t (0, 0)) := blk_put h 0 _ rfl
  have h1 : ((w.setCell ⟨g, 0, none⟩ v0).setCell ⟨g, 1, none⟩ v1).heap[g]? = some (.cells #[v0, v1, a2, a3, a4, a5] t (0, 0)) := blk_put h0 1 _ rfl
  have h2 := blk_put h1 2 v2 (cs' := #[v0, v1, v2, a3, a4, a5]) rfl
  have h3 := blk_put h2 3 v3 (cs' := #[v0, v1, v2, v3, a4, a5]) rfl
  have h4 := blk_put h3 4 v4 (cs' := #[v0, v1, v2, v3, v4, a5]) rfl
  exact blk_put h4 5 v5 (cs' := #[v0, v1, v2, v3, v4, v5]) rfl
theorem blk_put9 {w : World} {g : Nat} {t : TypeId} {a0 a1 a2 a3 a4 a5 : Value} (v0 v1 v2 v3 v4 v5 u3 u4 u5 : Value) (h : w.heap[g]? = some (.cells #[a0, a1, a2, a3, a4, a5] t (0, 0))) :
    (((((((((w.setCell ⟨g, 0, none⟩ v0).setCell ⟨g, 1, none⟩ v1).setCell ⟨g, 2, none⟩ v2).setCell ⟨g, 3, none⟩ v3).setCell ⟨g, 4, none⟩ v4).setCell ⟨g, 5, none⟩ v5).setCell ⟨g, 3, none⟩ u3).setCell ⟨g, 4, none⟩ u4).setCell ⟨g, 5, none⟩ u5).heap[g]? = some (.cells #[v0, v1, v2, u3, u4, u5] t (0, 0)) := by
  have h5 := blk_put6 v0 v1 v2 v3 v4 v5 h
  have h6 := blk_put h5 3 u3 (cs' := #[v0, v1, v2, u3, v4, v5]) rfl
  have h7 := blk_put h6 4 u4 (cs' := #[v0, v1, v2, u3, u4, v5]) rfl
  exact blk_put h7 5 u5 (cs' := #[v0, v1, v2, u3, u4, u5]) rfl
theorem below_put6 {w0 w : World} {g : Nat} (v0 v1 v2 v3 v4 v5 : Value) (h : Below w0.heap.size w0 w) (hg : w0.heap.size ≤ g) :
    Below w0.heap.size w0 ((((((w.setCell ⟨g, 0, none⟩ v0).setCell ⟨g, 1, none⟩ v1).setCell ⟨g, 2, none⟩ v2).setCell ⟨g, 3, none⟩ v3).setCell ⟨g, 4, none⟩ v4).setCell ⟨g, 5, none⟩ v5) :=
  below_set (below_set (below_set (below_set (below_set (below_set h hg) hg) hg) hg) hg) hg
theorem blk_far6 {w : World} {g g' : Nat} {t : TypeId} {cs : Array Value} (v0 v1 v2 v3 v4 v5 : Value) (h : w.heap[g']? = some (.cells cs t (0, 0))) (hn : g' ≠ g) : ((((((w.setCell ⟨g, 0, none⟩ v0).setCell ⟨g, 1, none⟩ v1).setCell ⟨g, 2, none⟩ v2).setCell ⟨g, 3, none⟩ v3).setCell ⟨g, 4, none⟩ v4).setCell ⟨g, 5, none⟩ v5).heap[g']? = some (.cells cs t (0, 0)) :=
  blk_far (blk_far (blk_far (blk_far (blk_far (blk_far h hn _) hn _) hn _) hn _) hn _) hn _
theorem blk_far9 {w : World} {g g' : Nat} {t : TypeId} {cs : Array Value} (v0 v1 v2 v3 v4 v5 u3 u4 u5 : Value) (h : w.heap[g']? = some (.cells cs t (0, 0))) (hn : g' ≠ g) : (((((((((w.setCell ⟨g, 0, none⟩ v0).setCell ⟨g, 1, none⟩ v1).setCell ⟨g, 2, none⟩ v2).setCell ⟨g, 3, none⟩ v3).setCell ⟨g, 4, none⟩ v4).setCell ⟨g, 5, none⟩ v5).setCell ⟨g, 3, none⟩ u3).setCell ⟨g, 4, none⟩ u4).setCell ⟨g, 5, none⟩ u5).heap[g']? = some (.cells cs t (0, 0)) :=
  blk_far (blk_far (blk_far (blk_far6 v0 v1 v2 v3 v4 v5 h hn) hn _) hn _) hn _
theorem below_put9 {w0 w : World} {g : Nat} (v0 v1 v2 v3 v4 v5 u3 u4 u5 : Value) (h : Below w0.heap.size w0 w) (hg : w0.heap.size ≤ g) : Below w0.heap.size w0 (((((((((w.setCell ⟨g, 0, none⟩ v0).setCell ⟨g, 1, none⟩ v1).setCell ⟨g, 2, none⟩ v2).setCell ⟨g, 3, none⟩ v3).setCell ⟨g, 4, none⟩ v4).setCell ⟨g, 5, none⟩ v5).setCell ⟨g, 3, none⟩ u3).setCell ⟨g, 4, none⟩ u4).setCell ⟨g, 5, none⟩ u5) :=
  below_set (below_set (below_set (below_put6 v0 v1 v2 v3 v4 v5 h hg) hg) hg) hg
/-- 'a[i]' of an array by value, its elements of one cell each. -/
theorem run_index_array {P : Program} (w : World) (t e : TypeId) (n : Nat) (cs : Array Value) (k : IntKind) (i : Int) (v : Value) (ie : TypeInfo) (de : TypeDesc) (h : P.underlying t = some (.array n e)) (hie : P.info? e = some ie) (hs : ie.size = 1)
    (hde : P.underlying e = some de) (hd : (match de with | .struct _ | .array _ _ => false | _ => true) = true) (h0 : 0 ≤ i) (h1 : i < n) (hv : cs[i.toNat]? = some v) : (Instr.index t (.agg cs) (.int k i)).run P w = .ok v w := by
  have hagg : (isAgg e).run P w = .ok false w := by
    unfold isAgg
    rw [Sem.run_bind, run_underlying hde w]
    cases de <;> simp_all
  have hsz : (sizeOf e).run P w = .ok 1 w := by simp [sizeOf, typeInfo, Sem.run_bind, hie, hs]
  simp [Instr.index, Sem.run_bind, run_underlying h, asIntOf, h0, h1, go_sem, hsz, part, hagg, hv]
/-- .. its elements structs. -/
theorem run_index_array_agg {P : Program} (w : World) (t e : TypeId) (n : Nat) (cs : Array Value) (k : IntKind) (i : Int) (z : Nat) (ie : TypeInfo) (de : TypeDesc) (h : P.underlying t = some (.array n e)) (hie : P.info? e = some ie) (hs : ie.size = z)
    (hde : P.underlying e = some de) (hd : (match de with | .struct _ | .array _ _ => true | _ => false) = true) (h0 : 0 ≤ i) (h1 : i < n) : (Instr.index t (.agg cs) (.int k i)).run P w = .ok (.agg (cs.extract (i.toNat * z) (i.toNat * z + z))) w := by
  have hagg : (isAgg e).run P w = .ok true w := by
    unfold isAgg
    rw [Sem.run_bind, run_underlying hde w]
    cases de <;> simp_all
  have hsz : (sizeOf e).run P w = .ok z w := by simp [sizeOf, typeInfo, Sem.run_bind, hie, hs]
  simp [Instr.index, Sem.run_bind, run_underlying h, asIntOf, h0, h1, go_sem, hsz, part, hagg]
end Go.Proofs.Ytjnhghplfdiijaa.Q

namespace Go.Proofs.Ytjnhghplfdiijaa.Q
open Go.RowKit Go.Proofs.YtjnhghplfdiijaaW.PrintWords Go.Proofs.YtjnhghplfdiijaaW.PrintLast Go.Proofs.YtjnhghplfdiijaaW.PrintMore
set_option linter.unusedVariables false
set_option linter.unusedSimpArgs false
def longT (m : Int) : Int := if m = 2 then 28 else if m = 4 ∨ m = 6 ∨ m = 9 ∨ m = 11 then 30 else 31
def civil_Long.f (y m : Int) : Option Int := if m < 1 ∨ 12 < m then some 0 else (civil_Leap.f y).map fun l => if m = 2 ∧ l = true then 29 else longT m
theorem run_months (w : World) (cs : Array Value) (i v : Int) (h0 : 0 ≤ i) (h1 : i < 12) (hv : cs[i.toNat]? = some (.int .i64 v)) : (Instr.index 193 (.agg cs) (.int .i64 i)).run Try.prog w = .ok (.int .i64 v) w := by
  obtain ⟨i0, hi, _, hz0, _⟩ := info_parts info3
  exact run_index_array w _ _ 12 cs .i64 i _ i0 _ Try.underlying193 hi hz0 Try.underlying3 rfl h0 h1 hv
theorem civil_lengths (w : World) : Calls Try.prog 196 #[] w fun e w' => e = .returned (.agg #[.int .i64 31, .int .i64 28, .int .i64 31, .int .i64 30, .int .i64 31, .int .i64 30, .int .i64 31, .int .i64 31, .int .i64 30, .int .i64 31, .int .i64 30, .int .i64 31]) ∧ Below w.heap.size w w' := by
  go_enter Try.func196, Try.ntmps196
  go_wp2
  refine bodyPost_ret (v := .agg #[.int .i64 31, .int .i64 28, .int .i64 31, .int .i64 30, .int .i64 31, .int .i64 30, .int .i64 31, .int .i64 31, .int .i64 30, .int .i64 31, .int .i64 30, .int .i64 31]) (by simp [results, Try.results196, go_sem]) rfl ⟨rfl, ?_⟩
  (repeat (first | exact Below.refl _ _ | apply below_alloc))
set_option maxRecDepth 100000 in
set_option maxHeartbeats 2000000 in
theorem civil_Long.calls (y m r : Int) (w : World) (h : civil_Long.f y m = some r) :
    Calls Try.prog 183 #[.int .i64 y, .int .i64 m] w fun e w' => e = .returned (.int .i64 r) ∧ Below w.heap.size w w' := by
  unfold civil_Long.f at h
  by_cases c1 : m < 1
  · rw [if_pos (Or.inl c1)] at h
    injection h with h
    subst h
    have d1 : decide (m < 1) = true := decide_eq_true c1
    go_enter Try.func183, Try.ntmps183
    go_wp2
    exact bodyPost_ret (v := .int .i64 0) (by simp [results, Try.results183, go_sem]) rfl ⟨rfl, by (repeat (first | exact Below.refl _ _ | apply below_alloc))⟩
  have d1 : decide (m < 1) = false := decide_eq_false c1
  by_cases c2 : 12 < m
  · rw [if_pos (Or.inr c2)] at h
    injection h with h
    subst h
    have d2 : decide (12 < m) = true := decide_eq_true c2
    go_enter Try.func183, Try.ntmps183
    go_wp2
    exact bodyPost_ret (v := .int .i64 0) (by simp [results, Try.results183, go_sem]) rfl ⟨rfl, by (repeat (first | exact Below.refl _ _ | apply below_alloc))⟩
  rw [if_neg (by omega)] at h
  cases hl : civil_Leap.f y with
  | none => rw [hl] at h; exact absurd h (by simp)
  | some l =>
    rw [hl] at h
    have h := Option.some.inj h
    have HL := Aside0.mk hl
    clear hl d1
    obtain rfl | rfl | rfl | rfl | rfl | rfl | rfl | rfl | rfl | rfl | rfl | rfl : m = 1 ∨ m = 2 ∨ m = 3 ∨ m = 4 ∨ m = 5 ∨ m = 6 ∨ m = 7 ∨ m = 8 ∨ m = 9 ∨ m = 10 ∨ m = 11 ∨ m = 12 := by omega
    case inr.inl =>
      cases l
      · obtain rfl : 28 = r := by simpa [longT] using h
        clear h c1 c2
        go_enter Try.func183, Try.ntmps183
        go_wp2_with fail
        refine (civil_Leap.calls y _ _ HL.out).mono ?_
        rintro e w1 ⟨rfl, ⟨nd, rfl⟩⟩
        have HB := Aside0.mk (pw_below_drewN (Below.refl w.heap.size w) nd)
        go_wp2_with fail
        refine (civil_lengths _).mono ?_
        rintro e w2 ⟨rfl, hb⟩
        have HC := Aside0.mk hb
        clear hb
        go_wp2
        rw [run_months _ _ _ 28 (by decide) (by decide) rfl]
        go_wp2
        exact bodyPost_ret (v := .int .i64 28) (by simp [results, Try.results183, go_sem]) rfl ⟨rfl, below_step HB.out HC.out⟩
      · obtain rfl : 29 = r := by simpa [longT] using h
        clear h c1 c2
        go_enter Try.func183, Try.ntmps183
        go_wp2_with fail
        refine (civil_Leap.calls y _ _ HL.out).mono ?_
        rintro e w1 ⟨rfl, ⟨nd, rfl⟩⟩
        have HB := Aside0.mk (pw_below_drewN (Below.refl w.heap.size w) nd)
        go_wp2
        exact bodyPost_ret (v := .int .i64 29) (by simp [results, Try.results183, go_sem]) rfl ⟨rfl, HB.out⟩
    all_goals
      have h2 := h
      simp [longT] at h2
      subst h2
      clear h c1 c2
      go_enter Try.func183, Try.ntmps183
      go_wp2_with fail
      refine (civil_lengths _).mono ?_
      rintro e w2 ⟨rfl, hb⟩
      have HC := Aside0.mk hb
      clear hb
      go_wp2
      first | rw [run_months _ _ _ 31 (by decide) (by decide) rfl] | rw [run_months _ _ _ 30 (by decide) (by decide) rfl]
      go_wp2
      exact bodyPost_ret (v := .int .i64 _) (by simp [results, Try.results183, go_sem]) rfl ⟨rfl, HC.out⟩
end Go.Proofs.Ytjnhghplfdiijaa.Q

namespace Go.Proofs.Ytjnhghplfdiijaa.Q
open Go.RowKit Go.Proofs.YtjnhghplfdiijaaW.PrintWords Go.Proofs.YtjnhghplfdiijaaW.PrintLast Go.Proofs.YtjnhghplfdiijaaW.PrintMore
attribute [local go_sem] max2_int min2_int max_two min_two max_three min_three max_four min_four
set_option linter.unusedVariables false
set_option linter.unusedSimpArgs false
def civil_Of.j0 : Nat → Int → Bool → Option (Int × Int × Int × Bool)
  | 0, _, _ => none
  | k + 1, x0, x17 => if x17 = true then (some (0, 0, 0, false)) else (if (wrap64 (Int.tdiv (wrap64 ((wrap64 (5 * (wrap64 ((wrap64 ((wrap64 ((Int.tmod (wrap64 (x0 + 719468)) 146097) - (wrap64 ((mn (wrap64 (Int.tdiv (Int.tmod (wrap64 (x0 + 719468)) 146097) 36524)) 3) * 36524)))) - (wrap64 ((wrap64 (Int.tdiv (wrap64 ((Int.tmod (wrap64 (x0 + 719468)) 146097) - (wrap64 ((mn (wrap64 (Int.tdiv (Int.tmod (wrap64 (x0 + 719468)) 146097) 36524)) 3) * 36524)))) 1461)) * 1461)))) - (wrap64 ((mn (wrap64 (Int.tdiv (wrap64 ((wrap64 ((Int.tmod (wrap64 (x0 + 719468)) 146097) - (wrap64 ((mn (wrap64 (Int.tdiv (Int.tmod (wrap64 (x0 + 719468)) 146097) 36524)) 3) * 36524)))) - (wrap64 ((wrap64 (Int.tdiv (wrap64 ((Int.tmod (wrap64 (x0 + 719468)) 146097) - (wrap64 ((mn (wrap64 (Int.tdiv (Int.tmod (wrap64 (x0 + 719468)) 146097) 36524)) 3) * 36524)))) 1461)) * 1461)))) 365)) 3) * 365)))))) + 2)) 153)) ≥ 10 then (some (wrap64 ((wrap64 ((wrap64 ((wrap64 (Int.tdiv (wrap64 (x0 + 719468)) 146097)) * 400)) + (wrap64 ((wrap64 ((wrap64 ((mn (wrap64 (Int.tdiv (Int.tmod (wrap64 (x0 + 719468)) 146097) 36524)) 3) * 100)) + (wrap64 ((wrap64 (Int.tdiv (wrap64 ((Int.tmod (wrap64 (x0 + 719468)) 146097) - (wrap64 ((mn (wrap64 (Int.tdiv (Int.tmod (wrap64 (x0 + 719468)) 146097) 36524)) 3) * 36524)))) 1461)) * 4)))) + (mn (wrap64 (Int.tdiv (wrap64 ((wrap64 ((Int.tmod (wrap64 (x0 + 719468)) 146097) - (wrap64 ((mn (wrap64 (Int.tdiv (Int.tmod (wrap64 (x0 + 719468)) 146097) 36524)) 3) * 36524)))) - (wrap64 ((wrap64 (Int.tdiv (wrap64 ((Int.tmod (wrap64 (x0 + 719468)) 146097) - (wrap64 ((mn (wrap64 (Int.tdiv (Int.tmod (wrap64 (x0 + 719468)) 146097) 36524)) 3) * 36524)))) 1461)) * 1461)))) 365)) 3))))) + 1), wrap64 ((Int.tmod (wrap64 ((wrap64 (Int.tdiv (wrap64 ((wrap64 (5 * (wrap64 ((wrap64 ((wrap64 ((Int.tmod (wrap64 (x0 + 719468)) 146097) - (wrap64 ((mn (wrap64 (Int.tdiv (Int.tmod (wrap64 (x0 + 719468)) 146097) 36524)) 3) * 36524)))) - (wrap64 ((wrap64 (Int.tdiv (wrap64 ((Int.tmod (wrap64 (x0 + 719468)) 146097) - (wrap64 ((mn (wrap64 (Int.tdiv (Int.tmod (wrap64 (x0 + 719468)) 146097) 36524)) 3) * 36524)))) 1461)) * 1461)))) - (wrap64 ((mn (wrap64 (Int.tdiv (wrap64 ((wrap64 ((Int.tmod (wrap64 (x0 + 719468)) 146097) - (wrap64 ((mn (wrap64 (Int.tdiv (Int.tmod (wrap64 (x0 + 719468)) 146097) 36524)) 3) * 36524)))) - (wrap64 ((wrap64 (Int.tdiv (wrap64 ((Int.tmod (wrap64 (x0 + 719468)) 146097) - (wrap64 ((mn (wrap64 (Int.tdiv (Int.tmod (wrap64 (x0 + 719468)) 146097) 36524)) 3) * 36524)))) 1461)) * 1461)))) 365)) 3) * 365)))))) + 2)) 153)) + 2)) 12) + 1), wrap64 ((wrap64 ((wrap64 ((wrap64 ((wrap64 ((Int.tmod (wrap64 (x0 + 719468)) 146097) - (wrap64 ((mn (wrap64 (Int.tdiv (Int.tmod (wrap64 (x0 + 719468)) 146097) 36524)) 3) * 36524)))) - (wrap64 ((wrap64 (Int.tdiv (wrap64 ((Int.tmod (wrap64 (x0 + 719468)) 146097) - (wrap64 ((mn (wrap64 (Int.tdiv (Int.tmod (wrap64 (x0 + 719468)) 146097) 36524)) 3) * 36524)))) 1461)) * 1461)))) - (wrap64 ((mn (wrap64 (Int.tdiv (wrap64 ((wrap64 ((Int.tmod (wrap64 (x0 + 719468)) 146097) - (wrap64 ((mn (wrap64 (Int.tdiv (Int.tmod (wrap64 (x0 + 719468)) 146097) 36524)) 3) * 36524)))) - (wrap64 ((wrap64 (Int.tdiv (wrap64 ((Int.tmod (wrap64 (x0 + 719468)) 146097) - (wrap64 ((mn (wrap64 (Int.tdiv (Int.tmod (wrap64 (x0 + 719468)) 146097) 36524)) 3) * 36524)))) 1461)) * 1461)))) 365)) 3) * 365)))) - (wrap64 (Int.tdiv (wrap64 ((wrap64 (153 * (wrap64 (Int.tdiv (wrap64 ((wrap64 (5 * (wrap64 ((wrap64 ((wrap64 ((Int.tmod (wrap64 (x0 + 719468)) 146097) - (wrap64 ((mn (wrap64 (Int.tdiv (Int.tmod (wrap64 (x0 + 719468)) 146097) 36524)) 3) * 36524)))) - (wrap64 ((wrap64 (Int.tdiv (wrap64 ((Int.tmod (wrap64 (x0 + 719468)) 146097) - (wrap64 ((mn (wrap64 (Int.tdiv (Int.tmod (wrap64 (x0 + 719468)) 146097) 36524)) 3) * 36524)))) 1461)) * 1461)))) - (wrap64 ((mn (wrap64 (Int.tdiv (wrap64 ((wrap64 ((Int.tmod (wrap64 (x0 + 719468)) 146097) - (wrap64 ((mn (wrap64 (Int.tdiv (Int.tmod (wrap64 (x0 + 719468)) 146097) 36524)) 3) * 36524)))) - (wrap64 ((wrap64 (Int.tdiv (wrap64 ((Int.tmod (wrap64 (x0 + 719468)) 146097) - (wrap64 ((mn (wrap64 (Int.tdiv (Int.tmod (wrap64 (x0 + 719468)) 146097) 36524)) 3) * 36524)))) 1461)) * 1461)))) 365)) 3) * 365)))))) + 2)) 153)))) + 2)) 5)))) + 1), true)) else (some (wrap64 ((wrap64 ((wrap64 (Int.tdiv (wrap64 (x0 + 719468)) 146097)) * 400)) + (wrap64 ((wrap64 ((wrap64 ((mn (wrap64 (Int.tdiv (Int.tmod (wrap64 (x0 + 719468)) 146097) 36524)) 3) * 100)) + (wrap64 ((wrap64 (Int.tdiv (wrap64 ((Int.tmod (wrap64 (x0 + 719468)) 146097) - (wrap64 ((mn (wrap64 (Int.tdiv (Int.tmod (wrap64 (x0 + 719468)) 146097) 36524)) 3) * 36524)))) 1461)) * 4)))) + (mn (wrap64 (Int.tdiv (wrap64 ((wrap64 ((Int.tmod (wrap64 (x0 + 719468)) 146097) - (wrap64 ((mn (wrap64 (Int.tdiv (Int.tmod (wrap64 (x0 + 719468)) 146097) 36524)) 3) * 36524)))) - (wrap64 ((wrap64 (Int.tdiv (wrap64 ((Int.tmod (wrap64 (x0 + 719468)) 146097) - (wrap64 ((mn (wrap64 (Int.tdiv (Int.tmod (wrap64 (x0 + 719468)) 146097) 36524)) 3) * 36524)))) 1461)) * 1461)))) 365)) 3)))), wrap64 ((Int.tmod (wrap64 ((wrap64 (Int.tdiv (wrap64 ((wrap64 (5 * (wrap64 ((wrap64 ((wrap64 ((Int.tmod (wrap64 (x0 + 719468)) 146097) - (wrap64 ((mn (wrap64 (Int.tdiv (Int.tmod (wrap64 (x0 + 719468)) 146097) 36524)) 3) * 36524)))) - (wrap64 ((wrap64 (Int.tdiv (wrap64 ((Int.tmod (wrap64 (x0 + 719468)) 146097) - (wrap64 ((mn (wrap64 (Int.tdiv (Int.tmod (wrap64 (x0 + 719468)) 146097) 36524)) 3) * 36524)))) 1461)) * 1461)))) - (wrap64 ((mn (wrap64 (Int.tdiv (wrap64 ((wrap64 ((Int.tmod (wrap64 (x0 + 719468)) 146097) - (wrap64 ((mn (wrap64 (Int.tdiv (Int.tmod (wrap64 (x0 + 719468)) 146097) 36524)) 3) * 36524)))) - (wrap64 ((wrap64 (Int.tdiv (wrap64 ((Int.tmod (wrap64 (x0 + 719468)) 146097) - (wrap64 ((mn (wrap64 (Int.tdiv (Int.tmod (wrap64 (x0 + 719468)) 146097) 36524)) 3) * 36524)))) 1461)) * 1461)))) 365)) 3) * 365)))))) + 2)) 153)) + 2)) 12) + 1), wrap64 ((wrap64 ((wrap64 ((wrap64 ((wrap64 ((Int.tmod (wrap64 (x0 + 719468)) 146097) - (wrap64 ((mn (wrap64 (Int.tdiv (Int.tmod (wrap64 (x0 + 719468)) 146097) 36524)) 3) * 36524)))) - (wrap64 ((wrap64 (Int.tdiv (wrap64 ((Int.tmod (wrap64 (x0 + 719468)) 146097) - (wrap64 ((mn (wrap64 (Int.tdiv (Int.tmod (wrap64 (x0 + 719468)) 146097) 36524)) 3) * 36524)))) 1461)) * 1461)))) - (wrap64 ((mn (wrap64 (Int.tdiv (wrap64 ((wrap64 ((Int.tmod (wrap64 (x0 + 719468)) 146097) - (wrap64 ((mn (wrap64 (Int.tdiv (Int.tmod (wrap64 (x0 + 719468)) 146097) 36524)) 3) * 36524)))) - (wrap64 ((wrap64 (Int.tdiv (wrap64 ((Int.tmod (wrap64 (x0 + 719468)) 146097) - (wrap64 ((mn (wrap64 (Int.tdiv (Int.tmod (wrap64 (x0 + 719468)) 146097) 36524)) 3) * 36524)))) 1461)) * 1461)))) 365)) 3) * 365)))) - (wrap64 (Int.tdiv (wrap64 ((wrap64 (153 * (wrap64 (Int.tdiv (wrap64 ((wrap64 (5 * (wrap64 ((wrap64 ((wrap64 ((Int.tmod (wrap64 (x0 + 719468)) 146097) - (wrap64 ((mn (wrap64 (Int.tdiv (Int.tmod (wrap64 (x0 + 719468)) 146097) 36524)) 3) * 36524)))) - (wrap64 ((wrap64 (Int.tdiv (wrap64 ((Int.tmod (wrap64 (x0 + 719468)) 146097) - (wrap64 ((mn (wrap64 (Int.tdiv (Int.tmod (wrap64 (x0 + 719468)) 146097) 36524)) 3) * 36524)))) 1461)) * 1461)))) - (wrap64 ((mn (wrap64 (Int.tdiv (wrap64 ((wrap64 ((Int.tmod (wrap64 (x0 + 719468)) 146097) - (wrap64 ((mn (wrap64 (Int.tdiv (Int.tmod (wrap64 (x0 + 719468)) 146097) 36524)) 3) * 36524)))) - (wrap64 ((wrap64 (Int.tdiv (wrap64 ((Int.tmod (wrap64 (x0 + 719468)) 146097) - (wrap64 ((mn (wrap64 (Int.tdiv (Int.tmod (wrap64 (x0 + 719468)) 146097) 36524)) 3) * 36524)))) 1461)) * 1461)))) 365)) 3) * 365)))))) + 2)) 153)))) + 2)) 5)))) + 1), true)))
def civil_Of.f (k : Nat) (a0 : Int) : Option (Int × Int × Int × Bool) := if a0 < (-719162) then (civil_Of.j0 k a0 true) else (civil_Of.j0 k a0 (decide (a0 ≥ 2932897)))
set_option maxHeartbeats 8000000 in
set_option maxRecDepth 100000 in
theorem civil_Of.calls (k : Nat) (a0 : Int) (r1 : Int) (r2 : Int) (r3 : Int) (r4 : Bool) (w : World) (h : civil_Of.f k a0 = some (r1, r2, r3, r4)) :
    Calls Try.prog 146 #[.int .i64 a0] w fun e w' => e = .returned (.tuple #[.int .i64 r1, .int .i64 r2, .int .i64 r3, .bool r4]) ∧ Below w.heap.size w w' := by
  have HB := Aside0.mk (Below.refl w.heap.size w)
  have H : (if a0 < (-719162) then (civil_Of.j0 k a0 true) else (civil_Of.j0 k a0 (decide (a0 ≥ 2932897)))) = some (r1, r2, r3, r4) := h
  clear h
  have HC2 := Aside0.mk H
  clear H
  go_enter Try.func146, Try.ntmps146
  go_upto_region 1 with (fail)
  go_cut [17] (fun v17 wc => ∃ (kq : Nat) (x17_1 : Bool), v17 = .bool x17_1 ∧ Aside0 (civil_Of.j0 kq a0 x17_1 = some (r1, r2, r3, r4)) ∧ Aside0 (kq ≤ k) ∧ Aside0 (Below w.heap.size w wc))
  case first =>
    have H := HC2.out
    clear HC2
    by_cases c3 : a0 < (-719162)
    · rw [if_pos c3] at H
      have c3b0 : decide (a0 < (-719162)) = true := decide_eq_true c3
      clear c3
      (first | rw [c3b0] | (simp only [i64_w, i32_w]; rw [c3b0]) | skip)
      have H' := Aside0.mk H
      clear H
      go_wp2
      go_meet
      case rel => exact ⟨_, (true), (by first | rfl | (simp; done) | (simp [*]; done)), H', ⟨by first | omega | exact Nat.le_refl _⟩, ⟨by repeat (first | (with_reducible first | exact HB.out | apply below_alloc | apply pw_below_drewN | apply below_drew1) | exact HB.out)⟩⟩
    · rw [if_neg c3] at H
      have c3b0 : decide (a0 < (-719162)) = false := decide_eq_false c3
      clear c3
      (first | rw [c3b0] | (simp only [i64_w, i32_w]; rw [c3b0]) | skip)
      have H' := Aside0.mk H
      clear H
      go_wp2
      go_meet
      case rel => exact ⟨_, (decide (a0 ≥ 2932897)), (by first | rfl | (simp; done) | (simp [*]; done)), H', ⟨by first | omega | exact Nat.le_refl _⟩, ⟨by repeat (first | (with_reducible first | exact HB.out | apply below_alloc | apply pw_below_drewN | apply below_drew1) | exact HB.out)⟩⟩
  case rest =>
    clear HC2
    try clear c1
    try clear p2
    try clear c3
    try clear c3b0
    obtain ⟨kq, x17_1, rfl, HA, HJ1, HB⟩ := hcut
    cases kq with
    | zero => exact absurd HA.out (by simp [civil_Of.j0])
    | succ kj1 =>
      have H := HA.out
      clear HA
      simp only [civil_Of.j0] at H
      by_cases c4 : x17_1 = true
      · subst c4
        have H1 : (some (0, 0, 0, false)) = some (r1, r2, r3, r4) := by rw [if_pos rfl] at H; exact H
        clear H
        have H := H1
        clear H1
        simp only [Option.some.injEq, Prod.mk.injEq] at H
        obtain ⟨rfl, rfl, rfl, rfl⟩ := H
        go_wp2
        refine bodyPost_ret (results_list (rs := [.tmp 2, .tmp 3, .tmp 4, .tmp 5]) rfl (by simp) (.tmp (.tmp (.tmp (.tmp .nil))))) rfl ?_
        exact ⟨by first | rfl | (simp [errW_none, errW_some] <;> rfl) | (simp [*, errW_none, errW_some] <;> rfl), by repeat (first | (with_reducible first | exact HB.out | apply below_alloc | apply pw_below_drewN | apply below_drew1) | exact HB.out)⟩
      · replace c4 := Bool.eq_false_iff.mpr c4
        subst c4
        have H1 : (if (wrap64 (Int.tdiv (wrap64 ((wrap64 (5 * (wrap64 ((wrap64 ((wrap64 ((Int.tmod (wrap64 (a0 + 719468)) 146097) - (wrap64 ((mn (wrap64 (Int.tdiv (Int.tmod (wrap64 (a0 + 719468)) 146097) 36524)) 3) * 36524)))) - (wrap64 ((wrap64 (Int.tdiv (wrap64 ((Int.tmod (wrap64 (a0 + 719468)) 146097) - (wrap64 ((mn (wrap64 (Int.tdiv (Int.tmod (wrap64 (a0 + 719468)) 146097) 36524)) 3) * 36524)))) 1461)) * 1461)))) - (wrap64 ((mn (wrap64 (Int.tdiv (wrap64 ((wrap64 ((Int.tmod (wrap64 (a0 + 719468)) 146097) - (wrap64 ((mn (wrap64 (Int.tdiv (Int.tmod (wrap64 (a0 + 719468)) 146097) 36524)) 3) * 36524)))) - (wrap64 ((wrap64 (Int.tdiv (wrap64 ((Int.tmod (wrap64 (a0 + 719468)) 146097) - (wrap64 ((mn (wrap64 (Int.tdiv (Int.tmod (wrap64 (a0 + 719468)) 146097) 36524)) 3) * 36524)))) 1461)) * 1461)))) 365)) 3) * 365)))))) + 2)) 153)) ≥ 10 then (some (wrap64 ((wrap64 ((wrap64 ((wrap64 (Int.tdiv (wrap64 (a0 + 719468)) 146097)) * 400)) + (wrap64 ((wrap64 ((wrap64 ((mn (wrap64 (Int.tdiv (Int.tmod (wrap64 (a0 + 719468)) 146097) 36524)) 3) * 100)) + (wrap64 ((wrap64 (Int.tdiv (wrap64 ((Int.tmod (wrap64 (a0 + 719468)) 146097) - (wrap64 ((mn (wrap64 (Int.tdiv (Int.tmod (wrap64 (a0 + 719468)) 146097) 36524)) 3) * 36524)))) 1461)) * 4)))) + (mn (wrap64 (Int.tdiv (wrap64 ((wrap64 ((Int.tmod (wrap64 (a0 + 719468)) 146097) - (wrap64 ((mn (wrap64 (Int.tdiv (Int.tmod (wrap64 (a0 + 719468)) 146097) 36524)) 3) * 36524)))) - (wrap64 ((wrap64 (Int.tdiv (wrap64 ((Int.tmod (wrap64 (a0 + 719468)) 146097) - (wrap64 ((mn (wrap64 (Int.tdiv (Int.tmod (wrap64 (a0 + 719468)) 146097) 36524)) 3) * 36524)))) 1461)) * 1461)))) 365)) 3))))) + 1), wrap64 ((Int.tmod (wrap64 ((wrap64 (Int.tdiv (wrap64 ((wrap64 (5 * (wrap64 ((wrap64 ((wrap64 ((Int.tmod (wrap64 (a0 + 719468)) 146097) - (wrap64 ((mn (wrap64 (Int.tdiv (Int.tmod (wrap64 (a0 + 719468)) 146097) 36524)) 3) * 36524)))) - (wrap64 ((wrap64 (Int.tdiv (wrap64 ((Int.tmod (wrap64 (a0 + 719468)) 146097) - (wrap64 ((mn (wrap64 (Int.tdiv (Int.tmod (wrap64 (a0 + 719468)) 146097) 36524)) 3) * 36524)))) 1461)) * 1461)))) - (wrap64 ((mn (wrap64 (Int.tdiv (wrap64 ((wrap64 ((Int.tmod (wrap64 (a0 + 719468)) 146097) - (wrap64 ((mn (wrap64 (Int.tdiv (Int.tmod (wrap64 (a0 + 719468)) 146097) 36524)) 3) * 36524)))) - (wrap64 ((wrap64 (Int.tdiv (wrap64 ((Int.tmod (wrap64 (a0 + 719468)) 146097) - (wrap64 ((mn (wrap64 (Int.tdiv (Int.tmod (wrap64 (a0 + 719468)) 146097) 36524)) 3) * 36524)))) 1461)) * 1461)))) 365)) 3) * 365)))))) + 2)) 153)) + 2)) 12) + 1), wrap64 ((wrap64 ((wrap64 ((wrap64 ((wrap64 ((Int.tmod (wrap64 (a0 + 719468)) 146097) - (wrap64 ((mn (wrap64 (Int.tdiv (Int.tmod (wrap64 (a0 + 719468)) 146097) 36524)) 3) * 36524)))) - (wrap64 ((wrap64 (Int.tdiv (wrap64 ((Int.tmod (wrap64 (a0 + 719468)) 146097) - (wrap64 ((mn (wrap64 (Int.tdiv (Int.tmod (wrap64 (a0 + 719468)) 146097) 36524)) 3) * 36524)))) 1461)) * 1461)))) - (wrap64 ((mn (wrap64 (Int.tdiv (wrap64 ((wrap64 ((Int.tmod (wrap64 (a0 + 719468)) 146097) - (wrap64 ((mn (wrap64 (Int.tdiv (Int.tmod (wrap64 (a0 + 719468)) 146097) 36524)) 3) * 36524)))) - (wrap64 ((wrap64 (Int.tdiv (wrap64 ((Int.tmod (wrap64 (a0 + 719468)) 146097) - (wrap64 ((mn (wrap64 (Int.tdiv (Int.tmod (wrap64 (a0 + 719468)) 146097) 36524)) 3) * 36524)))) 1461)) * 1461)))) 365)) 3) * 365)))) - (wrap64 (Int.tdiv (wrap64 ((wrap64 (153 * (wrap64 (Int.tdiv (wrap64 ((wrap64 (5 * (wrap64 ((wrap64 ((wrap64 ((Int.tmod (wrap64 (a0 + 719468)) 146097) - (wrap64 ((mn (wrap64 (Int.tdiv (Int.tmod (wrap64 (a0 + 719468)) 146097) 36524)) 3) * 36524)))) - (wrap64 ((wrap64 (Int.tdiv (wrap64 ((Int.tmod (wrap64 (a0 + 719468)) 146097) - (wrap64 ((mn (wrap64 (Int.tdiv (Int.tmod (wrap64 (a0 + 719468)) 146097) 36524)) 3) * 36524)))) 1461)) * 1461)))) - (wrap64 ((mn (wrap64 (Int.tdiv (wrap64 ((wrap64 ((Int.tmod (wrap64 (a0 + 719468)) 146097) - (wrap64 ((mn (wrap64 (Int.tdiv (Int.tmod (wrap64 (a0 + 719468)) 146097) 36524)) 3) * 36524)))) - (wrap64 ((wrap64 (Int.tdiv (wrap64 ((Int.tmod (wrap64 (a0 + 719468)) 146097) - (wrap64 ((mn (wrap64 (Int.tdiv (Int.tmod (wrap64 (a0 + 719468)) 146097) 36524)) 3) * 36524)))) 1461)) * 1461)))) 365)) 3) * 365)))))) + 2)) 153)))) + 2)) 5)))) + 1), true)) else (some (wrap64 ((wrap64 ((wrap64 (Int.tdiv (wrap64 (a0 + 719468)) 146097)) * 400)) + (wrap64 ((wrap64 ((wrap64 ((mn (wrap64 (Int.tdiv (Int.tmod (wrap64 (a0 + 719468)) 146097) 36524)) 3) * 100)) + (wrap64 ((wrap64 (Int.tdiv (wrap64 ((Int.tmod (wrap64 (a0 + 719468)) 146097) - (wrap64 ((mn (wrap64 (Int.tdiv (Int.tmod (wrap64 (a0 + 719468)) 146097) 36524)) 3) * 36524)))) 1461)) * 4)))) + (mn (wrap64 (Int.tdiv (wrap64 ((wrap64 ((Int.tmod (wrap64 (a0 + 719468)) 146097) - (wrap64 ((mn (wrap64 (Int.tdiv (Int.tmod (wrap64 (a0 + 719468)) 146097) 36524)) 3) * 36524)))) - (wrap64 ((wrap64 (Int.tdiv (wrap64 ((Int.tmod (wrap64 (a0 + 719468)) 146097) - (wrap64 ((mn (wrap64 (Int.tdiv (Int.tmod (wrap64 (a0 + 719468)) 146097) 36524)) 3) * 36524)))) 1461)) * 1461)))) 365)) 3)))), wrap64 ((Int.tmod (wrap64 ((wrap64 (Int.tdiv (wrap64 ((wrap64 (5 * (wrap64 ((wrap64 ((wrap64 ((Int.tmod (wrap64 (a0 + 719468)) 146097) - (wrap64 ((mn (wrap64 (Int.tdiv (Int.tmod (wrap64 (a0 + 719468)) 146097) 36524)) 3) * 36524)))) - (wrap64 ((wrap64 (Int.tdiv (wrap64 ((Int.tmod (wrap64 (a0 + 719468)) 146097) - (wrap64 ((mn (wrap64 (Int.tdiv (Int.tmod (wrap64 (a0 + 719468)) 146097) 36524)) 3) * 36524)))) 1461)) * 1461)))) - (wrap64 ((mn (wrap64 (Int.tdiv (wrap64 ((wrap64 ((Int.tmod (wrap64 (a0 + 719468)) 146097) - (wrap64 ((mn (wrap64 (Int.tdiv (Int.tmod (wrap64 (a0 + 719468)) 146097) 36524)) 3) * 36524)))) - (wrap64 ((wrap64 (Int.tdiv (wrap64 ((Int.tmod (wrap64 (a0 + 719468)) 146097) - (wrap64 ((mn (wrap64 (Int.tdiv (Int.tmod (wrap64 (a0 + 719468)) 146097) 36524)) 3) * 36524)))) 1461)) * 1461)))) 365)) 3) * 365)))))) + 2)) 153)) + 2)) 12) + 1), wrap64 ((wrap64 ((wrap64 ((wrap64 ((wrap64 ((Int.tmod (wrap64 (a0 + 719468)) 146097) - (wrap64 ((mn (wrap64 (Int.tdiv (Int.tmod (wrap64 (a0 + 719468)) 146097) 36524)) 3) * 36524)))) - (wrap64 ((wrap64 (Int.tdiv (wrap64 ((Int.tmod (wrap64 (a0 + 719468)) 146097) - (wrap64 ((mn (wrap64 (Int.tdiv (Int.tmod (wrap64 (a0 + 719468)) 146097) 36524)) 3) * 36524)))) 1461)) * 1461)))) - (wrap64 ((mn (wrap64 (Int.tdiv (wrap64 ((wrap64 ((Int.tmod (wrap64 (a0 + 719468)) 146097) - (wrap64 ((mn (wrap64 (Int.tdiv (Int.tmod (wrap64 (a0 + 719468)) 146097) 36524)) 3) * 36524)))) - (wrap64 ((wrap64 (Int.tdiv (wrap64 ((Int.tmod (wrap64 (a0 + 719468)) 146097) - (wrap64 ((mn (wrap64 (Int.tdiv (Int.tmod (wrap64 (a0 + 719468)) 146097) 36524)) 3) * 36524)))) 1461)) * 1461)))) 365)) 3) * 365)))) - (wrap64 (Int.tdiv (wrap64 ((wrap64 (153 * (wrap64 (Int.tdiv (wrap64 ((wrap64 (5 * (wrap64 ((wrap64 ((wrap64 ((Int.tmod (wrap64 (a0 + 719468)) 146097) - (wrap64 ((mn (wrap64 (Int.tdiv (Int.tmod (wrap64 (a0 + 719468)) 146097) 36524)) 3) * 36524)))) - (wrap64 ((wrap64 (Int.tdiv (wrap64 ((Int.tmod (wrap64 (a0 + 719468)) 146097) - (wrap64 ((mn (wrap64 (Int.tdiv (Int.tmod (wrap64 (a0 + 719468)) 146097) 36524)) 3) * 36524)))) 1461)) * 1461)))) - (wrap64 ((mn (wrap64 (Int.tdiv (wrap64 ((wrap64 ((Int.tmod (wrap64 (a0 + 719468)) 146097) - (wrap64 ((mn (wrap64 (Int.tdiv (Int.tmod (wrap64 (a0 + 719468)) 146097) 36524)) 3) * 36524)))) - (wrap64 ((wrap64 (Int.tdiv (wrap64 ((Int.tmod (wrap64 (a0 + 719468)) 146097) - (wrap64 ((mn (wrap64 (Int.tdiv (Int.tmod (wrap64 (a0 + 719468)) 146097) 36524)) 3) * 36524)))) 1461)) * 1461)))) 365)) 3) * 365)))))) + 2)) 153)))) + 2)) 5)))) + 1), true))) = some (r1, r2, r3, r4) := by rw [if_neg (show ¬ (false = true) by decide)] at H; exact H
        clear H
        have H := H1
        clear H1
        obtain ⟨ji5, hji5⟩ : ∃ j_ : Int, (mn (wrap64 (Int.tdiv (Int.tmod (wrap64 (a0 + 719468)) 146097) 36524)) 3) = j_ := ⟨_, rfl⟩
        replace H : (if (wrap64 (Int.tdiv (wrap64 ((wrap64 (5 * (wrap64 ((wrap64 ((wrap64 ((Int.tmod (wrap64 (a0 + 719468)) 146097) - (wrap64 ((ji5) * 36524)))) - (wrap64 ((wrap64 (Int.tdiv (wrap64 ((Int.tmod (wrap64 (a0 + 719468)) 146097) - (wrap64 ((ji5) * 36524)))) 1461)) * 1461)))) - (wrap64 ((mn (wrap64 (Int.tdiv (wrap64 ((wrap64 ((Int.tmod (wrap64 (a0 + 719468)) 146097) - (wrap64 ((ji5) * 36524)))) - (wrap64 ((wrap64 (Int.tdiv (wrap64 ((Int.tmod (wrap64 (a0 + 719468)) 146097) - (wrap64 ((ji5) * 36524)))) 1461)) * 1461)))) 365)) 3) * 365)))))) + 2)) 153)) ≥ 10 then (some (wrap64 ((wrap64 ((wrap64 ((wrap64 (Int.tdiv (wrap64 (a0 + 719468)) 146097)) * 400)) + (wrap64 ((wrap64 ((wrap64 ((ji5) * 100)) + (wrap64 ((wrap64 (Int.tdiv (wrap64 ((Int.tmod (wrap64 (a0 + 719468)) 146097) - (wrap64 ((ji5) * 36524)))) 1461)) * 4)))) + (mn (wrap64 (Int.tdiv (wrap64 ((wrap64 ((Int.tmod (wrap64 (a0 + 719468)) 146097) - (wrap64 ((ji5) * 36524)))) - (wrap64 ((wrap64 (Int.tdiv (wrap64 ((Int.tmod (wrap64 (a0 + 719468)) 146097) - (wrap64 ((ji5) * 36524)))) 1461)) * 1461)))) 365)) 3))))) + 1), wrap64 ((Int.tmod (wrap64 ((wrap64 (Int.tdiv (wrap64 ((wrap64 (5 * (wrap64 ((wrap64 ((wrap64 ((Int.tmod (wrap64 (a0 + 719468)) 146097) - (wrap64 ((ji5) * 36524)))) - (wrap64 ((wrap64 (Int.tdiv (wrap64 ((Int.tmod (wrap64 (a0 + 719468)) 146097) - (wrap64 ((ji5) * 36524)))) 1461)) * 1461)))) - (wrap64 ((mn (wrap64 (Int.tdiv (wrap64 ((wrap64 ((Int.tmod (wrap64 (a0 + 719468)) 146097) - (wrap64 ((ji5) * 36524)))) - (wrap64 ((wrap64 (Int.tdiv (wrap64 ((Int.tmod (wrap64 (a0 + 719468)) 146097) - (wrap64 ((ji5) * 36524)))) 1461)) * 1461)))) 365)) 3) * 365)))))) + 2)) 153)) + 2)) 12) + 1), wrap64 ((wrap64 ((wrap64 ((wrap64 ((wrap64 ((Int.tmod (wrap64 (a0 + 719468)) 146097) - (wrap64 ((ji5) * 36524)))) - (wrap64 ((wrap64 (Int.tdiv (wrap64 ((Int.tmod (wrap64 (a0 + 719468)) 146097) - (wrap64 ((ji5) * 36524)))) 1461)) * 1461)))) - (wrap64 ((mn (wrap64 (Int.tdiv (wrap64 ((wrap64 ((Int.tmod (wrap64 (a0 + 719468)) 146097) - (wrap64 ((ji5) * 36524)))) - (wrap64 ((wrap64 (Int.tdiv (wrap64 ((Int.tmod (wrap64 (a0 + 719468)) 146097) - (wrap64 ((ji5) * 36524)))) 1461)) * 1461)))) 365)) 3) * 365)))) - (wrap64 (Int.tdiv (wrap64 ((wrap64 (153 * (wrap64 (Int.tdiv (wrap64 ((wrap64 (5 * (wrap64 ((wrap64 ((wrap64 ((Int.tmod (wrap64 (a0 + 719468)) 146097) - (wrap64 ((ji5) * 36524)))) - (wrap64 ((wrap64 (Int.tdiv (wrap64 ((Int.tmod (wrap64 (a0 + 719468)) 146097) - (wrap64 ((ji5) * 36524)))) 1461)) * 1461)))) - (wrap64 ((mn (wrap64 (Int.tdiv (wrap64 ((wrap64 ((Int.tmod (wrap64 (a0 + 719468)) 146097) - (wrap64 ((ji5) * 36524)))) - (wrap64 ((wrap64 (Int.tdiv (wrap64 ((Int.tmod (wrap64 (a0 + 719468)) 146097) - (wrap64 ((ji5) * 36524)))) 1461)) * 1461)))) 365)) 3) * 365)))))) + 2)) 153)))) + 2)) 5)))) + 1), true)) else (some (wrap64 ((wrap64 ((wrap64 (Int.tdiv (wrap64 (a0 + 719468)) 146097)) * 400)) + (wrap64 ((wrap64 ((wrap64 ((ji5) * 100)) + (wrap64 ((wrap64 (Int.tdiv (wrap64 ((Int.tmod (wrap64 (a0 + 719468)) 146097) - (wrap64 ((ji5) * 36524)))) 1461)) * 4)))) + (mn (wrap64 (Int.tdiv (wrap64 ((wrap64 ((Int.tmod (wrap64 (a0 + 719468)) 146097) - (wrap64 ((ji5) * 36524)))) - (wrap64 ((wrap64 (Int.tdiv (wrap64 ((Int.tmod (wrap64 (a0 + 719468)) 146097) - (wrap64 ((ji5) * 36524)))) 1461)) * 1461)))) 365)) 3)))), wrap64 ((Int.tmod (wrap64 ((wrap64 (Int.tdiv (wrap64 ((wrap64 (5 * (wrap64 ((wrap64 ((wrap64 ((Int.tmod (wrap64 (a0 + 719468)) 146097) - (wrap64 ((ji5) * 36524)))) - (wrap64 ((wrap64 (Int.tdiv (wrap64 ((Int.tmod (wrap64 (a0 + 719468)) 146097) - (wrap64 ((ji5) * 36524)))) 1461)) * 1461)))) - (wrap64 ((mn (wrap64 (Int.tdiv (wrap64 ((wrap64 ((Int.tmod (wrap64 (a0 + 719468)) 146097) - (wrap64 ((ji5) * 36524)))) - (wrap64 ((wrap64 (Int.tdiv (wrap64 ((Int.tmod (wrap64 (a0 + 719468)) 146097) - (wrap64 ((ji5) * 36524)))) 1461)) * 1461)))) 365)) 3) * 365)))))) + 2)) 153)) + 2)) 12) + 1), wrap64 ((wrap64 ((wrap64 ((wrap64 ((wrap64 ((Int.tmod (wrap64 (a0 + 719468)) 146097) - (wrap64 ((ji5) * 36524)))) - (wrap64 ((wrap64 (Int.tdiv (wrap64 ((Int.tmod (wrap64 (a0 + 719468)) 146097) - (wrap64 ((ji5) * 36524)))) 1461)) * 1461)))) - (wrap64 ((mn (wrap64 (Int.tdiv (wrap64 ((wrap64 ((Int.tmod (wrap64 (a0 + 719468)) 146097) - (wrap64 ((ji5) * 36524)))) - (wrap64 ((wrap64 (Int.tdiv (wrap64 ((Int.tmod (wrap64 (a0 + 719468)) 146097) - (wrap64 ((ji5) * 36524)))) 1461)) * 1461)))) 365)) 3) * 365)))) - (wrap64 (Int.tdiv (wrap64 ((wrap64 (153 * (wrap64 (Int.tdiv (wrap64 ((wrap64 (5 * (wrap64 ((wrap64 ((wrap64 ((Int.tmod (wrap64 (a0 + 719468)) 146097) - (wrap64 ((ji5) * 36524)))) - (wrap64 ((wrap64 (Int.tdiv (wrap64 ((Int.tmod (wrap64 (a0 + 719468)) 146097) - (wrap64 ((ji5) * 36524)))) 1461)) * 1461)))) - (wrap64 ((mn (wrap64 (Int.tdiv (wrap64 ((wrap64 ((Int.tmod (wrap64 (a0 + 719468)) 146097) - (wrap64 ((ji5) * 36524)))) - (wrap64 ((wrap64 (Int.tdiv (wrap64 ((Int.tmod (wrap64 (a0 + 719468)) 146097) - (wrap64 ((ji5) * 36524)))) 1461)) * 1461)))) 365)) 3) * 365)))))) + 2)) 153)))) + 2)) 5)))) + 1), true))) = some (r1, r2, r3, r4) := by first | (rw [hji5] at H; exact H) | (simp only [hji5] at H ⊢; exact H)
        have hji5_ : (if 3 < (wrap64 (Int.tdiv (Int.tmod (wrap64 (a0 + 719468)) 146097) 36524)) then 3 else (wrap64 (Int.tdiv (Int.tmod (wrap64 (a0 + 719468)) 146097) 36524))) = ji5 := hji5
        obtain ⟨ji6, hji6⟩ : ∃ j_ : Int, (mn (wrap64 (Int.tdiv (wrap64 ((wrap64 ((Int.tmod (wrap64 (a0 + 719468)) 146097) - (wrap64 ((ji5) * 36524)))) - (wrap64 ((wrap64 (Int.tdiv (wrap64 ((Int.tmod (wrap64 (a0 + 719468)) 146097) - (wrap64 ((ji5) * 36524)))) 1461)) * 1461)))) 365)) 3) = j_ := ⟨_, rfl⟩
        replace H : (if (wrap64 (Int.tdiv (wrap64 ((wrap64 (5 * (wrap64 ((wrap64 ((wrap64 ((Int.tmod (wrap64 (a0 + 719468)) 146097) - (wrap64 ((ji5) * 36524)))) - (wrap64 ((wrap64 (Int.tdiv (wrap64 ((Int.tmod (wrap64 (a0 + 719468)) 146097) - (wrap64 ((ji5) * 36524)))) 1461)) * 1461)))) - (wrap64 ((ji6) * 365)))))) + 2)) 153)) ≥ 10 then (some (wrap64 ((wrap64 ((wrap64 ((wrap64 (Int.tdiv (wrap64 (a0 + 719468)) 146097)) * 400)) + (wrap64 ((wrap64 ((wrap64 ((ji5) * 100)) + (wrap64 ((wrap64 (Int.tdiv (wrap64 ((Int.tmod (wrap64 (a0 + 719468)) 146097) - (wrap64 ((ji5) * 36524)))) 1461)) * 4)))) + (ji6))))) + 1), wrap64 ((Int.tmod (wrap64 ((wrap64 (Int.tdiv (wrap64 ((wrap64 (5 * (wrap64 ((wrap64 ((wrap64 ((Int.tmod (wrap64 (a0 + 719468)) 146097) - (wrap64 ((ji5) * 36524)))) - (wrap64 ((wrap64 (Int.tdiv (wrap64 ((Int.tmod (wrap64 (a0 + 719468)) 146097) - (wrap64 ((ji5) * 36524)))) 1461)) * 1461)))) - (wrap64 ((ji6) * 365)))))) + 2)) 153)) + 2)) 12) + 1), wrap64 ((wrap64 ((wrap64 ((wrap64 ((wrap64 ((Int.tmod (wrap64 (a0 + 719468)) 146097) - (wrap64 ((ji5) * 36524)))) - (wrap64 ((wrap64 (Int.tdiv (wrap64 ((Int.tmod (wrap64 (a0 + 719468)) 146097) - (wrap64 ((ji5) * 36524)))) 1461)) * 1461)))) - (wrap64 ((ji6) * 365)))) - (wrap64 (Int.tdiv (wrap64 ((wrap64 (153 * (wrap64 (Int.tdiv (wrap64 ((wrap64 (5 * (wrap64 ((wrap64 ((wrap64 ((Int.tmod (wrap64 (a0 + 719468)) 146097) - (wrap64 ((ji5) * 36524)))) - (wrap64 ((wrap64 (Int.tdiv (wrap64 ((Int.tmod (wrap64 (a0 + 719468)) 146097) - (wrap64 ((ji5) * 36524)))) 1461)) * 1461)))) - (wrap64 ((ji6) * 365)))))) + 2)) 153)))) + 2)) 5)))) + 1), true)) else (some (wrap64 ((wrap64 ((wrap64 (Int.tdiv (wrap64 (a0 + 719468)) 146097)) * 400)) + (wrap64 ((wrap64 ((wrap64 ((ji5) * 100)) + (wrap64 ((wrap64 (Int.tdiv (wrap64 ((Int.tmod (wrap64 (a0 + 719468)) 146097) - (wrap64 ((ji5) * 36524)))) 1461)) * 4)))) + (ji6)))), wrap64 ((Int.tmod (wrap64 ((wrap64 (Int.tdiv (wrap64 ((wrap64 (5 * (wrap64 ((wrap64 ((wrap64 ((Int.tmod (wrap64 (a0 + 719468)) 146097) - (wrap64 ((ji5) * 36524)))) - (wrap64 ((wrap64 (Int.tdiv (wrap64 ((Int.tmod (wrap64 (a0 + 719468)) 146097) - (wrap64 ((ji5) * 36524)))) 1461)) * 1461)))) - (wrap64 ((ji6) * 365)))))) + 2)) 153)) + 2)) 12) + 1), wrap64 ((wrap64 ((wrap64 ((wrap64 ((wrap64 ((Int.tmod (wrap64 (a0 + 719468)) 146097) - (wrap64 ((ji5) * 36524)))) - (wrap64 ((wrap64 (Int.tdiv (wrap64 ((Int.tmod (wrap64 (a0 + 719468)) 146097) - (wrap64 ((ji5) * 36524)))) 1461)) * 1461)))) - (wrap64 ((ji6) * 365)))) - (wrap64 (Int.tdiv (wrap64 ((wrap64 (153 * (wrap64 (Int.tdiv (wrap64 ((wrap64 (5 * (wrap64 ((wrap64 ((wrap64 ((Int.tmod (wrap64 (a0 + 719468)) 146097) - (wrap64 ((ji5) * 36524)))) - (wrap64 ((wrap64 (Int.tdiv (wrap64 ((Int.tmod (wrap64 (a0 + 719468)) 146097) - (wrap64 ((ji5) * 36524)))) 1461)) * 1461)))) - (wrap64 ((ji6) * 365)))))) + 2)) 153)))) + 2)) 5)))) + 1), true))) = some (r1, r2, r3, r4) := by first | (rw [hji6] at H; exact H) | (simp only [hji6] at H ⊢; exact H)
        have hji6_ : (if 3 < (wrap64 (Int.tdiv (wrap64 ((wrap64 ((Int.tmod (wrap64 (a0 + 719468)) 146097) - (wrap64 ((ji5) * 36524)))) - (wrap64 ((wrap64 (Int.tdiv (wrap64 ((Int.tmod (wrap64 (a0 + 719468)) 146097) - (wrap64 ((ji5) * 36524)))) 1461)) * 1461)))) 365)) then 3 else (wrap64 (Int.tdiv (wrap64 ((wrap64 ((Int.tmod (wrap64 (a0 + 719468)) 146097) - (wrap64 ((ji5) * 36524)))) - (wrap64 ((wrap64 (Int.tdiv (wrap64 ((Int.tmod (wrap64 (a0 + 719468)) 146097) - (wrap64 ((ji5) * 36524)))) 1461)) * 1461)))) 365))) = ji6 := hji6
        by_cases c7 : (wrap64 (Int.tdiv (wrap64 ((wrap64 (5 * (wrap64 ((wrap64 ((wrap64 ((Int.tmod (wrap64 (a0 + 719468)) 146097) - (wrap64 ((ji5) * 36524)))) - (wrap64 ((wrap64 (Int.tdiv (wrap64 ((Int.tmod (wrap64 (a0 + 719468)) 146097) - (wrap64 ((ji5) * 36524)))) 1461)) * 1461)))) - (wrap64 ((ji6) * 365)))))) + 2)) 153)) ≥ 10
        · rw [if_pos c7] at H
          have c7b0 : decide (10 ≤ (wrap64 (Int.tdiv (wrap64 ((wrap64 (5 * (wrap64 ((wrap64 ((wrap64 ((Int.tmod (wrap64 (a0 + 719468)) 146097) - (wrap64 ((ji5) * 36524)))) - (wrap64 ((wrap64 (Int.tdiv (wrap64 ((Int.tmod (wrap64 (a0 + 719468)) 146097) - (wrap64 ((ji5) * 36524)))) 1461)) * 1461)))) - (wrap64 ((ji6) * 365)))))) + 2)) 153))) = true := decide_eq_true c7
          clear c7
          simp only [Option.some.injEq, Prod.mk.injEq] at H
          obtain ⟨rfl, rfl, rfl, rfl⟩ := H
          go_wp2
          refine bodyPost_ret (results_list (rs := [.tmp 2, .tmp 3, .tmp 4, .tmp 5]) rfl (by simp) (.tmp (.tmp (.tmp (.tmp .nil))))) rfl ?_
          exact ⟨by first | rfl | (simp [errW_none, errW_some] <;> rfl) | (simp only [← hji5, ← hji6]; first | rfl | (simp [errW_none, errW_some] <;> rfl)) | (simp [*, errW_none, errW_some] <;> rfl), by repeat (first | (with_reducible first | exact HB.out | apply below_alloc | apply pw_below_drewN | apply below_drew1) | exact HB.out)⟩
        · rw [if_neg c7] at H
          have c7b0 : decide (10 ≤ (wrap64 (Int.tdiv (wrap64 ((wrap64 (5 * (wrap64 ((wrap64 ((wrap64 ((Int.tmod (wrap64 (a0 + 719468)) 146097) - (wrap64 ((ji5) * 36524)))) - (wrap64 ((wrap64 (Int.tdiv (wrap64 ((Int.tmod (wrap64 (a0 + 719468)) 146097) - (wrap64 ((ji5) * 36524)))) 1461)) * 1461)))) - (wrap64 ((ji6) * 365)))))) + 2)) 153))) = false := decide_eq_false c7
          clear c7
          simp only [Option.some.injEq, Prod.mk.injEq] at H
          obtain ⟨rfl, rfl, rfl, rfl⟩ := H
          go_wp2
          refine bodyPost_ret (results_list (rs := [.tmp 2, .tmp 3, .tmp 4, .tmp 5]) rfl (by simp) (.tmp (.tmp (.tmp (.tmp .nil))))) rfl ?_
          exact ⟨by first | rfl | (simp [errW_none, errW_some] <;> rfl) | (simp only [← hji5, ← hji6]; first | rfl | (simp [errW_none, errW_some] <;> rfl)) | (simp [*, errW_none, errW_some] <;> rfl), by repeat (first | (with_reducible first | exact HB.out | apply below_alloc | apply pw_below_drewN | apply below_drew1) | exact HB.out)⟩
end Go.Proofs.Ytjnhghplfdiijaa.Q

namespace Go.Proofs.Ytjnhghplfdiijaa.Q
open Go.RowKit Go.Proofs.YtjnhghplfdiijaaW.PrintWords Go.Proofs.YtjnhghplfdiijaaW.PrintLast Go.Proofs.YtjnhghplfdiijaaW.PrintMore
attribute [local go_sem] max2_int min2_int max_two min_two max_three min_three max_four min_four
set_option linter.unusedVariables false
set_option linter.unusedSimpArgs false
def civil_right.f (a0 : Int) (a1 : Int) (a2 : Int) : Option (Bool) := if a0 ≥ 1 then (if a0 ≤ 9999 then (if a2 ≥ 1 then ((civil_Long.f a0 a1).bind fun t101 => (some (decide (a2 ≤ t101)))) else (some false)) else (some false)) else (some false)
set_option maxHeartbeats 8000000 in
set_option maxRecDepth 100000 in
theorem civil_right.calls (a0 : Int) (a1 : Int) (a2 : Int) (r : Bool) (w : World) (h : civil_right.f a0 a1 a2 = some r) :
    Calls Try.prog 149 #[.int .i64 a0, .int .i64 a1, .int .i64 a2] w fun e w' => e = .returned (.bool r) ∧ Below w.heap.size w w' := by
  have HB := Aside0.mk (Below.refl w.heap.size w)
  have H : (if a0 ≥ 1 then (if a0 ≤ 9999 then (if a2 ≥ 1 then ((civil_Long.f a0 a1).bind fun t101 => (some (decide (a2 ≤ t101)))) else (some false)) else (some false)) else (some false)) = some r := h
  clear h
  by_cases c4 : a0 ≥ 1
  · rw [if_pos c4] at H
    have c4b0 : decide (1 ≤ a0) = true := decide_eq_true c4
    clear c4
    by_cases c5 : a0 ≤ 9999
    · rw [if_pos c5] at H
      have c5b0 : decide (a0 ≤ 9999) = true := decide_eq_true c5
      clear c5
      by_cases c6 : a2 ≥ 1
      · rw [if_pos c6] at H
        have c6b0 : decide (1 ≤ a2) = true := decide_eq_true c6
        clear c6
        replace H := Option.bind_eq_some_iff.mp H
        obtain ⟨t101, A70, H⟩ := H
        (try dsimp only at H)
        have A7 := Aside0.mk A70
        clear A70
        obtain rfl := Option.some.inj H
        go_enter Try.func149, Try.ntmps149
        go_wp2_with (first | (go_at_call 183; (with_reducible refine (civil_Long.calls a0 a1 t101 _ A7.out).mono ?_); rintro e w8 ⟨rfl, hb⟩; have n0_ := Aside0.mk (below_step (by repeat (first | (with_reducible first | exact HB.out | apply below_alloc | apply pw_below_drewN | apply below_drew1) | exact HB.out)) hb); clear HB; have HB := n0_; clear n0_; (try clear hb); (try clear hb2); (try clear hk); (try clear hi)))
        go_ret
        exact ⟨by first | rfl | (simp [errW_none, errW_some] <;> rfl) | (simp [*, errW_none, errW_some] <;> rfl), by repeat (first | (with_reducible first | exact HB.out | apply below_alloc | apply pw_below_drewN | apply below_drew1) | exact HB.out)⟩
      · rw [if_neg c6] at H
        have c6b0 : decide (1 ≤ a2) = false := decide_eq_false c6
        clear c6
        obtain rfl := Option.some.inj H
        go_enter Try.func149, Try.ntmps149
        go_wp2
        go_ret
        exact ⟨by first | rfl | (simp [errW_none, errW_some] <;> rfl) | (simp [*, errW_none, errW_some] <;> rfl), by repeat (first | (with_reducible first | exact HB.out | apply below_alloc | apply pw_below_drewN | apply below_drew1) | exact HB.out)⟩
    · rw [if_neg c5] at H
      have c5b0 : decide (a0 ≤ 9999) = false := decide_eq_false c5
      clear c5
      obtain rfl := Option.some.inj H
      go_enter Try.func149, Try.ntmps149
      go_wp2
      go_ret
      exact ⟨by first | rfl | (simp [errW_none, errW_some] <;> rfl) | (simp [*, errW_none, errW_some] <;> rfl), by repeat (first | (with_reducible first | exact HB.out | apply below_alloc | apply pw_below_drewN | apply below_drew1) | exact HB.out)⟩
  · rw [if_neg c4] at H
    have c4b0 : decide (1 ≤ a0) = false := decide_eq_false c4
    clear c4
    obtain rfl := Option.some.inj H
    go_enter Try.func149, Try.ntmps149
    go_wp2
    go_ret
    exact ⟨by first | rfl | (simp [errW_none, errW_some] <;> rfl) | (simp [*, errW_none, errW_some] <;> rfl), by repeat (first | (with_reducible first | exact HB.out | apply below_alloc | apply pw_below_drewN | apply below_drew1) | exact HB.out)⟩
end Go.Proofs.Ytjnhghplfdiijaa.Q

namespace Go.Proofs.Ytjnhghplfdiijaa.Q
open Go.RowKit Go.Proofs.YtjnhghplfdiijaaW.PrintWords Go.Proofs.YtjnhghplfdiijaaW.PrintLast Go.Proofs.YtjnhghplfdiijaaW.PrintMore
attribute [local go_sem] max2_int min2_int max_two min_two max_three min_three max_four min_four
set_option linter.unusedVariables false
set_option linter.unusedSimpArgs false
def civil_Days.f (a0 : Int) (a1 : Int) (a2 : Int) : Option (Int × Bool) := (civil_right.f a0 a1 a2).bind fun t101 => (if t101 = true then (if (Int.tmod (wrap64 (a1 + 9)) 12) ≥ 10 then (some (wrap64 ((wrap64 ((wrap64 ((wrap64 ((wrap64 ((wrap64 ((wrap64 ((wrap64 ((wrap64 (a0 - 1)) * 365)) + (wrap64 (Int.tdiv (wrap64 (a0 - 1)) 4)))) - (wrap64 (Int.tdiv (wrap64 (a0 - 1)) 100)))) + (wrap64 (Int.tdiv (wrap64 (a0 - 1)) 400)))) + (wrap64 (Int.tdiv (wrap64 ((wrap64 (153 * (Int.tmod (wrap64 (a1 + 9)) 12))) + 2)) 5)))) + a2)) - 1)) - 719468), true)) else (some (wrap64 ((wrap64 ((wrap64 ((wrap64 ((wrap64 ((wrap64 ((wrap64 ((wrap64 (a0 * 365)) + (wrap64 (Int.tdiv a0 4)))) - (wrap64 (Int.tdiv a0 100)))) + (wrap64 (Int.tdiv a0 400)))) + (wrap64 (Int.tdiv (wrap64 ((wrap64 (153 * (Int.tmod (wrap64 (a1 + 9)) 12))) + 2)) 5)))) + a2)) - 1)) - 719468), true))) else (some (0, false)))
set_option maxHeartbeats 8000000 in
set_option maxRecDepth 100000 in
theorem civil_Days.calls (a0 : Int) (a1 : Int) (a2 : Int) (r1 : Int) (r2 : Bool) (w : World) (h : civil_Days.f a0 a1 a2 = some (r1, r2)) :
    Calls Try.prog 99 #[.int .i64 a0, .int .i64 a1, .int .i64 a2] w fun e w' => e = .returned (.tuple #[.int .i64 r1, .bool r2]) ∧ Below w.heap.size w w' := by
  have HB := Aside0.mk (Below.refl w.heap.size w)
  have H : ((civil_right.f a0 a1 a2).bind fun t101 => (if t101 = true then (if (Int.tmod (wrap64 (a1 + 9)) 12) ≥ 10 then (some (wrap64 ((wrap64 ((wrap64 ((wrap64 ((wrap64 ((wrap64 ((wrap64 ((wrap64 ((wrap64 (a0 - 1)) * 365)) + (wrap64 (Int.tdiv (wrap64 (a0 - 1)) 4)))) - (wrap64 (Int.tdiv (wrap64 (a0 - 1)) 100)))) + (wrap64 (Int.tdiv (wrap64 (a0 - 1)) 400)))) + (wrap64 (Int.tdiv (wrap64 ((wrap64 (153 * (Int.tmod (wrap64 (a1 + 9)) 12))) + 2)) 5)))) + a2)) - 1)) - 719468), true)) else (some (wrap64 ((wrap64 ((wrap64 ((wrap64 ((wrap64 ((wrap64 ((wrap64 ((wrap64 (a0 * 365)) + (wrap64 (Int.tdiv a0 4)))) - (wrap64 (Int.tdiv a0 100)))) + (wrap64 (Int.tdiv a0 400)))) + (wrap64 (Int.tdiv (wrap64 ((wrap64 (153 * (Int.tmod (wrap64 (a1 + 9)) 12))) + 2)) 5)))) + a2)) - 1)) - 719468), true))) else (some (0, false)))) = some (r1, r2) := h
  clear h
  replace H := Option.bind_eq_some_iff.mp H
  obtain ⟨t101, A40, H⟩ := H
  (try dsimp only at H)
  have A4 := Aside0.mk A40
  clear A40
  by_cases c5 : t101 = true
  · subst c5
    have H1 : (if (Int.tmod (wrap64 (a1 + 9)) 12) ≥ 10 then (some (wrap64 ((wrap64 ((wrap64 ((wrap64 ((wrap64 ((wrap64 ((wrap64 ((wrap64 ((wrap64 (a0 - 1)) * 365)) + (wrap64 (Int.tdiv (wrap64 (a0 - 1)) 4)))) - (wrap64 (Int.tdiv (wrap64 (a0 - 1)) 100)))) + (wrap64 (Int.tdiv (wrap64 (a0 - 1)) 400)))) + (wrap64 (Int.tdiv (wrap64 ((wrap64 (153 * (Int.tmod (wrap64 (a1 + 9)) 12))) + 2)) 5)))) + a2)) - 1)) - 719468), true)) else (some (wrap64 ((wrap64 ((wrap64 ((wrap64 ((wrap64 ((wrap64 ((wrap64 ((wrap64 (a0 * 365)) + (wrap64 (Int.tdiv a0 4)))) - (wrap64 (Int.tdiv a0 100)))) + (wrap64 (Int.tdiv a0 400)))) + (wrap64 (Int.tdiv (wrap64 ((wrap64 (153 * (Int.tmod (wrap64 (a1 + 9)) 12))) + 2)) 5)))) + a2)) - 1)) - 719468), true))) = some (r1, r2) := by rw [if_pos rfl] at H; exact H
    clear H
    have H := H1
    clear H1
    by_cases c6 : (Int.tmod (wrap64 (a1 + 9)) 12) ≥ 10
    · rw [if_pos c6] at H
      have c6b0 : decide (10 ≤ (Int.tmod (wrap64 (a1 + 9)) 12)) = true := decide_eq_true c6
      clear c6
      simp only [Option.some.injEq, Prod.mk.injEq] at H
      obtain ⟨rfl, rfl⟩ := H
      go_enter Try.func99, Try.ntmps99
      go_wp2_with (first | ((with_reducible refine gate_callee (f := 149) rfl ?_); refine goesL_ (some 13) rfl rfl Try.func149 (by kernel_rfl) rfl #[.int .i64 a0, .int .i64 a1, .int .i64 a2] rfl (by (try simp only [List.map_toArray, List.map_cons, List.map_nil]); first | done | rfl | (simp only [List.length_drop, List.length_take]; rfl)) ?_; (with_reducible refine (civil_right.calls a0 a1 a2 true _ A4.out).mono ?_); rintro e w7 ⟨rfl, hb⟩; refine ⟨_, rfl, ?_⟩; have n0_ := Aside0.mk (below_step (by repeat (first | (with_reducible first | exact HB.out | apply below_alloc | apply pw_below_drewN | apply below_drew1) | exact HB.out)) hb); clear HB; have HB := n0_; clear n0_; (try clear hb); (try clear hb2); (try clear hk); (try clear hi)))
      go_ret2
      exact ⟨by first | rfl | (simp [errW_none, errW_some] <;> rfl) | (simp [*, errW_none, errW_some] <;> rfl), by repeat (first | (with_reducible first | exact HB.out | apply below_alloc | apply pw_below_drewN | apply below_drew1) | exact HB.out)⟩
    · rw [if_neg c6] at H
      have c6b0 : decide (10 ≤ (Int.tmod (wrap64 (a1 + 9)) 12)) = false := decide_eq_false c6
      clear c6
      simp only [Option.some.injEq, Prod.mk.injEq] at H
      obtain ⟨rfl, rfl⟩ := H
      go_enter Try.func99, Try.ntmps99
      go_wp2_with (first | ((with_reducible refine gate_callee (f := 149) rfl ?_); refine goesL_ (some 13) rfl rfl Try.func149 (by kernel_rfl) rfl #[.int .i64 a0, .int .i64 a1, .int .i64 a2] rfl (by (try simp only [List.map_toArray, List.map_cons, List.map_nil]); first | done | rfl | (simp only [List.length_drop, List.length_take]; rfl)) ?_; (with_reducible refine (civil_right.calls a0 a1 a2 true _ A4.out).mono ?_); rintro e w8 ⟨rfl, hb⟩; refine ⟨_, rfl, ?_⟩; have n0_ := Aside0.mk (below_step (by repeat (first | (with_reducible first | exact HB.out | apply below_alloc | apply pw_below_drewN | apply below_drew1) | exact HB.out)) hb); clear HB; have HB := n0_; clear n0_; (try clear hb); (try clear hb2); (try clear hk); (try clear hi)))
      go_ret2
      exact ⟨by first | rfl | (simp [errW_none, errW_some] <;> rfl) | (simp [*, errW_none, errW_some] <;> rfl), by repeat (first | (with_reducible first | exact HB.out | apply below_alloc | apply pw_below_drewN | apply below_drew1) | exact HB.out)⟩
  · replace c5 := Bool.eq_false_iff.mpr c5
    subst c5
    have H1 : (some (0, false)) = some (r1, r2) := by rw [if_neg (show ¬ (false = true) by decide)] at H; exact H
    clear H
    have H := H1
    clear H1
    simp only [Option.some.injEq, Prod.mk.injEq] at H
    obtain ⟨rfl, rfl⟩ := H
    go_enter Try.func99, Try.ntmps99
    go_wp2_with (first | ((with_reducible refine gate_callee (f := 149) rfl ?_); refine goesL_ (some 13) rfl rfl Try.func149 (by kernel_rfl) rfl #[.int .i64 a0, .int .i64 a1, .int .i64 a2] rfl (by (try simp only [List.map_toArray, List.map_cons, List.map_nil]); first | done | rfl | (simp only [List.length_drop, List.length_take]; rfl)) ?_; (with_reducible refine (civil_right.calls a0 a1 a2 false _ A4.out).mono ?_); rintro e w9 ⟨rfl, hb⟩; refine ⟨_, rfl, ?_⟩; have n0_ := Aside0.mk (below_step (by repeat (first | (with_reducible first | exact HB.out | apply below_alloc | apply pw_below_drewN | apply below_drew1) | exact HB.out)) hb); clear HB; have HB := n0_; clear n0_; (try clear hb); (try clear hb2); (try clear hk); (try clear hi)))
    go_ret2
    exact ⟨by first | rfl | (simp [errW_none, errW_some] <;> rfl) | (simp [*, errW_none, errW_some] <;> rfl), by repeat (first | (with_reducible first | exact HB.out | apply below_alloc | apply pw_below_drewN | apply below_drew1) | exact HB.out)⟩
end Go.Proofs.Ytjnhghplfdiijaa.Q

namespace Go.Proofs.Ytjnhghplfdiijaa.Q
open Go.RowKit Go.Proofs.YtjnhghplfdiijaaW.PrintWords Go.Proofs.YtjnhghplfdiijaaW.PrintLast Go.Proofs.YtjnhghplfdiijaaW.PrintMore
attribute [local go_sem] max2_int min2_int max_two min_two max_three min_three max_four min_four
set_option linter.unusedVariables false
set_option linter.unusedSimpArgs false
def civil_Weekday.f (a0 : Int) : Option (Int) := some (Int.tmod (wrap64 ((Int.tmod a0 7) + 11)) 7)
set_option maxHeartbeats 8000000 in
set_option maxRecDepth 100000 in
theorem civil_Weekday.calls (a0 : Int) (r : Int) (w : World) (h : civil_Weekday.f a0 = some r) :
    Calls Try.prog 100 #[.int .i64 a0] w fun e w' => e = .returned (.int .i64 r) ∧ Drawn0 w w' := by
  have H : (some (Int.tmod (wrap64 ((Int.tmod a0 7) + 11)) 7)) = some r := h
  clear h
  obtain rfl := Option.some.inj H
  go_enter Try.func100, Try.ntmps100
  go_wp2
  go_ret
  exact ⟨by first | rfl | (simp; done) | (simp [*]; done), by repeat (first | exact Drawn0.refl _ | apply Drawn0.step)⟩
end Go.Proofs.Ytjnhghplfdiijaa.Q

namespace Go.Proofs.Ytjnhghplfdiijaa.Q
open Go.RowKit Go.Proofs.YtjnhghplfdiijaaW.PrintWords Go.Proofs.YtjnhghplfdiijaaW.PrintLast Go.Proofs.YtjnhghplfdiijaaW.PrintMore
attribute [local go_sem] max2_int min2_int max_two min_two max_three min_three max_four min_four
set_option linter.unusedVariables false
set_option linter.unusedSimpArgs false
def abutmentref05_Leap.f (a0 : Int) : Option (Bool) := if (Int.tmod a0 400) = 0 then (some true) else (if (Int.tmod a0 4) = 0 then (some ((Int.tmod a0 100) != 0)) else (some false))
set_option maxHeartbeats 8000000 in
set_option maxRecDepth 100000 in
theorem abutmentref05_Leap.calls (a0 : Int) (r : Bool) (w : World) (h : abutmentref05_Leap.f a0 = some r) :
    Calls Try.prog 187 #[.int .i64 a0] w fun e w' => e = .returned (.bool r) ∧ Drawn0 w w' := by
  have H : (if (Int.tmod a0 400) = 0 then (some true) else (if (Int.tmod a0 4) = 0 then (some ((Int.tmod a0 100) != 0)) else (some false))) = some r := h
  clear h
  by_cases c2 : (Int.tmod a0 400) = 0
  · rw [if_pos c2] at H
    have c2b0 : ((Int.tmod a0 400) == 0) = true := beq_iff_eq.mpr c2
    have c2b1 : ((Int.tmod a0 400) != 0) = false := bne_eq_false_iff_eq.mpr c2
    clear c2
    obtain rfl := Option.some.inj H
    go_enter Try.func187, Try.ntmps187
    go_wp2
    go_ret
    exact ⟨by first | rfl | (simp; done) | (simp [*]; done), by repeat (first | exact Drawn0.refl _ | apply Drawn0.step)⟩
  · rw [if_neg c2] at H
    have c2b0 : ((Int.tmod a0 400) == 0) = false := beq_eq_false_iff_ne.mpr c2
    have c2b1 : ((Int.tmod a0 400) != 0) = true := bne_iff_ne.mpr c2
    by_cases c3 : (Int.tmod a0 4) = 0
    · rw [if_pos c3] at H
      have c3b0 : ((Int.tmod a0 4) == 0) = true := beq_iff_eq.mpr c3
      have c3b1 : ((Int.tmod a0 4) != 0) = false := bne_eq_false_iff_eq.mpr c3
      clear c3
      obtain rfl := Option.some.inj H
      go_enter Try.func187, Try.ntmps187
      go_wp2
      go_ret
      exact ⟨by first | rfl | (simp; done) | (simp [*]; done), by repeat (first | exact Drawn0.refl _ | apply Drawn0.step)⟩
    · rw [if_neg c3] at H
      have c3b0 : ((Int.tmod a0 4) == 0) = false := beq_eq_false_iff_ne.mpr c3
      have c3b1 : ((Int.tmod a0 4) != 0) = true := bne_iff_ne.mpr c3
      obtain rfl := Option.some.inj H
      go_enter Try.func187, Try.ntmps187
      go_wp2
      go_ret
      exact ⟨by first | rfl | (simp; done) | (simp [*]; done), by repeat (first | exact Drawn0.refl _ | apply Drawn0.step)⟩
end Go.Proofs.Ytjnhghplfdiijaa.Q

namespace Go.Proofs.Ytjnhghplfdiijaa.Q
open Go.RowKit Go.Proofs.YtjnhghplfdiijaaW.PrintWords Go.Proofs.YtjnhghplfdiijaaW.PrintLast Go.Proofs.YtjnhghplfdiijaaW.PrintMore
attribute [local go_sem] max2_int min2_int max_two min_two max_three min_three max_four min_four
set_option linter.unusedVariables false
set_option linter.unusedSimpArgs false
def abutmentref05_whole.f (a0 : Int) : Option (Int) := (abutmentref05_Leap.f a0).bind fun t101 => (if t101 = true then (some 366) else (some 365))
set_option maxHeartbeats 8000000 in
set_option maxRecDepth 100000 in
theorem abutmentref05_whole.calls (a0 : Int) (r : Int) (w : World) (h : abutmentref05_whole.f a0 = some r) :
    Calls Try.prog 157 #[.int .i64 a0] w fun e w' => e = .returned (.int .i64 r) ∧ Drawn0 w w' := by
  have H : ((abutmentref05_Leap.f a0).bind fun t101 => (if t101 = true then (some 366) else (some 365))) = some r := h
  clear h
  replace H := Option.bind_eq_some_iff.mp H
  obtain ⟨t101, A20, H⟩ := H
  (try dsimp only at H)
  have A2 := Aside0.mk A20
  clear A20
  by_cases c3 : t101 = true
  · subst c3
    have H1 : (some 366) = some r := by rw [if_pos rfl] at H; exact H
    clear H
    have H := H1
    clear H1
    obtain rfl := Option.some.inj H
    go_enter Try.func157, Try.ntmps157
    go_wp2_with (first | ((with_reducible refine gate_callee (f := 187) rfl ?_); refine goesL_ (some 4) rfl rfl Try.func187 (by kernel_rfl) rfl #[.int .i64 a0] rfl (by (try simp only [List.map_toArray, List.map_cons, List.map_nil]); first | done | rfl | (simp only [List.length_drop, List.length_take]; rfl)) ?_; (with_reducible refine (abutmentref05_Leap.calls a0 true _ A2.out).mono ?_); rintro e w' ⟨rfl, ⟨nd, rfl⟩⟩; refine ⟨_, rfl, ?_⟩))
    go_ret
    exact ⟨by first | rfl | (simp; done) | (simp [*]; done), by repeat (first | exact Drawn0.refl _ | apply Drawn0.step)⟩
  · replace c3 := Bool.eq_false_iff.mpr c3
    subst c3
    have H1 : (some 365) = some r := by rw [if_neg (show ¬ (false = true) by decide)] at H; exact H
    clear H
    have H := H1
    clear H1
    obtain rfl := Option.some.inj H
    go_enter Try.func157, Try.ntmps157
    go_wp2_with (first | ((with_reducible refine gate_callee (f := 187) rfl ?_); refine goesL_ (some 4) rfl rfl Try.func187 (by kernel_rfl) rfl #[.int .i64 a0] rfl (by (try simp only [List.map_toArray, List.map_cons, List.map_nil]); first | done | rfl | (simp only [List.length_drop, List.length_take]; rfl)) ?_; (with_reducible refine (abutmentref05_Leap.calls a0 false _ A2.out).mono ?_); rintro e w' ⟨rfl, ⟨nd, rfl⟩⟩; refine ⟨_, rfl, ?_⟩))
    go_ret
    exact ⟨by first | rfl | (simp; done) | (simp [*]; done), by repeat (first | exact Drawn0.refl _ | apply Drawn0.step)⟩
end Go.Proofs.Ytjnhghplfdiijaa.Q

namespace Go.Proofs.Ytjnhghplfdiijaa.Q
open Go.RowKit Go.Proofs.YtjnhghplfdiijaaW.PrintWords Go.Proofs.YtjnhghplfdiijaaW.PrintLast Go.Proofs.YtjnhghplfdiijaaW.PrintMore
attribute [local go_sem] max2_int min2_int max_two min_two max_three min_three max_four min_four
set_option linter.unusedVariables false
set_option linter.unusedSimpArgs false
mutual
def abutmentref05_Long.j0 : Nat → Int → Bool → Option (Int)
  | 0, _, _ => none
  | k + 1, x1, x10 => if x10 = true then (some 29) else (if x1 = 2 then (some 28) else (if x1 = 4 then (abutmentref05_Long.j1 k x1 true) else (if x1 = 6 then (abutmentref05_Long.j1 k x1 true) else (if x1 = 9 then (abutmentref05_Long.j1 k x1 true) else (abutmentref05_Long.j1 k x1 (x1 == 11))))))
def abutmentref05_Long.j1 : Nat → Int → Bool → Option (Int)
  | 0, _, _ => none
  | k + 1, x1, x26 => if x26 = true then (some 30) else (if x1 < 1 then (some 0) else (if x1 > 12 then (some 0) else (some 31)))
end
def abutmentref05_Long.f (k : Nat) (a0 : Int) (a1 : Int) : Option (Int) := if a1 = 2 then ((abutmentref05_Leap.f a0).bind fun t101 => (abutmentref05_Long.j0 k a1 t101)) else (abutmentref05_Long.j0 k a1 false)
set_option maxHeartbeats 8000000 in
set_option maxRecDepth 100000 in
theorem abutmentref05_Long.calls (k : Nat) (a0 : Int) (a1 : Int) (r : Int) (w : World) (h : abutmentref05_Long.f k a0 a1 = some r) :
    Calls Try.prog 158 #[.int .i64 a0, .int .i64 a1] w fun e w' => e = .returned (.int .i64 r) ∧ Drawn0 w w' := by
  have H : (if a1 = 2 then ((abutmentref05_Leap.f a0).bind fun t101 => (abutmentref05_Long.j0 k a1 t101)) else (abutmentref05_Long.j0 k a1 false)) = some r := h
  clear h
  have HC3 := Aside0.mk H
  clear H
  go_enter Try.func158, Try.ntmps158
  go_upto_region 1 with (fail)
  go_cut [10] (fun v10 wc => ∃ (kq : Nat) (x10_2 : Bool), v10 = .bool x10_2 ∧ Aside0 (abutmentref05_Long.j0 kq a1 x10_2 = some r) ∧ Aside0 (kq ≤ k) ∧ Drawn0 w wc)
  case first =>
    have H := HC3.out
    clear HC3
    by_cases c4 : a1 = 2
    · rw [if_pos c4] at H
      have c4b0 : (a1 == 2) = true := beq_iff_eq.mpr c4
      have c4b1 : (a1 != 2) = false := bne_eq_false_iff_eq.mpr c4
      clear c4
      (first | rw [c4b0] | (simp only [i64_w, i32_w]; rw [c4b0]) | skip)
      replace H := Option.bind_eq_some_iff.mp H
      obtain ⟨t101, A50, H⟩ := H
      (try dsimp only at H)
      have A5 := Aside0.mk A50
      clear A50
      have H' := Aside0.mk H
      clear H
      go_wp2_with (first | (go_at_call 187; (with_reducible refine (abutmentref05_Leap.calls a0 t101 _ A5.out).mono ?_); rintro e w' ⟨rfl, ⟨nd, rfl⟩⟩))
      go_meet
      case rel => exact ⟨_, (t101), (by first | rfl | (simp; done) | (simp [*]; done)), H', ⟨by first | omega | exact Nat.le_refl _⟩, by repeat (first | exact Drawn0.refl _ | apply Drawn0.step)⟩
    · rw [if_neg c4] at H
      have c4b0 : (a1 == 2) = false := beq_eq_false_iff_ne.mpr c4
      have c4b1 : (a1 != 2) = true := bne_iff_ne.mpr c4
      (first | rw [c4b0] | (simp only [i64_w, i32_w]; rw [c4b0]) | skip)
      have H' := Aside0.mk H
      clear H
      go_wp2
      go_meet
      case rel => exact ⟨_, (false), (by first | rfl | (simp; done) | (simp [*]; done)), H', ⟨by first | omega | exact Nat.le_refl _⟩, by repeat (first | exact Drawn0.refl _ | apply Drawn0.step)⟩
  case rest =>
    clear HC3
    try clear c1
    try clear p2
    try clear c4
    try clear c4b0
    try clear c4b1
    obtain ⟨kq, x10_2, rfl, HA, HJ2, ⟨mc2, rfl⟩⟩ := hcut
    cases kq with
    | zero => exact absurd HA.out (by simp [abutmentref05_Long.j0])
    | succ kj2 =>
      have H := HA.out
      clear HA
      simp only [abutmentref05_Long.j0] at H
      by_cases c6 : x10_2 = true
      · subst c6
        have H1 : (some 29) = some r := by rw [if_pos rfl] at H; exact H
        clear H
        have H := H1
        clear H1
        obtain rfl := Option.some.inj H
        go_wp2
        go_ret
        exact ⟨by first | rfl | (simp; done) | (simp [*]; done), by repeat (first | exact Drawn0.refl _ | apply Drawn0.step)⟩
      · replace c6 := Bool.eq_false_iff.mpr c6
        subst c6
        have H1 : (if a1 = 2 then (some 28) else (if a1 = 4 then (abutmentref05_Long.j1 kj2 a1 true) else (if a1 = 6 then (abutmentref05_Long.j1 kj2 a1 true) else (if a1 = 9 then (abutmentref05_Long.j1 kj2 a1 true) else (abutmentref05_Long.j1 kj2 a1 (a1 == 11)))))) = some r := by rw [if_neg (show ¬ (false = true) by decide)] at H; exact H
        clear H
        have H := H1
        clear H1
        by_cases c7 : a1 = 2
        · rw [if_pos c7] at H
          have c7b0 : (a1 == 2) = true := beq_iff_eq.mpr c7
          have c7b1 : (a1 != 2) = false := bne_eq_false_iff_eq.mpr c7
          clear c7
          obtain rfl := Option.some.inj H
          go_wp2
          go_ret
          exact ⟨by first | rfl | (simp; done) | (simp [*]; done), by repeat (first | exact Drawn0.refl _ | apply Drawn0.step)⟩
        · rw [if_neg c7] at H
          have c7b0 : (a1 == 2) = false := beq_eq_false_iff_ne.mpr c7
          have c7b1 : (a1 != 2) = true := bne_iff_ne.mpr c7
          have HC8 := Aside0.mk H
          clear H
          go_upto_region 5 with (fail)
          go_cut [26] (fun v26 wc => ∃ (kq : Nat) (x26_7 : Bool), v26 = .bool x26_7 ∧ Aside0 (abutmentref05_Long.j1 kq a1 x26_7 = some r) ∧ Aside0 (kq ≤ kj2) ∧ Drawn0 w wc)
          case first =>
            have H := HC8.out
            clear HC8
            by_cases c9 : a1 = 4
            · rw [if_pos c9] at H
              have c9b0 : (a1 == 4) = true := beq_iff_eq.mpr c9
              have c9b1 : (a1 != 4) = false := bne_eq_false_iff_eq.mpr c9
              clear c9
              (first | rw [c9b0] | (simp only [i64_w, i32_w]; rw [c9b0]) | skip)
              have H' := Aside0.mk H
              clear H
              go_wp2
              go_meet
              case rel => exact ⟨_, (true), (by first | rfl | (simp; done) | (simp [*]; done)), H', ⟨by have := HJ2.out; first | omega | exact Nat.le_refl _⟩, by repeat (first | exact Drawn0.refl _ | apply Drawn0.step)⟩
            · rw [if_neg c9] at H
              have c9b0 : (a1 == 4) = false := beq_eq_false_iff_ne.mpr c9
              have c9b1 : (a1 != 4) = true := bne_iff_ne.mpr c9
              (first | rw [c9b0] | (simp only [i64_w, i32_w]; rw [c9b0]) | skip)
              by_cases c10 : a1 = 6
              · rw [if_pos c10] at H
                have c10b0 : (a1 == 6) = true := beq_iff_eq.mpr c10
                have c10b1 : (a1 != 6) = false := bne_eq_false_iff_eq.mpr c10
                clear c10
                have H' := Aside0.mk H
                clear H
                go_wp2
                go_meet
                case rel => exact ⟨_, (true), (by first | rfl | (simp; done) | (simp [*]; done)), H', ⟨by have := HJ2.out; first | omega | exact Nat.le_refl _⟩, by repeat (first | exact Drawn0.refl _ | apply Drawn0.step)⟩
              · rw [if_neg c10] at H
                have c10b0 : (a1 == 6) = false := beq_eq_false_iff_ne.mpr c10
                have c10b1 : (a1 != 6) = true := bne_iff_ne.mpr c10
                by_cases c11 : a1 = 9
                · rw [if_pos c11] at H
                  have c11b0 : (a1 == 9) = true := beq_iff_eq.mpr c11
                  have c11b1 : (a1 != 9) = false := bne_eq_false_iff_eq.mpr c11
                  clear c11
                  have H' := Aside0.mk H
                  clear H
                  go_wp2
                  go_meet
                  case rel => exact ⟨_, (true), (by first | rfl | (simp; done) | (simp [*]; done)), H', ⟨by have := HJ2.out; first | omega | exact Nat.le_refl _⟩, by repeat (first | exact Drawn0.refl _ | apply Drawn0.step)⟩
                · rw [if_neg c11] at H
                  have c11b0 : (a1 == 9) = false := beq_eq_false_iff_ne.mpr c11
                  have c11b1 : (a1 != 9) = true := bne_iff_ne.mpr c11
                  have H' := Aside0.mk H
                  clear H
                  go_wp2
                  go_meet
                  case rel => exact ⟨_, ((a1 == 11)), (by first | rfl | (simp; done) | (simp [*]; done)), H', ⟨by have := HJ2.out; first | omega | exact Nat.le_refl _⟩, by repeat (first | exact Drawn0.refl _ | apply Drawn0.step)⟩
          case rest =>
            clear HC8
            try clear c1
            try clear c2
            try clear p2
            try clear c4
            try clear c4b0
            try clear c4b1
            try clear c6
            try clear c7
            try clear c7b0
            try clear c7b1
            try clear c9
            try clear c9b0
            try clear c9b1
            try clear c10
            try clear c10b0
            try clear c10b1
            try clear c11
            try clear c11b0
            try clear c11b1
            try clear p2
            obtain ⟨kq, x26_7, rfl, HA, HJ7, ⟨mc7, rfl⟩⟩ := hcut
            cases kq with
            | zero => exact absurd HA.out (by simp [abutmentref05_Long.j1])
            | succ kj7 =>
              have H := HA.out
              clear HA
              simp only [abutmentref05_Long.j1] at H
              by_cases c12 : x26_7 = true
              · subst c12
                have H1 : (some 30) = some r := by rw [if_pos rfl] at H; exact H
                clear H
                have H := H1
                clear H1
                obtain rfl := Option.some.inj H
                go_wp2
                go_ret
                exact ⟨by first | rfl | (simp; done) | (simp [*]; done), by repeat (first | exact Drawn0.refl _ | apply Drawn0.step)⟩
              · replace c12 := Bool.eq_false_iff.mpr c12
                subst c12
                have H1 : (if a1 < 1 then (some 0) else (if a1 > 12 then (some 0) else (some 31))) = some r := by rw [if_neg (show ¬ (false = true) by decide)] at H; exact H
                clear H
                have H := H1
                clear H1
                by_cases c13 : a1 < 1
                · rw [if_pos c13] at H
                  have c13b0 : decide (a1 < 1) = true := decide_eq_true c13
                  clear c13
                  obtain rfl := Option.some.inj H
                  go_wp2
                  go_ret
                  exact ⟨by first | rfl | (simp; done) | (simp [*]; done), by repeat (first | exact Drawn0.refl _ | apply Drawn0.step)⟩
                · rw [if_neg c13] at H
                  have c13b0 : decide (a1 < 1) = false := decide_eq_false c13
                  clear c13
                  by_cases c14 : a1 > 12
                  · rw [if_pos c14] at H
                    have c14b0 : decide (12 < a1) = true := decide_eq_true c14
                    clear c14
                    obtain rfl := Option.some.inj H
                    go_wp2
                    go_ret
                    exact ⟨by first | rfl | (simp; done) | (simp [*]; done), by repeat (first | exact Drawn0.refl _ | apply Drawn0.step)⟩
                  · rw [if_neg c14] at H
                    have c14b0 : decide (12 < a1) = false := decide_eq_false c14
                    clear c14
                    obtain rfl := Option.some.inj H
                    go_wp2
                    go_ret
                    exact ⟨by first | rfl | (simp; done) | (simp [*]; done), by repeat (first | exact Drawn0.refl _ | apply Drawn0.step)⟩
end Go.Proofs.Ytjnhghplfdiijaa.Q

namespace Go.Proofs.Ytjnhghplfdiijaa.Q
open Go.RowKit Go.Proofs.YtjnhghplfdiijaaW.PrintWords Go.Proofs.YtjnhghplfdiijaaW.PrintLast Go.Proofs.YtjnhghplfdiijaaW.PrintMore
attribute [local go_sem] max2_int min2_int max_two min_two max_three min_three max_four min_four
set_option linter.unusedVariables false
set_option linter.unusedSimpArgs false
mutual
def abutmentref05_Of.j0 : Nat → Int → Bool → Option (Int × Int × Int × Int × Int × Int × Bool)
  | 0, _, _ => none
  | k + 1, x0, x11 => if x11 = true then (some (0, 0, 0, 0, 0, 0, false)) else (abutmentref05_Of.l0 k x0 1970 1)
def abutmentref05_Of.l0 : Nat → Int → Int → Int → Option (Int × Int × Int × Int × Int × Int × Bool)
  | 0, _, _, _ => none
  | k + 1, x0, x4, x5 => if x0 < 0 then ((abutmentref05_whole.f (wrap64 (x4 - 1))).bind fun t102 => (abutmentref05_Of.l0 k (wrap64 (x0 + t102)) (wrap64 (x4 - 1)) x5)) else (abutmentref05_Of.l1 k x0 x4 x5)
def abutmentref05_Of.l1 : Nat → Int → Int → Int → Option (Int × Int × Int × Int × Int × Int × Bool)
  | 0, _, _, _ => none
  | k + 1, x0, x4, x5 => (abutmentref05_whole.f x4).bind fun t103 => (if x0 ≥ t103 then ((abutmentref05_whole.f x4).bind fun t104 => (abutmentref05_Of.l1 k (wrap64 (x0 - t104)) (wrap64 (x4 + 1)) x5)) else (abutmentref05_Of.l2 k x0 x4 x5))
def abutmentref05_Of.l2 : Nat → Int → Int → Int → Option (Int × Int × Int × Int × Int × Int × Bool)
  | 0, _, _, _ => none
  | k + 1, x0, x4, x5 => (abutmentref05_Long.f k x4 x5).bind fun t105 => (if x0 ≥ t105 then ((abutmentref05_Long.f k x4 x5).bind fun t106 => (abutmentref05_Of.l2 k (wrap64 (x0 - t106)) x4 (wrap64 (x5 + 1)))) else (some (x4, x5, wrap64 (x0 + 1), 0, 0, 0, true)))
end
def abutmentref05_Of.f (k : Nat) (a0 : Int) : Option (Int × Int × Int × Int × Int × Int × Bool) := if a0 < (-719162) then (abutmentref05_Of.j0 k a0 true) else (abutmentref05_Of.j0 k a0 (decide (a0 > 2932896)))
set_option maxHeartbeats 8000000 in
set_option maxRecDepth 100000 in
theorem abutmentref05_Of.calls (k : Nat) (a0 : Int) (r1 : Int) (r2 : Int) (r3 : Int) (r4 : Int) (r5 : Int) (r6 : Int) (r7 : Bool) (w : World) (h : abutmentref05_Of.f k a0 = some (r1, r2, r3, r4, r5, r6, r7)) :
    Calls Try.prog 107 #[.int .i64 a0] w fun e w' => e = .returned (.tuple #[.agg #[.int .i64 r1, .int .i64 r2, .int .i64 r3, .int .i64 r4, .int .i64 r5, .int .i64 r6], .bool r7]) ∧ Below w.heap.size w w' := by
  have hu75 := Try.underlying75
  have HB := Aside0.mk (Below.refl w.heap.size w)
  have H : (if a0 < (-719162) then (abutmentref05_Of.j0 k a0 true) else (abutmentref05_Of.j0 k a0 (decide (a0 > 2932896)))) = some (r1, r2, r3, r4, r5, r6, r7) := h
  clear h
  have HC2 := Aside0.mk H
  clear H
  go_enter Try.func107, Try.ntmps107
  go_upto_region 1 with (first | ((with_reducible refine gate_dst (N := 2) rfl ?_); refine box_event ?hg (N := 2) ?hd (cs := #[.int .i64 0, .int .i64 0, .int .i64 0, .int .i64 0, .int .i64 0, .int .i64 0]) (t := 75) ?hr ?_; (case hd => rfl); (case hg => rfl); (case hr => first | (go_simp; done) | (go_simp; rfl)); intro gb101 hg w3 hbox hb; have n0_ := Aside0.mk (below_step (by repeat (first | (with_reducible first | exact HB.out | apply below_alloc | apply pw_below_drewN | apply below_drew1) | exact HB.out)) hb); have n1_ := Aside0.mk (hbox); have n2_ := Aside0.mk ((by rw [hg]; exact (below_size (by repeat (first | (with_reducible first | exact HB.out | apply below_alloc | apply pw_below_drewN | apply below_drew1) | exact HB.out))) : w.heap.size ≤ gb101)); have n3_ := Aside0.mk ((by rw [hg]; exact (below_size (by repeat (first | (with_reducible first | exact HB.out | apply below_alloc | apply pw_below_drewN | apply below_drew1) | exact HB.out))) : w.heap.size ≤ gb101)); clear HB; have HB := n0_; have BK101 := n1_; have GW101 := n2_; have GE101 := n3_; clear n0_ n1_ n2_ n3_; clear hb hbox hg))
  (try simp only [Act.put, List.setIfInBounds_toArray, List.set_cons_zero, List.set_cons_succ])
  go_cut [11] (fun v11 wc => ∃ (kq : Nat) (x11_1 : Bool), v11 = .bool x11_1 ∧ Aside0 (abutmentref05_Of.j0 kq a0 x11_1 = some (r1, r2, r3, r4, r5, r6, r7)) ∧ Aside0 (kq ≤ k) ∧ Aside0 (wc.heap[gb101]? = some (.cells #[.int .i64 0, .int .i64 0, .int .i64 0, .int .i64 0, .int .i64 0, .int .i64 0] 75 (0, 0))) ∧ Aside0 (Below w.heap.size w wc))
  case first =>
    have H := HC2.out
    clear HC2
    by_cases c4 : a0 < (-719162)
    · rw [if_pos c4] at H
      have c4b0 : decide (a0 < (-719162)) = true := decide_eq_true c4
      clear c4
      (first | rw [c4b0] | (simp only [i64_w, i32_w]; rw [c4b0]) | skip)
      have H' := Aside0.mk H
      clear H
      go_wp2
      go_meet
      case rel => exact ⟨_, (true), (by first | rfl | (simp; done) | (simp [*]; done)), H', ⟨by first | omega | exact Nat.le_refl _⟩, ⟨by (with_reducible repeat (first | refine blk_drewN ?_ _ | refine blk_drew ?_ | refine blk_alloc ?_ _)); exact BK101.out⟩, ⟨by repeat (first | (with_reducible first | exact HB.out | apply below_alloc | apply pw_below_drewN | apply below_drew1 | refine below_set ?_ GE101.out) | exact HB.out)⟩⟩
    · rw [if_neg c4] at H
      have c4b0 : decide (a0 < (-719162)) = false := decide_eq_false c4
      clear c4
      (first | rw [c4b0] | (simp only [i64_w, i32_w]; rw [c4b0]) | skip)
      have H' := Aside0.mk H
      clear H
      go_wp2
      go_meet
      case rel => exact ⟨_, (decide (a0 > 2932896)), (by first | rfl | (simp; done) | (simp [*]; done)), H', ⟨by first | omega | exact Nat.le_refl _⟩, ⟨by (with_reducible repeat (first | refine blk_drewN ?_ _ | refine blk_drew ?_ | refine blk_alloc ?_ _)); exact BK101.out⟩, ⟨by repeat (first | (with_reducible first | exact HB.out | apply below_alloc | apply pw_below_drewN | apply below_drew1 | refine below_set ?_ GE101.out) | exact HB.out)⟩⟩
  case rest =>
    clear HC2
    try clear c1
    try clear p2
    try clear c4
    try clear c4b0
    obtain ⟨kq, x11_1, rfl, HA, HJ1, BK101, HB⟩ := hcut
    cases kq with
    | zero => exact absurd HA.out (by simp [abutmentref05_Of.j0])
    | succ kj1 =>
      have H := HA.out
      clear HA
      simp only [abutmentref05_Of.j0] at H
      by_cases c5 : x11_1 = true
      · subst c5
        have H1 : (some (0, 0, 0, 0, 0, 0, false)) = some (r1, r2, r3, r4, r5, r6, r7) := by rw [if_pos rfl] at H; exact H
        clear H
        have H := H1
        clear H1
        simp only [Option.some.injEq, Prod.mk.injEq] at H
        obtain ⟨rfl, rfl, rfl, rfl, rfl, rfl, rfl⟩ := H
        have hcz6_0 : wc.cell? ⟨gb101, 0, none⟩ = some (.int .i64 0) := (blk_cell BK101.out 0).trans rfl
        have hcz6_1 : wc.cell? ⟨gb101, 1, none⟩ = some (.int .i64 0) := (blk_cell BK101.out 1).trans rfl
        have hcz6_2 : wc.cell? ⟨gb101, 2, none⟩ = some (.int .i64 0) := (blk_cell BK101.out 2).trans rfl
        have hcz6_3 : wc.cell? ⟨gb101, 3, none⟩ = some (.int .i64 0) := (blk_cell BK101.out 3).trans rfl
        have hcz6_4 : wc.cell? ⟨gb101, 4, none⟩ = some (.int .i64 0) := (blk_cell BK101.out 4).trans rfl
        have hcz6_5 : wc.cell? ⟨gb101, 5, none⟩ = some (.int .i64 0) := (blk_cell BK101.out 5).trans rfl
        have hfz6_0 := blk_frozen BK101.out 0
        have hfz6_1 := blk_frozen BK101.out 1
        have hfz6_2 := blk_frozen BK101.out 2
        have hfz6_3 := blk_frozen BK101.out 3
        have hfz6_4 := blk_frozen BK101.out 4
        have hfz6_5 := blk_frozen BK101.out 5
        go_wp2
        refine bodyPost_ret (results_ct rfl _ _ gb101 75 #[.int .i64 0, .int .i64 0, .int .i64 0, .int .i64 0, .int .i64 0, .int .i64 0] (0, 0) _ rfl (by (with_reducible repeat (first | refine blk_drewN ?_ _ | refine blk_drew ?_ | refine blk_alloc ?_ _)); refine blk_put (cs := #[.int .i64 0, .int .i64 0, .int .i64 0, .int .i64 0, .int .i64 0, .int .i64 0]) ?_ 5 _ rfl; (with_reducible repeat (first | refine blk_drewN ?_ _ | refine blk_drew ?_ | refine blk_alloc ?_ _)); refine blk_put (cs := #[.int .i64 0, .int .i64 0, .int .i64 0, .int .i64 0, .int .i64 0, .int .i64 0]) ?_ 4 _ rfl; (with_reducible repeat (first | refine blk_drewN ?_ _ | refine blk_drew ?_ | refine blk_alloc ?_ _)); refine blk_put (cs := #[.int .i64 0, .int .i64 0, .int .i64 0, .int .i64 0, .int .i64 0, .int .i64 0]) ?_ 3 _ rfl; (with_reducible repeat (first | refine blk_drewN ?_ _ | refine blk_drew ?_ | refine blk_alloc ?_ _)); refine blk_put (cs := #[.int .i64 0, .int .i64 0, .int .i64 0, .int .i64 0, .int .i64 0, .int .i64 0]) ?_ 2 _ rfl; (with_reducible repeat (first | refine blk_drewN ?_ _ | refine blk_drew ?_ | refine blk_alloc ?_ _)); refine blk_put (cs := #[.int .i64 0, .int .i64 0, .int .i64 0, .int .i64 0, .int .i64 0, .int .i64 0]) ?_ 1 _ rfl; (with_reducible repeat (first | refine blk_drewN ?_ _ | refine blk_drew ?_ | refine blk_alloc ?_ _)); refine blk_put (cs := #[.int .i64 0, .int .i64 0, .int .i64 0, .int .i64 0, .int .i64 0, .int .i64 0]) ?_ 0 _ rfl; (with_reducible repeat (first | refine blk_drewN ?_ _ | refine blk_drew ?_ | refine blk_alloc ?_ _)); exact BK101.out) Try.underlying75 rfl (by kernel_rfl)) rfl ?_
        exact ⟨by first | rfl | (simp [errW_none, errW_some] <;> rfl) | (simp [*, errW_none, errW_some] <;> rfl), by repeat (first | (with_reducible first | exact HB.out | apply below_alloc | apply pw_below_drewN | apply below_drew1 | refine below_set ?_ GE101.out) | exact HB.out)⟩
      · replace c5 := Bool.eq_false_iff.mpr c5
        subst c5
        have H1 : (abutmentref05_Of.l0 kj1 a0 1970 1) = some (r1, r2, r3, r4, r5, r6, r7) := by rw [if_neg (show ¬ (false = true) by decide)] at H; exact H
        clear H
        have H := H1
        clear H1
        have H' := Aside0.mk H
        clear H
        go_wp2
        go_loopg [0, 4] kj1 (fun kq v0 v4 w' => ∃ (x0_2 : Int) (x4_2 : Int), v0 = .int .i64 x0_2 ∧ v4 = .int .i64 x4_2 ∧ Aside0 (abutmentref05_Of.l0 kq x0_2 x4_2 1 = some (r1, r2, r3, r4, r5, r6, r7)) ∧ Aside0 (kq ≤ kj1) ∧ Aside0 (w'.heap[gb101]? = some (.cells #[.int .i64 0, .int .i64 0, .int .i64 0, .int .i64 0, .int .i64 0, .int .i64 0] 75 (0, 0))) ∧ Aside0 (Below w.heap.size w w'))
        case atStart => exact ⟨(a0), (1970), (by first | rfl | (simp; done) | (simp [*]; done)), (by first | rfl | (simp; done) | (simp [*]; done)), H', ⟨Nat.le_refl _⟩, ⟨by (with_reducible repeat (first | refine blk_drewN ?_ _ | refine blk_drew ?_ | refine blk_alloc ?_ _)); exact BK101.out⟩, ⟨by repeat (first | (with_reducible first | exact HB.out | apply below_alloc | apply pw_below_drewN | apply below_drew1 | refine below_set ?_ GE101.out) | exact HB.out)⟩⟩
        case round =>
          clear H'
          try clear c1
          try clear p2
          try clear c4
          try clear c4b0
          try clear c5
          try clear hcz6_0
          try clear hcz6_1
          try clear hcz6_2
          try clear hcz6_3
          try clear hcz6_4
          try clear hcz6_5
          try clear hfz6_0
          try clear hfz6_1
          try clear hfz6_2
          try clear hfz6_3
          try clear hfz6_4
          try clear hfz6_5
          try clear p2
          obtain ⟨x0_2, x4_2, rfl, rfl, HA, HK2, BK101, HB⟩ := hrel
          cases gk with
          | zero => exact absurd HA.out (by simp [abutmentref05_Of.l0])
          | succ k2 =>
            have H := HA.out
            clear HA
            simp only [abutmentref05_Of.l0] at H
            by_cases c7 : x0_2 < 0
            · rw [if_pos c7] at H
              have c7b0 : decide (x0_2 < 0) = true := decide_eq_true c7
              clear c7
              replace H := Option.bind_eq_some_iff.mp H
              obtain ⟨t102, A80, H⟩ := H
              (try dsimp only at H)
              have A8 := Aside0.mk A80
              clear A80
              have H' := Aside0.mk H
              clear H
              go_wp2_with (first | ((with_reducible refine gate_callee (f := 157) rfl ?_); refine goesL_ (some 19) rfl rfl Try.func157 (by kernel_rfl) rfl #[.int .i64 (wrap64 (x4_2 - 1))] rfl (by (try simp only [List.map_toArray, List.map_cons, List.map_nil]); first | done | rfl | (simp only [List.length_drop, List.length_take]; rfl)) ?_; (with_reducible refine (abutmentref05_whole.calls (wrap64 (x4_2 - 1)) t102 _ A8.out).mono ?_); rintro e w' ⟨rfl, ⟨nd, rfl⟩⟩; refine ⟨_, rfl, ?_⟩))
              go_roundg k2
              case measure => have := HJ1.out; have := HK2.out; omega
              case rel => exact ⟨(wrap64 (x0_2 + t102)), (wrap64 (x4_2 - 1)), (by first | rfl | (simp; done) | (simp [*]; done)), (by first | rfl | (simp; done) | (simp [*]; done)), H', ⟨by have := HJ1.out; have := HK2.out; omega⟩, ⟨by (with_reducible repeat (first | refine blk_drewN ?_ _ | refine blk_drew ?_ | refine blk_alloc ?_ _)); exact BK101.out⟩, ⟨by repeat (first | (with_reducible first | exact HB.out | apply below_alloc | apply pw_below_drewN | apply below_drew1 | refine below_set ?_ GE101.out) | exact HB.out)⟩⟩
            · rw [if_neg c7] at H
              have c7b0 : decide (x0_2 < 0) = false := decide_eq_false c7
              clear c7
              have H' := Aside0.mk H
              clear H
              go_wp2
              go_loopg [0, 4] k2 (fun kq v0 v4 w' => ∃ (x0_3 : Int) (x4_3 : Int), v0 = .int .i64 x0_3 ∧ v4 = .int .i64 x4_3 ∧ Aside0 (abutmentref05_Of.l1 kq x0_3 x4_3 1 = some (r1, r2, r3, r4, r5, r6, r7)) ∧ Aside0 (kq ≤ k2) ∧ Aside0 (w'.heap[gb101]? = some (.cells #[.int .i64 0, .int .i64 0, .int .i64 0, .int .i64 0, .int .i64 0, .int .i64 0] 75 (0, 0))) ∧ Aside0 (Below w.heap.size w w'))
              case atStart => exact ⟨(x0_2), (x4_2), (by first | rfl | (simp; done) | (simp [*]; done)), (by first | rfl | (simp; done) | (simp [*]; done)), H', ⟨Nat.le_refl _⟩, ⟨by (with_reducible repeat (first | refine blk_drewN ?_ _ | refine blk_drew ?_ | refine blk_alloc ?_ _)); exact BK101.out⟩, ⟨by repeat (first | (with_reducible first | exact HB.out | apply below_alloc | apply pw_below_drewN | apply below_drew1 | refine below_set ?_ GE101.out) | exact HB.out)⟩⟩
              case round =>
                clear H'
                try clear c1
                try clear p2
                try clear c4
                try clear c4b0
                try clear c5
                try clear p6
                try clear c7
                try clear c7b0
                try clear hcz6_0
                try clear hcz6_1
                try clear hcz6_2
                try clear hcz6_3
                try clear hcz6_4
                try clear hcz6_5
                try clear hfz6_0
                try clear hfz6_1
                try clear hfz6_2
                try clear hfz6_3
                try clear hfz6_4
                try clear hfz6_5
                try clear p2
                obtain ⟨x0_3, x4_3, rfl, rfl, HA, HK3, BK101, HB⟩ := hrel
                cases gk with
                | zero => exact absurd HA.out (by simp [abutmentref05_Of.l1])
                | succ k3 =>
                  have H := HA.out
                  clear HA
                  simp only [abutmentref05_Of.l1] at H
                  replace H := Option.bind_eq_some_iff.mp H
                  obtain ⟨t103, A90, H⟩ := H
                  (try dsimp only at H)
                  have A9 := Aside0.mk A90
                  clear A90
                  by_cases c10 : x0_3 ≥ t103
                  · rw [if_pos c10] at H
                    have c10b0 : decide (t103 ≤ x0_3) = true := decide_eq_true c10
                    clear c10
                    replace H := Option.bind_eq_some_iff.mp H
                    obtain ⟨t104, A110, H⟩ := H
                    (try dsimp only at H)
                    have A11 := Aside0.mk A110
                    clear A110
                    have H' := Aside0.mk H
                    clear H
                    go_wp2_with (first | ((with_reducible refine gate_callee (f := 157) rfl ?_); refine goesL_ (some 23) rfl rfl Try.func157 (by kernel_rfl) rfl #[.int .i64 x4_3] rfl (by (try simp only [List.map_toArray, List.map_cons, List.map_nil]); first | done | rfl | (simp only [List.length_drop, List.length_take]; rfl)) ?_; (with_reducible refine (abutmentref05_whole.calls x4_3 t103 _ A9.out).mono ?_); rintro e w' ⟨rfl, ⟨nd, rfl⟩⟩; refine ⟨_, rfl, ?_⟩) | ((with_reducible refine gate_callee (f := 157) rfl ?_); refine goesL_ (some 27) rfl rfl Try.func157 (by kernel_rfl) rfl #[.int .i64 x4_3] rfl (by (try simp only [List.map_toArray, List.map_cons, List.map_nil]); first | done | rfl | (simp only [List.length_drop, List.length_take]; rfl)) ?_; (with_reducible refine (abutmentref05_whole.calls x4_3 t104 _ A11.out).mono ?_); rintro e w' ⟨rfl, ⟨nd, rfl⟩⟩; refine ⟨_, rfl, ?_⟩))
                    go_roundg k3
                    case measure => have := HJ1.out; have := HK2.out; have := HK3.out; omega
                    case rel => exact ⟨(wrap64 (x0_3 - t104)), (wrap64 (x4_3 + 1)), (by first | rfl | (simp; done) | (simp [*]; done)), (by first | rfl | (simp; done) | (simp [*]; done)), H', ⟨by have := HJ1.out; have := HK2.out; have := HK3.out; omega⟩, ⟨by (with_reducible repeat (first | refine blk_drewN ?_ _ | refine blk_drew ?_ | refine blk_alloc ?_ _)); exact BK101.out⟩, ⟨by repeat (first | (with_reducible first | exact HB.out | apply below_alloc | apply pw_below_drewN | apply below_drew1 | refine below_set ?_ GE101.out) | exact HB.out)⟩⟩
                  · rw [if_neg c10] at H
                    have c10b0 : decide (t103 ≤ x0_3) = false := decide_eq_false c10
                    clear c10
                    have H' := Aside0.mk H
                    clear H
                    go_wp2_with (first | ((with_reducible refine gate_callee (f := 157) rfl ?_); refine goesL_ (some 23) rfl rfl Try.func157 (by kernel_rfl) rfl #[.int .i64 x4_3] rfl (by (try simp only [List.map_toArray, List.map_cons, List.map_nil]); first | done | rfl | (simp only [List.length_drop, List.length_take]; rfl)) ?_; (with_reducible refine (abutmentref05_whole.calls x4_3 t103 _ A9.out).mono ?_); rintro e w' ⟨rfl, ⟨nd, rfl⟩⟩; refine ⟨_, rfl, ?_⟩))
                    go_loopg [0, 5] k3 (fun kq v0 v5 w' => ∃ (x0_4 : Int) (x5_4 : Int), v0 = .int .i64 x0_4 ∧ v5 = .int .i64 x5_4 ∧ Aside0 (abutmentref05_Of.l2 kq x0_4 x4_3 x5_4 = some (r1, r2, r3, r4, r5, r6, r7)) ∧ Aside0 (kq ≤ k3) ∧ Aside0 (w'.heap[gb101]? = some (.cells #[.int .i64 0, .int .i64 0, .int .i64 0, .int .i64 0, .int .i64 0, .int .i64 0] 75 (0, 0))) ∧ Aside0 (Below w.heap.size w w'))
                    case atStart => exact ⟨(x0_3), (1), (by first | rfl | (simp; done) | (simp [*]; done)), (by first | rfl | (simp; done) | (simp [*]; done)), H', ⟨Nat.le_refl _⟩, ⟨by (with_reducible repeat (first | refine blk_drewN ?_ _ | refine blk_drew ?_ | refine blk_alloc ?_ _)); exact BK101.out⟩, ⟨by repeat (first | (with_reducible first | exact HB.out | apply below_alloc | apply pw_below_drewN | apply below_drew1 | refine below_set ?_ GE101.out) | exact HB.out)⟩⟩
                    case round =>
                      clear H'
                      try clear c1
                      try clear p2
                      try clear c4
                      try clear c4b0
                      try clear c5
                      try clear p6
                      try clear c7
                      try clear c7b0
                      try clear c10
                      try clear c10b0
                      try clear hcz6_0
                      try clear hcz6_1
                      try clear hcz6_2
                      try clear hcz6_3
                      try clear hcz6_4
                      try clear hcz6_5
                      try clear hfz6_0
                      try clear hfz6_1
                      try clear hfz6_2
                      try clear hfz6_3
                      try clear hfz6_4
                      try clear hfz6_5
                      try clear p2
                      try clear p6
                      obtain ⟨x0_4, x5_4, rfl, rfl, HA, HK4, BK101, HB⟩ := hrel
                      cases gk with
                      | zero => exact absurd HA.out (by simp [abutmentref05_Of.l2])
                      | succ k4 =>
                        have H := HA.out
                        clear HA
                        simp only [abutmentref05_Of.l2] at H
                        replace H := Option.bind_eq_some_iff.mp H
                        obtain ⟨t105, A120, H⟩ := H
                        (try dsimp only at H)
                        have A12 := Aside0.mk A120
                        clear A120
                        by_cases c13 : x0_4 ≥ t105
                        · rw [if_pos c13] at H
                          have c13b0 : decide (t105 ≤ x0_4) = true := decide_eq_true c13
                          clear c13
                          replace H := Option.bind_eq_some_iff.mp H
                          obtain ⟨t106, A140, H⟩ := H
                          (try dsimp only at H)
                          have A14 := Aside0.mk A140
                          clear A140
                          have H' := Aside0.mk H
                          clear H
                          go_wp2_with (first | ((with_reducible refine gate_callee (f := 158) rfl ?_); refine goesL_ (some 34) rfl rfl Try.func158 (by kernel_rfl) rfl #[.int .i64 x4_3, .int .i64 x5_4] rfl (by (try simp only [List.map_toArray, List.map_cons, List.map_nil]); first | done | rfl | (simp only [List.length_drop, List.length_take]; rfl)) ?_; (with_reducible refine (abutmentref05_Long.calls k4 x4_3 x5_4 t105 _ A12.out).mono ?_); rintro e w' ⟨rfl, ⟨nd, rfl⟩⟩; refine ⟨_, rfl, ?_⟩) | ((with_reducible refine gate_callee (f := 158) rfl ?_); refine goesL_ (some 39) rfl rfl Try.func158 (by kernel_rfl) rfl #[.int .i64 x4_3, .int .i64 x5_4] rfl (by (try simp only [List.map_toArray, List.map_cons, List.map_nil]); first | done | rfl | (simp only [List.length_drop, List.length_take]; rfl)) ?_; (with_reducible refine (abutmentref05_Long.calls k4 x4_3 x5_4 t106 _ A14.out).mono ?_); rintro e w' ⟨rfl, ⟨nd, rfl⟩⟩; refine ⟨_, rfl, ?_⟩))
                          go_roundg k4
                          case measure => have := HJ1.out; have := HK2.out; have := HK3.out; have := HK4.out; omega
                          case rel => exact ⟨(wrap64 (x0_4 - t106)), (wrap64 (x5_4 + 1)), (by first | rfl | (simp; done) | (simp [*]; done)), (by first | rfl | (simp; done) | (simp [*]; done)), H', ⟨by have := HJ1.out; have := HK2.out; have := HK3.out; have := HK4.out; omega⟩, ⟨by (with_reducible repeat (first | refine blk_drewN ?_ _ | refine blk_drew ?_ | refine blk_alloc ?_ _)); exact BK101.out⟩, ⟨by repeat (first | (with_reducible first | exact HB.out | apply below_alloc | apply pw_below_drewN | apply below_drew1 | refine below_set ?_ GE101.out) | exact HB.out)⟩⟩
                        · rw [if_neg c13] at H
                          have c13b0 : decide (t105 ≤ x0_4) = false := decide_eq_false c13
                          clear c13
                          simp only [Option.some.injEq, Prod.mk.injEq] at H
                          obtain ⟨rfl, rfl, rfl, rfl, rfl, rfl, rfl⟩ := H
                          go_wp2_with (first | ((with_reducible refine gate_callee (f := 158) rfl ?_); refine goesL_ (some 34) rfl rfl Try.func158 (by kernel_rfl) rfl #[.int .i64 x4_3, .int .i64 x5_4] rfl (by (try simp only [List.map_toArray, List.map_cons, List.map_nil]); first | done | rfl | (simp only [List.length_drop, List.length_take]; rfl)) ?_; (with_reducible refine (abutmentref05_Long.calls k4 x4_3 x5_4 t105 _ A12.out).mono ?_); rintro e w' ⟨rfl, ⟨nd, rfl⟩⟩; refine ⟨_, rfl, ?_⟩; (try (rw [drewN_self wr]; generalize hq_ : World.drewN wr _ = wr; have n0_ : Aside0 (wr.heap[gb101]? = some (.cells #[.int .i64 0, .int .i64 0, .int .i64 0, .int .i64 0, .int .i64 0, .int .i64 0] 75 (0, 0))) := ⟨by rw [← hq_]; exact (by (with_reducible repeat (first | refine blk_drewN ?_ _ | refine blk_drew ?_ | refine blk_alloc ?_ _)); exact BK101.out)⟩; have n1_ : Aside0 (Below w.heap.size w wr) := ⟨by rw [← hq_]; exact (by repeat (first | (with_reducible first | exact HB.out | apply below_alloc | apply pw_below_drewN | apply below_drew1 | refine below_set ?_ GE101.out) | exact HB.out))⟩; clear BK101 HB hq_; have BK101 := n0_; have HB := n1_; clear n0_ n1_)); have hcz15_0 : wr.cell? ⟨gb101, 0, none⟩ = some (.int .i64 0) := (blk_cell BK101.out 0).trans rfl; have hcz15_1 : wr.cell? ⟨gb101, 1, none⟩ = some (.int .i64 0) := (blk_cell BK101.out 1).trans rfl; have hcz15_2 : wr.cell? ⟨gb101, 2, none⟩ = some (.int .i64 0) := (blk_cell BK101.out 2).trans rfl; have hcz15_3 : wr.cell? ⟨gb101, 3, none⟩ = some (.int .i64 0) := (blk_cell BK101.out 3).trans rfl; have hcz15_4 : wr.cell? ⟨gb101, 4, none⟩ = some (.int .i64 0) := (blk_cell BK101.out 4).trans rfl; have hcz15_5 : wr.cell? ⟨gb101, 5, none⟩ = some (.int .i64 0) := (blk_cell BK101.out 5).trans rfl; have hfz15_0 := blk_frozen BK101.out 0; have hfz15_1 := blk_frozen BK101.out 1; have hfz15_2 := blk_frozen BK101.out 2; have hfz15_3 := blk_frozen BK101.out 3; have hfz15_4 := blk_frozen BK101.out 4; have hfz15_5 := blk_frozen BK101.out 5))
                          refine bodyPost_ret (results_ct rfl _ _ gb101 75 #[.int .i64 x4_3, .int .i64 x5_4, .int .i64 (wrap64 (x0_4 + 1)), .int .i64 0, .int .i64 0, .int .i64 0] (0, 0) _ rfl (by (with_reducible repeat (first | refine blk_drewN ?_ _ | refine blk_drew ?_ | refine blk_alloc ?_ _)); refine blk_put (cs := #[.int .i64 x4_3, .int .i64 x5_4, .int .i64 (wrap64 (x0_4 + 1)), .int .i64 0, .int .i64 0, .int .i64 0]) ?_ 5 _ rfl; (with_reducible repeat (first | refine blk_drewN ?_ _ | refine blk_drew ?_ | refine blk_alloc ?_ _)); refine blk_put (cs := #[.int .i64 x4_3, .int .i64 x5_4, .int .i64 (wrap64 (x0_4 + 1)), .int .i64 0, .int .i64 0, .int .i64 0]) ?_ 4 _ rfl; (with_reducible repeat (first | refine blk_drewN ?_ _ | refine blk_drew ?_ | refine blk_alloc ?_ _)); refine blk_put (cs := #[.int .i64 x4_3, .int .i64 x5_4, .int .i64 (wrap64 (x0_4 + 1)), .int .i64 0, .int .i64 0, .int .i64 0]) ?_ 3 _ rfl; (with_reducible repeat (first | refine blk_drewN ?_ _ | refine blk_drew ?_ | refine blk_alloc ?_ _)); refine blk_put (cs := #[.int .i64 x4_3, .int .i64 x5_4, .int .i64 0, .int .i64 0, .int .i64 0, .int .i64 0]) ?_ 2 _ rfl; (with_reducible repeat (first | refine blk_drewN ?_ _ | refine blk_drew ?_ | refine blk_alloc ?_ _)); refine blk_put (cs := #[.int .i64 x4_3, .int .i64 0, .int .i64 0, .int .i64 0, .int .i64 0, .int .i64 0]) ?_ 1 _ rfl; (with_reducible repeat (first | refine blk_drewN ?_ _ | refine blk_drew ?_ | refine blk_alloc ?_ _)); refine blk_put (cs := #[.int .i64 0, .int .i64 0, .int .i64 0, .int .i64 0, .int .i64 0, .int .i64 0]) ?_ 0 _ rfl; (with_reducible repeat (first | refine blk_drewN ?_ _ | refine blk_drew ?_ | refine blk_alloc ?_ _)); exact BK101.out) Try.underlying75 rfl (by kernel_rfl)) rfl ?_
                          exact ⟨by first | rfl | (simp [errW_none, errW_some] <;> rfl) | (simp [*, errW_none, errW_some] <;> rfl), by repeat (first | (with_reducible first | exact HB.out | apply below_alloc | apply pw_below_drewN | apply below_drew1 | refine below_set ?_ GE101.out) | exact HB.out)⟩
end Go.Proofs.Ytjnhghplfdiijaa.Q

namespace Go.Proofs.Ytjnhghplfdiijaa.Q
open Go.RowKit Go.Proofs.YtjnhghplfdiijaaW.PrintWords Go.Proofs.YtjnhghplfdiijaaW.PrintLast Go.Proofs.YtjnhghplfdiijaaW.PrintMore
attribute [local go_sem] max2_int min2_int max_two min_two max_three min_three max_four min_four
set_option linter.unusedVariables false
set_option linter.unusedSimpArgs false
mutual
def abutmentref05_Days.j0 : Nat → Int → Int → Int → Bool → Option (Int × Bool)
  | 0, _, _, _, _ => none
  | k + 1, x0, x1, x2, x28 => if x28 = true then (some (0, false)) else (abutmentref05_Days.l0 k x0 x1 (wrap64 (x2 - 1)) 1970)
def abutmentref05_Days.l0 : Nat → Int → Int → Int → Int → Option (Int × Bool)
  | 0, _, _, _, _ => none
  | k + 1, x0, x1, x8, x9 => if x9 < x0 then ((abutmentref05_whole.f x9).bind fun t102 => (abutmentref05_Days.l0 k x0 x1 (wrap64 (x8 + t102)) (wrap64 (x9 + 1)))) else (abutmentref05_Days.l1 k x0 x1 x8 x0)
def abutmentref05_Days.l1 : Nat → Int → Int → Int → Int → Option (Int × Bool)
  | 0, _, _, _, _ => none
  | k + 1, x0, x1, x8, x10 => if x10 < 1970 then ((abutmentref05_whole.f x10).bind fun t103 => (abutmentref05_Days.l1 k x0 x1 (wrap64 (x8 - t103)) (wrap64 (x10 + 1)))) else (abutmentref05_Days.l2 k x0 x1 x8 1)
def abutmentref05_Days.l2 : Nat → Int → Int → Int → Int → Option (Int × Bool)
  | 0, _, _, _, _ => none
  | k + 1, x0, x1, x8, x11 => if x11 < x1 then ((abutmentref05_Long.f k x0 x11).bind fun t104 => (abutmentref05_Days.l2 k x0 x1 (wrap64 (x8 + t104)) (wrap64 (x11 + 1)))) else (some (x8, true))
end
def abutmentref05_Days.f (k : Nat) (a0 : Int) (a1 : Int) (a2 : Int) : Option (Int × Bool) := if a0 < 1 then (abutmentref05_Days.j0 k a0 a1 a2 true) else (if a0 > 9999 then (abutmentref05_Days.j0 k a0 a1 a2 true) else (if a2 < 1 then (abutmentref05_Days.j0 k a0 a1 a2 true) else ((abutmentref05_Long.f k a0 a1).bind fun t101 => (abutmentref05_Days.j0 k a0 a1 a2 (decide (a2 > t101))))))
set_option maxHeartbeats 8000000 in
set_option maxRecDepth 100000 in
theorem abutmentref05_Days.calls (k : Nat) (a0 : Int) (a1 : Int) (a2 : Int) (r1 : Int) (r2 : Bool) (w : World) (h : abutmentref05_Days.f k a0 a1 a2 = some (r1, r2)) :
    Calls Try.prog 153 #[.int .i64 a0, .int .i64 a1, .int .i64 a2] w fun e w' => e = .returned (.tuple #[.int .i64 r1, .bool r2]) ∧ Drawn0 w w' := by
  have H : (if a0 < 1 then (abutmentref05_Days.j0 k a0 a1 a2 true) else (if a0 > 9999 then (abutmentref05_Days.j0 k a0 a1 a2 true) else (if a2 < 1 then (abutmentref05_Days.j0 k a0 a1 a2 true) else ((abutmentref05_Long.f k a0 a1).bind fun t101 => (abutmentref05_Days.j0 k a0 a1 a2 (decide (a2 > t101))))))) = some (r1, r2) := h
  clear h
  have HC4 := Aside0.mk H
  clear H
  go_enter Try.func153, Try.ntmps153
  go_upto_region 1 with (fail)
  go_cut [28] (fun v28 wc => ∃ (kq : Nat) (x28_3 : Bool), v28 = .bool x28_3 ∧ Aside0 (abutmentref05_Days.j0 kq a0 a1 a2 x28_3 = some (r1, r2)) ∧ Aside0 (kq ≤ k) ∧ Drawn0 w wc)
  case first =>
    have H := HC4.out
    clear HC4
    by_cases c5 : a0 < 1
    · rw [if_pos c5] at H
      have c5b0 : decide (a0 < 1) = true := decide_eq_true c5
      clear c5
      (first | rw [c5b0] | (simp only [i64_w, i32_w]; rw [c5b0]) | skip)
      have H' := Aside0.mk H
      clear H
      go_wp2
      go_meet
      case rel => exact ⟨_, (true), (by first | rfl | (simp; done) | (simp [*]; done)), H', ⟨by first | omega | exact Nat.le_refl _⟩, by repeat (first | exact Drawn0.refl _ | apply Drawn0.step)⟩
    · rw [if_neg c5] at H
      have c5b0 : decide (a0 < 1) = false := decide_eq_false c5
      clear c5
      (first | rw [c5b0] | (simp only [i64_w, i32_w]; rw [c5b0]) | skip)
      by_cases c6 : a0 > 9999
      · rw [if_pos c6] at H
        have c6b0 : decide (9999 < a0) = true := decide_eq_true c6
        clear c6
        have H' := Aside0.mk H
        clear H
        go_wp2
        go_meet
        case rel => exact ⟨_, (true), (by first | rfl | (simp; done) | (simp [*]; done)), H', ⟨by first | omega | exact Nat.le_refl _⟩, by repeat (first | exact Drawn0.refl _ | apply Drawn0.step)⟩
      · rw [if_neg c6] at H
        have c6b0 : decide (9999 < a0) = false := decide_eq_false c6
        clear c6
        by_cases c7 : a2 < 1
        · rw [if_pos c7] at H
          have c7b0 : decide (a2 < 1) = true := decide_eq_true c7
          clear c7
          have H' := Aside0.mk H
          clear H
          go_wp2
          go_meet
          case rel => exact ⟨_, (true), (by first | rfl | (simp; done) | (simp [*]; done)), H', ⟨by first | omega | exact Nat.le_refl _⟩, by repeat (first | exact Drawn0.refl _ | apply Drawn0.step)⟩
        · rw [if_neg c7] at H
          have c7b0 : decide (a2 < 1) = false := decide_eq_false c7
          clear c7
          replace H := Option.bind_eq_some_iff.mp H
          obtain ⟨t101, A80, H⟩ := H
          (try dsimp only at H)
          have A8 := Aside0.mk A80
          clear A80
          have H' := Aside0.mk H
          clear H
          go_wp2_with (first | (go_at_call 158; (with_reducible refine (abutmentref05_Long.calls k a0 a1 t101 _ A8.out).mono ?_); rintro e w' ⟨rfl, ⟨nd, rfl⟩⟩))
          go_meet
          case rel => exact ⟨_, (decide (a2 > t101)), (by first | rfl | (simp; done) | (simp [*]; done)), H', ⟨by first | omega | exact Nat.le_refl _⟩, by repeat (first | exact Drawn0.refl _ | apply Drawn0.step)⟩
  case rest =>
    clear HC4
    try clear c1
    try clear p2
    try clear c5
    try clear c5b0
    try clear c6
    try clear c6b0
    try clear c7
    try clear c7b0
    obtain ⟨kq, x28_3, rfl, HA, HJ3, ⟨mc3, rfl⟩⟩ := hcut
    cases kq with
    | zero => exact absurd HA.out (by simp [abutmentref05_Days.j0])
    | succ kj3 =>
      have H := HA.out
      clear HA
      simp only [abutmentref05_Days.j0] at H
      by_cases c9 : x28_3 = true
      · subst c9
        have H1 : (some (0, false)) = some (r1, r2) := by rw [if_pos rfl] at H; exact H
        clear H
        have H := H1
        clear H1
        simp only [Option.some.injEq, Prod.mk.injEq] at H
        obtain ⟨rfl, rfl⟩ := H
        go_wp2
        go_ret2
        exact ⟨by first | rfl | (simp; done) | (simp [*]; done), by repeat (first | exact Drawn0.refl _ | apply Drawn0.step)⟩
      · replace c9 := Bool.eq_false_iff.mpr c9
        subst c9
        have H1 : (abutmentref05_Days.l0 kj3 a0 a1 (wrap64 (a2 - 1)) 1970) = some (r1, r2) := by rw [if_neg (show ¬ (false = true) by decide)] at H; exact H
        clear H
        have H := H1
        clear H1
        have H' := Aside0.mk H
        clear H
        go_wp2
        go_loopg [8, 9] kj3 (fun kq v8 v9 w' => ∃ (x8_2 : Int) (x9_2 : Int), v8 = .int .i64 x8_2 ∧ v9 = .int .i64 x9_2 ∧ Aside0 (abutmentref05_Days.l0 kq a0 a1 x8_2 x9_2 = some (r1, r2)) ∧ Aside0 (kq ≤ kj3) ∧ Drawn0 w w')
        case atStart => exact ⟨(wrap64 (a2 - 1)), (1970), (by first | rfl | (simp; done) | (simp [*]; done)), (by first | rfl | (simp; done) | (simp [*]; done)), H', ⟨Nat.le_refl _⟩, by repeat (first | exact Drawn0.refl _ | apply Drawn0.step)⟩
        case round =>
          clear H'
          try clear c1
          try clear p2
          try clear c3
          try clear c5
          try clear c5b0
          try clear c6
          try clear c6b0
          try clear p6
          try clear c7
          try clear c7b0
          try clear c9
          try clear p2
          obtain ⟨x8_2, x9_2, rfl, rfl, HA, HK2, ⟨m2, rfl⟩⟩ := hrel
          cases gk with
          | zero => exact absurd HA.out (by simp [abutmentref05_Days.l0])
          | succ k2 =>
            have H := HA.out
            clear HA
            simp only [abutmentref05_Days.l0] at H
            by_cases c10 : x9_2 < a0
            · rw [if_pos c10] at H
              have c10b0 : decide (x9_2 < a0) = true := decide_eq_true c10
              clear c10
              replace H := Option.bind_eq_some_iff.mp H
              obtain ⟨t102, A110, H⟩ := H
              (try dsimp only at H)
              have A11 := Aside0.mk A110
              clear A110
              have H' := Aside0.mk H
              clear H
              go_wp2_with (first | ((with_reducible refine gate_callee (f := 157) rfl ?_); refine goesL_ (some 38) rfl rfl Try.func157 (by kernel_rfl) rfl #[.int .i64 x9_2] rfl (by (try simp only [List.map_toArray, List.map_cons, List.map_nil]); first | done | rfl | (simp only [List.length_drop, List.length_take]; rfl)) ?_; (with_reducible refine (abutmentref05_whole.calls x9_2 t102 _ A11.out).mono ?_); rintro e w' ⟨rfl, ⟨nd, rfl⟩⟩; refine ⟨_, rfl, ?_⟩))
              go_roundg k2
              case measure => have := HJ3.out; have := HK2.out; omega
              case rel => exact ⟨(wrap64 (x8_2 + t102)), (wrap64 (x9_2 + 1)), (by first | rfl | (simp; done) | (simp [*]; done)), (by first | rfl | (simp; done) | (simp [*]; done)), H', ⟨by have := HJ3.out; have := HK2.out; omega⟩, by repeat (first | exact Drawn0.refl _ | apply Drawn0.step)⟩
            · rw [if_neg c10] at H
              have c10b0 : decide (x9_2 < a0) = false := decide_eq_false c10
              clear c10
              have H' := Aside0.mk H
              clear H
              go_wp2
              go_loopg [8, 10] k2 (fun kq v8 v10 w' => ∃ (x8_3 : Int) (x10_3 : Int), v8 = .int .i64 x8_3 ∧ v10 = .int .i64 x10_3 ∧ Aside0 (abutmentref05_Days.l1 kq a0 a1 x8_3 x10_3 = some (r1, r2)) ∧ Aside0 (kq ≤ k2) ∧ Drawn0 w w')
              case atStart => exact ⟨(x8_2), (a0), (by first | rfl | (simp; done) | (simp [*]; done)), (by first | rfl | (simp; done) | (simp [*]; done)), H', ⟨Nat.le_refl _⟩, by repeat (first | exact Drawn0.refl _ | apply Drawn0.step)⟩
              case round =>
                clear H'
                try clear c1
                try clear p2
                try clear c3
                try clear c5
                try clear c5b0
                try clear c6
                try clear c6b0
                try clear p6
                try clear c7
                try clear c7b0
                try clear c9
                try clear c10
                try clear c10b0
                try clear p2
                try clear p6
                obtain ⟨x8_3, x10_3, rfl, rfl, HA, HK3, ⟨m3, rfl⟩⟩ := hrel
                cases gk with
                | zero => exact absurd HA.out (by simp [abutmentref05_Days.l1])
                | succ k3 =>
                  have H := HA.out
                  clear HA
                  simp only [abutmentref05_Days.l1] at H
                  by_cases c12 : x10_3 < 1970
                  · rw [if_pos c12] at H
                    have c12b0 : decide (x10_3 < 1970) = true := decide_eq_true c12
                    clear c12
                    replace H := Option.bind_eq_some_iff.mp H
                    obtain ⟨t103, A130, H⟩ := H
                    (try dsimp only at H)
                    have A13 := Aside0.mk A130
                    clear A130
                    have H' := Aside0.mk H
                    clear H
                    go_wp2_with (first | ((with_reducible refine gate_callee (f := 157) rfl ?_); refine goesL_ (some 47) rfl rfl Try.func157 (by kernel_rfl) rfl #[.int .i64 x10_3] rfl (by (try simp only [List.map_toArray, List.map_cons, List.map_nil]); first | done | rfl | (simp only [List.length_drop, List.length_take]; rfl)) ?_; (with_reducible refine (abutmentref05_whole.calls x10_3 t103 _ A13.out).mono ?_); rintro e w' ⟨rfl, ⟨nd, rfl⟩⟩; refine ⟨_, rfl, ?_⟩))
                    go_roundg k3
                    case measure => have := HJ3.out; have := HK2.out; have := HK3.out; omega
                    case rel => exact ⟨(wrap64 (x8_3 - t103)), (wrap64 (x10_3 + 1)), (by first | rfl | (simp; done) | (simp [*]; done)), (by first | rfl | (simp; done) | (simp [*]; done)), H', ⟨by have := HJ3.out; have := HK2.out; have := HK3.out; omega⟩, by repeat (first | exact Drawn0.refl _ | apply Drawn0.step)⟩
                  · rw [if_neg c12] at H
                    have c12b0 : decide (x10_3 < 1970) = false := decide_eq_false c12
                    clear c12
                    have H' := Aside0.mk H
                    clear H
                    go_wp2
                    go_loopg [8, 11] k3 (fun kq v8 v11 w' => ∃ (x8_4 : Int) (x11_4 : Int), v8 = .int .i64 x8_4 ∧ v11 = .int .i64 x11_4 ∧ Aside0 (abutmentref05_Days.l2 kq a0 a1 x8_4 x11_4 = some (r1, r2)) ∧ Aside0 (kq ≤ k3) ∧ Drawn0 w w')
                    case atStart => exact ⟨(x8_3), (1), (by first | rfl | (simp; done) | (simp [*]; done)), (by first | rfl | (simp; done) | (simp [*]; done)), H', ⟨Nat.le_refl _⟩, by repeat (first | exact Drawn0.refl _ | apply Drawn0.step)⟩
                    case round =>
                      clear H'
                      try clear c1
                      try clear p2
                      try clear c3
                      try clear c5
                      try clear c5b0
                      try clear c6
                      try clear c6b0
                      try clear p6
                      try clear c7
                      try clear c7b0
                      try clear c9
                      try clear c10
                      try clear c10b0
                      try clear c12
                      try clear c12b0
                      try clear p2
                      try clear p6
                      obtain ⟨x8_4, x11_4, rfl, rfl, HA, HK4, ⟨m4, rfl⟩⟩ := hrel
                      cases gk with
                      | zero => exact absurd HA.out (by simp [abutmentref05_Days.l2])
                      | succ k4 =>
                        have H := HA.out
                        clear HA
                        simp only [abutmentref05_Days.l2] at H
                        by_cases c14 : x11_4 < a1
                        · rw [if_pos c14] at H
                          have c14b0 : decide (x11_4 < a1) = true := decide_eq_true c14
                          clear c14
                          replace H := Option.bind_eq_some_iff.mp H
                          obtain ⟨t104, A150, H⟩ := H
                          (try dsimp only at H)
                          have A15 := Aside0.mk A150
                          clear A150
                          have H' := Aside0.mk H
                          clear H
                          go_wp2_with (first | ((with_reducible refine gate_callee (f := 158) rfl ?_); refine goesL_ (some 57) rfl rfl Try.func158 (by kernel_rfl) rfl #[.int .i64 a0, .int .i64 x11_4] rfl (by (try simp only [List.map_toArray, List.map_cons, List.map_nil]); first | done | rfl | (simp only [List.length_drop, List.length_take]; rfl)) ?_; (with_reducible refine (abutmentref05_Long.calls k4 a0 x11_4 t104 _ A15.out).mono ?_); rintro e w' ⟨rfl, ⟨nd, rfl⟩⟩; refine ⟨_, rfl, ?_⟩))
                          go_roundg k4
                          case measure => have := HJ3.out; have := HK2.out; have := HK3.out; have := HK4.out; omega
                          case rel => exact ⟨(wrap64 (x8_4 + t104)), (wrap64 (x11_4 + 1)), (by first | rfl | (simp; done) | (simp [*]; done)), (by first | rfl | (simp; done) | (simp [*]; done)), H', ⟨by have := HJ3.out; have := HK2.out; have := HK3.out; have := HK4.out; omega⟩, by repeat (first | exact Drawn0.refl _ | apply Drawn0.step)⟩
                        · rw [if_neg c14] at H
                          have c14b0 : decide (x11_4 < a1) = false := decide_eq_false c14
                          clear c14
                          simp only [Option.some.injEq, Prod.mk.injEq] at H
                          obtain ⟨rfl, rfl⟩ := H
                          go_wp2
                          go_ret2
                          exact ⟨by first | rfl | (simp; done) | (simp [*]; done), by repeat (first | exact Drawn0.refl _ | apply Drawn0.step)⟩
end Go.Proofs.Ytjnhghplfdiijaa.Q

namespace Go.Proofs.Ytjnhghplfdiijaa.Q
open Go.RowKit Go.Proofs.YtjnhghplfdiijaaW.PrintWords Go.Proofs.YtjnhghplfdiijaaW.PrintLast Go.Proofs.YtjnhghplfdiijaaW.PrintMore
attribute [local go_sem] max2_int min2_int max_two min_two max_three min_three max_four min_four
set_option linter.unusedVariables false
set_option linter.unusedSimpArgs false
def abutmentref05_Weekday.f (a0 : Int) : Option (Int) := if (Int.tmod a0 7) < 0 then (some (Int.tmod (wrap64 ((wrap64 ((Int.tmod a0 7) + 7)) + 4)) 7)) else (some (Int.tmod (wrap64 ((Int.tmod a0 7) + 4)) 7))
set_option maxHeartbeats 8000000 in
set_option maxRecDepth 100000 in
theorem abutmentref05_Weekday.calls (a0 : Int) (r : Int) (w : World) (h : abutmentref05_Weekday.f a0 = some r) :
    Calls Try.prog 154 #[.int .i64 a0] w fun e w' => e = .returned (.int .i64 r) ∧ Drawn0 w w' := by
  have H : (if (Int.tmod a0 7) < 0 then (some (Int.tmod (wrap64 ((wrap64 ((Int.tmod a0 7) + 7)) + 4)) 7)) else (some (Int.tmod (wrap64 ((Int.tmod a0 7) + 4)) 7))) = some r := h
  clear h
  by_cases c2 : (Int.tmod a0 7) < 0
  · rw [if_pos c2] at H
    have c2b0 : decide ((Int.tmod a0 7) < 0) = true := decide_eq_true c2
    clear c2
    obtain rfl := Option.some.inj H
    go_enter Try.func154, Try.ntmps154
    go_wp2
    go_ret
    exact ⟨by first | rfl | (simp; done) | (simp [*]; done), by repeat (first | exact Drawn0.refl _ | apply Drawn0.step)⟩
  · rw [if_neg c2] at H
    have c2b0 : decide ((Int.tmod a0 7) < 0) = false := decide_eq_false c2
    clear c2
    obtain rfl := Option.some.inj H
    go_enter Try.func154, Try.ntmps154
    go_wp2
    go_ret
    exact ⟨by first | rfl | (simp; done) | (simp [*]; done), by repeat (first | exact Drawn0.refl _ | apply Drawn0.step)⟩
end Go.Proofs.Ytjnhghplfdiijaa.Q

namespace Go.Proofs.Ytjnhghplfdiijaa.Q
open Go.RowKit Go.Proofs.YtjnhghplfdiijaaW.PrintWords Go.Proofs.YtjnhghplfdiijaaW.PrintLast Go.Proofs.YtjnhghplfdiijaaW.PrintMore
set_option linter.unusedVariables false
set_option linter.unusedSimpArgs false
/-- 1 in a leap year, else 0. -/
def leapI (y : Int) : Int := if (y % 4 = 0 ∧ y % 100 ≠ 0) ∨ y % 400 = 0 then 1 else 0
theorem leapI_range (y : Int) : 0 ≤ leapI y ∧ leapI y ≤ 1 := by unfold leapI; split <;> omega
def wholeI (y : Int) : Int := 365 + leapI y
def longI (y m : Int) : Int := if m = 2 then 28 + leapI y else if m = 4 ∨ m = 6 ∨ m = 9 ∨ m = 11 then 30 else 31
theorem longI_range (y m : Int) : 28 ≤ longI y m ∧ longI y m ≤ 31 := by
  have := leapI_range y
  unfold longI
  split
  · omega
  · split <;> omega
/-- The day on which a year begins. -/
def janI (y : Int) : Int := (y - 1) * 365 + (y - 1) / 4 - (y - 1) / 100 + (y - 1) / 400 - 719162
def cumI (y m : Int) : Int := if m ≤ 2 then 31 * (m - 1) else (153 * (m - 3) + 2) / 5 + 59 + leapI y
def dayN (y m d : Int) : Int := janI y + cumI y m + (d - 1)
def YmdOK (y m d : Int) : Prop := 1 ≤ y ∧ y ≤ 9999 ∧ 1 ≤ m ∧ m ≤ 12 ∧ 1 ≤ d ∧ d ≤ longI y m
theorem janI_succ (y : Int) : janI (y + 1) = janI y + wholeI y := by unfold janI wholeI leapI; split <;> omega
theorem janI_mono {a b : Int} (h : a ≤ b) : janI a ≤ janI b := by unfold janI; omega
theorem cumI_one (y : Int) : cumI y 1 = 0 := by unfold cumI; rw [if_pos (by decide)]; rfl
theorem cumI_succ (y m : Int) (h1 : 1 ≤ m) (h2 : m ≤ 11) : cumI y (m + 1) = cumI y m + longI y m := by
  have := leapI_range y
  obtain rfl | rfl | rfl | rfl | rfl | rfl | rfl | rfl | rfl | rfl | rfl : m = 1 ∨ m = 2 ∨ m = 3 ∨ m = 4 ∨ m = 5 ∨ m = 6 ∨ m = 7 ∨ m = 8 ∨ m = 9 ∨ m = 10 ∨ m = 11 := by omega
  all_goals
    simp only [cumI, longI]
    generalize leapI y = v at *
    simp
    try omega
theorem cumI_last (y : Int) : cumI y 12 + longI y 12 = wholeI y := by
  unfold cumI longI wholeI
  rw [if_neg (by decide), if_neg (by decide), if_neg (by decide)]
  omega
theorem cumI_mono (y : Int) {a b : Int} (h1 : 1 ≤ a) (h : a ≤ b) : cumI y a ≤ cumI y b := by
  have := leapI_range y
  unfold cumI
  split <;> split <;> omega
theorem dayN_range {y m d : Int} (h : YmdOK y m d) : janI y ≤ dayN y m d ∧ dayN y m d < janI (y + 1) := by
  obtain ⟨h1, h2, h3, h4, h5, h6⟩ := h
  have c0 := cumI_one y
  have c1 := cumI_mono y (by omega) h3
  have c2 := cumI_last y
  have c4 := janI_succ y
  unfold dayN
  by_cases e : m = 12
  · subst e; omega
  · have c3 := cumI_succ y m h3 (by omega)
    have c5 := cumI_mono y (a := m + 1) (b := 12) (by omega) (by omega)
    have c6 := longI_range y 12
    omega
theorem dayN_bounds {y m d : Int} (h : YmdOK y m d) : -719162 ≤ dayN y m d ∧ dayN y m d ≤ 2932896 := by
  obtain ⟨a, b⟩ := dayN_range h
  obtain ⟨h1, h2, _⟩ := h
  have c1 := janI_mono h1
  have c2 := janI_mono (a := y + 1) (b := 10000) (by omega)
  have e1 : janI 1 = -719162 := by decide
  have e2 : janI 10000 = 2932897 := by decide
  omega
theorem dayN_inj {y m d y' m' d' : Int} (h : YmdOK y m d) (h' : YmdOK y' m' d') (e : dayN y m d = dayN y' m' d') : y = y' ∧ m = m' ∧ d = d' := by
  obtain ⟨a, b⟩ := dayN_range h
  obtain ⟨a', b'⟩ := dayN_range h'
  obtain ⟨h1, h2, h3, h4, h5, h6⟩ := h
  obtain ⟨g1, g2, g3, g4, g5, g6⟩ := h'
  have ey : y = y' := by
    rcases Int.lt_trichotomy y y' with c | c | c
    · have := janI_mono (a := y + 1) (b := y') (by omega); omega
    · exact c
    · have := janI_mono (a := y' + 1) (b := y) (by omega); omega
  subst ey
  unfold dayN at e
  have em : m = m' := by
    rcases Int.lt_trichotomy m m' with c | c | c
    · have c1 := cumI_mono y (a := m + 1) (b := m') (by omega) (by omega)
      have c2 := cumI_succ y m h3 (by omega)
      omega
    · exact c
    · have c1 := cumI_mono y (a := m' + 1) (b := m) (by omega) (by omega)
      have c2 := cumI_succ y m' g3 (by omega)
      omega
  subst em
  exact ⟨rfl, rfl, by omega⟩
/-- The day's number as the program tells it. -/
def marchN (y m d : Int) : Int := y * 365 + y / 4 - y / 100 + y / 400 + (153 * m + 2) / 5 + d - 1 - 719468
theorem marchN_late (y m d : Int) (h1 : 3 ≤ m) (h2 : m ≤ 12) : marchN y (m - 3) d = dayN y m d := by
  unfold marchN dayN janI cumI leapI
  rw [if_neg (by omega)]
  split <;> omega
theorem marchN_early (y m d : Int) (h1 : 1 ≤ m) (h2 : m ≤ 2) : marchN (y - 1) (m + 9) d = dayN y m d := by
  unfold marchN dayN janI cumI
  rw [if_pos (by omega)]
  omega
theorem wsm {x y : Int} (h : x = y) (h0 : -9223372036854775808 ≤ y) (h1 : y ≤ 9223372036854775807) : Aside0 (wrap64 x = y) := ⟨by rw [h]; exact wrap_small h0 h1⟩
theorem wdm {x k y : Int} (h : x / k = y) (hx : 0 ≤ x) (h0 : -9223372036854775808 ≤ y) (h1 : y ≤ 9223372036854775807) : Aside0 (wrap64 (Int.tdiv x k) = y) := ⟨by rw [Int.tdiv_eq_ediv_of_nonneg hx, h]; exact wrap_small h0 h1⟩
theorem tmm {x k y : Int} (h : x % k = y) (hx : 0 ≤ x) : Aside0 (Int.tmod x k = y) := ⟨by rw [Int.tmod_eq_emod_of_nonneg hx]; exact h⟩
theorem mnm {x k y : Int} (h : (if x < k then x else k) = y) : Aside0 (mn x k = y) := ⟨by unfold mn; rw [← h]; split <;> split <;> omega⟩
theorem leap_last (Y Q C F : Int) (h : Y = 400 * Q + 100 * C + 4 * F + 3) (hF : 0 ≤ F ∧ F ≤ 24) (hC : 0 ≤ C ∧ C ≤ 3) (hl : F = 24 → C = 3) : leapI (Y + 1) = 1 := by
  unfold leapI
  by_cases c24 : F = 24
  · have := hl c24
    subst this c24
    have e : Y + 1 = 400 * (Q + 1) := by omega
    rw [if_pos (.inr (by rw [e]; exact Int.mul_emod_right _ _))]
  · have e : Y + 1 = 100 * (4 * Q + C) + 4 * (F + 1) := by omega
    have h1 : (Y + 1) % 4 = 0 := by omega
    have h2 : (Y + 1) % 100 = 4 * (F + 1) := by omega
    rw [if_pos (.inl ⟨h1, by omega⟩)]
set_option maxHeartbeats 4000000 in
theorem of_in (n : Int) (k : Nat) (h0 : -719162 ≤ n) (h1 : n ≤ 2932896) : ∃ y m d, civil_Of.f (k + 1) n = some (y, m, d, true) ∧ YmdOK y m d ∧ dayN y m d = n := by
  obtain ⟨N, hN⟩ : ∃ N, n + 719468 = N := ⟨_, rfl⟩
  have e1 := wsm (x := n + 719468) (y := N) hN (by omega) (by omega)
  obtain ⟨R, hR⟩ : ∃ R, N % 146097 = R := ⟨_, rfl⟩
  obtain ⟨Q, hQ⟩ : ∃ Q, N / 146097 = Q := ⟨_, rfl⟩
  have e2 := tmm (x := N) (k := 146097) hR (by omega)
  have e3 := wdm (x := N) (k := 146097) hQ (by omega) (by omega) (by omega)
  have b1 : N = 146097 * Q + R ∧ 0 ≤ R ∧ R < 146097 ∧ 0 ≤ Q ∧ Q ≤ 24 := by omega
  clear hR hQ
  obtain ⟨C0, hC0⟩ : ∃ C0, R / 36524 = C0 := ⟨_, rfl⟩
  have e4 := wdm (x := R) (k := 36524) hC0 (by omega) (by omega) (by omega)
  obtain ⟨C, hC⟩ : ∃ C, (if C0 < 3 then C0 else 3) = C := ⟨_, rfl⟩
  have e5 := mnm (x := C0) (k := 3) hC
  have b2 : 0 ≤ C ∧ C ≤ 3 ∧ 0 ≤ R - C * 36524 ∧ R - C * 36524 ≤ 36524 ∧ (C ≤ 2 → R - C * 36524 < 36524) := by
    split at hC <;> omega
  clear hC hC0
  have e6 := wsm (x := C * 36524) rfl (by omega) (by omega)
  obtain ⟨R1, hR1⟩ : ∃ R1, R - C * 36524 = R1 := ⟨_, rfl⟩
  rw [hR1] at b2
  have e7 := wsm (x := R - C * 36524) hR1 (by omega) (by omega)
  obtain ⟨F, hF⟩ : ∃ F, R1 / 1461 = F := ⟨_, rfl⟩
  have e8 := wdm (x := R1) (k := 1461) hF (by omega) (by omega) (by omega)
  have b3 : 0 ≤ F ∧ F ≤ 24 ∧ 0 ≤ R1 - F * 1461 ∧ R1 - F * 1461 < 1461 := by omega
  clear hF
  have e9 := wsm (x := F * 1461) rfl (by omega) (by omega)
  obtain ⟨R2, hR2⟩ : ∃ R2, R1 - F * 1461 = R2 := ⟨_, rfl⟩
  rw [hR2] at b3
  have e10 := wsm (x := R1 - F * 1461) hR2 (by omega) (by omega)
  obtain ⟨O0, hO0⟩ : ∃ O0, R2 / 365 = O0 := ⟨_, rfl⟩
  have e11 := wdm (x := R2) (k := 365) hO0 (by omega) (by omega) (by omega)
  obtain ⟨O, hO⟩ : ∃ O, (if O0 < 3 then O0 else 3) = O := ⟨_, rfl⟩
  have e12 := mnm (x := O0) (k := 3) hO
  have b4 : 0 ≤ O ∧ O ≤ 3 ∧ 0 ≤ R2 - O * 365 ∧ R2 - O * 365 ≤ 365 ∧ (O ≤ 2 → R2 - O * 365 < 365) := by
    split at hO <;> omega
  clear hO hO0
  have e13 := wsm (x := O * 365) rfl (by omega) (by omega)
  obtain ⟨R3, hR3⟩ : ∃ R3, R2 - O * 365 = R3 := ⟨_, rfl⟩
  rw [hR3] at b4
  have e14 := wsm (x := R2 - O * 365) hR3 (by omega) (by omega)
  have e15 := wsm (x := 5 * R3) rfl (by omega) (by omega)
  have e16 := wsm (x := 5 * R3 + 2) rfl (by omega) (by omega)
  obtain ⟨M, hM⟩ : ∃ M, (5 * R3 + 2) / 153 = M := ⟨_, rfl⟩
  have e17 := wdm (x := 5 * R3 + 2) (k := 153) hM (by omega) (by omega) (by omega)
  have b5 : 0 ≤ M ∧ M ≤ 11 := by omega
  obtain ⟨Y, hY⟩ : ∃ Y, Q * 400 + (C * 100 + F * 4 + O) = Y := ⟨_, rfl⟩
  have e18 := wsm (x := Q * 400) rfl (by omega) (by omega)
  have e19 := wsm (x := C * 100) rfl (by omega) (by omega)
  have e20 := wsm (x := F * 4) rfl (by omega) (by omega)
  have e21 := wsm (x := C * 100 + F * 4) rfl (by omega) (by omega)
  have e22 := wsm (x := C * 100 + F * 4 + O) rfl (by omega) (by omega)
  have e23 := wsm (x := Q * 400 + (C * 100 + F * 4 + O)) hY (by omega) (by omega)
  have e24 := wsm (x := Y + 1) rfl (by omega) (by omega)
  have e25 := wsm (x := M + 2) rfl (by omega) (by omega)
  have e26 := wsm (x := 153 * M) rfl (by omega) (by omega)
  have e27 := wsm (x := 153 * M + 2) rfl (by omega) (by omega)
  have e28 := wdm (x := 153 * M + 2) (k := 5) rfl (by omega) (by omega) (by omega)
  have e29 := wsm (x := R3 - (153 * M + 2) / 5) rfl (by omega) (by omega)
  have e30 := wsm (x := R3 - (153 * M + 2) / 5 + 1) rfl (by omega) (by omega)
  have e31 := tmm (x := M + 2) (k := 12) rfl (by omega)
  have e32 := wsm (x := (M + 2) % 12 + 1) rfl (by omega) (by omega)
  have hf : civil_Of.f (k + 1) n = if M ≥ 10 then some (Y + 1, (M + 2) % 12 + 1, R3 - (153 * M + 2) / 5 + 1, true) else some (Y, (M + 2) % 12 + 1, R3 - (153 * M + 2) / 5 + 1, true) := by
    unfold civil_Of.f
    rw [if_neg (by omega), decide_eq_false (show ¬ n ≥ 2932897 by omega)]
    simp only [civil_Of.j0]
    rw [if_neg (by simp)]
    simp only [e1.out, e2.out, e3.out, e4.out, e5.out, e6.out, e7.out, e8.out, e9.out, e10.out, e11.out, e12.out, e13.out, e14.out, e15.out, e16.out, e17.out, e18.out, e19.out, e20.out, e21.out, e22.out, e23.out, e24.out, e25.out, e26.out, e27.out, e28.out, e29.out, e30.out, e31.out, e32.out]
  clear e1 e2 e3 e4 e5 e6 e7 e8 e9 e10 e11 e12 e13 e14 e15 e16 e17 e18 e19 e20 e21 e22 e23 e24 e25 e26 e27 e28 e29 e30 e31 e32
  have y4 : Y / 4 = Q * 100 + C * 25 + F := by omega
  have y100 : Y / 100 = Q * 4 + C := by omega
  have y400 : Y / 400 = Q := by omega
  have hsum : Y * 365 + Y / 4 - Y / 100 + Y / 400 + R3 = N := by rw [y4, y100, y400]; omega
  have hday : marchN Y M (R3 - (153 * M + 2) / 5 + 1) = n := by unfold marchN; omega
  by_cases c : M ≥ 10
  · rw [if_pos c] at hf
    have hm : (M + 2) % 12 + 1 = M - 9 := by omega
    rw [hm] at hf
    refine ⟨_, _, _, hf, ⟨by omega, by omega, by omega, by omega, ?_, ?_⟩, ?_⟩
    · obtain rfl | rfl : M = 10 ∨ M = 11 := by omega
      all_goals omega
    · obtain rfl | rfl : M = 10 ∨ M = 11 := by omega
      · unfold longI
        rw [if_neg (by decide), if_neg (by decide)]
        omega
      · unfold longI
        rw [if_pos (by decide)]
        by_cases c5 : R3 = 365
        · have hl : leapI (Y + 1) = 1 := leap_last Y Q C F (by omega) ⟨by omega, by omega⟩ ⟨by omega, by omega⟩ (fun g => by omega)
          rw [hl]
          omega
        · have := leapI_range (Y + 1)
          omega
    · have := marchN_early (Y + 1) (M - 9) (R3 - (153 * M + 2) / 5 + 1) (by omega) (by omega)
      rw [show Y + 1 - 1 = Y by omega, show M - 9 + 9 = M by omega] at this
      rw [← this]
      exact hday
  · rw [if_neg c] at hf
    have hm : (M + 2) % 12 + 1 = M + 3 := by omega
    rw [hm] at hf
    refine ⟨_, _, _, hf, ⟨?_, by omega, by omega, by omega, ?_, ?_⟩, ?_⟩
    · omega
    · obtain rfl | rfl | rfl | rfl | rfl | rfl | rfl | rfl | rfl | rfl : M = 0 ∨ M = 1 ∨ M = 2 ∨ M = 3 ∨ M = 4 ∨ M = 5 ∨ M = 6 ∨ M = 7 ∨ M = 8 ∨ M = 9 := by omega
      all_goals omega
    · obtain rfl | rfl | rfl | rfl | rfl | rfl | rfl | rfl | rfl | rfl : M = 0 ∨ M = 1 ∨ M = 2 ∨ M = 3 ∨ M = 4 ∨ M = 5 ∨ M = 6 ∨ M = 7 ∨ M = 8 ∨ M = 9 := by omega
      all_goals
        simp only [longI]
        simp
        omega
    · have := marchN_late Y (M + 3) (R3 - (153 * M + 2) / 5 + 1) (by omega) (by omega)
      rw [show M + 3 - 3 = M by omega] at this
      rw [← this]
      exact hday
theorem of_out (n : Int) (k : Nat) (h : n < -719162 ∨ 2932896 < n) : civil_Of.f (k + 1) n = some (0, 0, 0, false) := by
  unfold civil_Of.f
  rcases h with h | h
  · rw [if_pos h]
    simp only [civil_Of.j0]
    rw [if_pos trivial]
  · rw [if_neg (by omega), decide_eq_true (show n ≥ 2932897 by omega)]
    simp only [civil_Of.j0]
    rw [if_pos trivial]
end Go.Proofs.Ytjnhghplfdiijaa.Q

namespace Go.Proofs.Ytjnhghplfdiijaa.Q
open Go.RowKit Go.Proofs.YtjnhghplfdiijaaW.PrintWords Go.Proofs.YtjnhghplfdiijaaW.PrintLast Go.Proofs.YtjnhghplfdiijaaW.PrintMore
set_option linter.unusedVariables false
set_option linter.unusedSimpArgs false
theorem leapI_cases (y : Int) : (leapI y = 1 ∧ ((y % 4 = 0 ∧ y % 100 ≠ 0) ∨ y % 400 = 0)) ∨ (leapI y = 0 ∧ ¬ ((y % 4 = 0 ∧ y % 100 ≠ 0) ∨ y % 400 = 0)) := by
  unfold leapI
  by_cases h : (y % 4 = 0 ∧ y % 100 ≠ 0) ∨ y % 400 = 0
  · left; exact ⟨if_pos h, h⟩
  · right; exact ⟨if_neg h, h⟩
theorem leap_p (y : Int) (h : 0 ≤ y) : civil_Leap.f y = some (decide (leapI y = 1)) := by
  unfold civil_Leap.f
  rw [Int.tmod_eq_emod_of_nonneg h, Int.tmod_eq_emod_of_nonneg h, Int.tmod_eq_emod_of_nonneg h]
  rcases leapI_cases y with ⟨e, c⟩ | ⟨e, c⟩
  · rw [e, decide_eq_true rfl]
    split
    · split
      · rw [beq_iff_eq.2 (show y % 400 = 0 by omega)]
      · rfl
    · omega
  · rw [e, decide_eq_false (by decide)]
    split
    · split
      · rw [beq_eq_false_iff_ne.2 (show y % 400 ≠ 0 by omega)]
      · omega
    · rfl
theorem leap_r (y : Int) (h : 0 ≤ y) : abutmentref05_Leap.f y = some (decide (leapI y = 1)) := by
  unfold abutmentref05_Leap.f
  rw [Int.tmod_eq_emod_of_nonneg h, Int.tmod_eq_emod_of_nonneg h, Int.tmod_eq_emod_of_nonneg h]
  rcases leapI_cases y with ⟨e, c⟩ | ⟨e, c⟩
  · rw [e, decide_eq_true rfl]
    split
    · rfl
    · split
      · rw [bne_iff_ne.2 (show y % 100 ≠ 0 by omega)]
      · omega
  · rw [e, decide_eq_false (by decide)]
    split
    · omega
    · split
      · rw [bne_eq_false_iff_eq.2 (show y % 100 = 0 by omega)]
      · rfl
theorem whole_r (y : Int) (h : 0 ≤ y) : abutmentref05_whole.f y = some (wholeI y) := by
  unfold abutmentref05_whole.f
  rw [leap_r y h]
  unfold wholeI
  rcases leapI_cases y with ⟨e, c⟩ | ⟨e, c⟩
  · rw [e]; rfl
  · rw [e]; rfl
def longX (y m : Int) : Int := if m < 1 ∨ 12 < m then 0 else longI y m
theorem long_p (y m : Int) (h : 0 ≤ y) : civil_Long.f y m = some (longX y m) := by
  unfold civil_Long.f longX
  rw [leap_p y h]
  split
  · rfl
  · rename_i hm
    simp only [Option.map_some]
    congr 1
    unfold longT longI
    rcases leapI_cases y with ⟨e, c⟩ | ⟨e, c⟩
    · rw [e]
      by_cases c2 : m = 2
      · rw [if_pos ⟨c2, rfl⟩, if_pos c2]; rfl
      · rw [if_neg (fun g => c2 g.1), if_neg c2, if_neg c2]
    · rw [e]
      rw [if_neg (by rintro ⟨_, g⟩; simp at g)]
      by_cases c2 : m = 2
      · rw [if_pos c2, if_pos c2]; rfl
      · rw [if_neg c2, if_neg c2]
theorem ev_long (y m : Int) (h : 0 ≤ y) : Ev (fun k => abutmentref05_Long.f k y m) (longX y m) := by
  have j1 : ∀ b : Bool, (m ≠ 2) → b = decide (m = 4 ∨ m = 6 ∨ m = 9 ∨ m = 11) → Ev (fun k => abutmentref05_Long.j1 k m b) (longX y m) := fun b h2 hb => by
    subst hb
    refine Ev.step (f := fun _ => some (longX y m)) (fun k => ?_) (Ev.now _)
    simp only [abutmentref05_Long.j1]
    unfold longX longI
    rw [if_neg h2]
    by_cases c : m = 4 ∨ m = 6 ∨ m = 9 ∨ m = 11
    · rw [if_pos (decide_eq_true c), if_neg (by omega), if_pos c]
    · rw [if_neg (by simpa using c), if_neg c]
      by_cases c1 : m < 1
      · rw [if_pos c1, if_pos (.inl c1)]
      · by_cases c3 : m > 12
        · rw [if_neg c1, if_pos c3, if_pos (.inr c3)]
        · rw [if_neg c1, if_neg c3, if_neg (by omega)]
  have j0 : ∀ b : Bool, b = decide (m = 2 ∧ leapI y = 1) → Ev (fun k => abutmentref05_Long.j0 k m b) (longX y m) := fun b hb => by
    subst hb
    by_cases c2 : m = 2
    · refine Ev.step (f := fun _ => some (longX y m)) (fun k => ?_) (Ev.now _)
      simp only [abutmentref05_Long.j0]
      unfold longX longI
      rw [if_neg (show ¬ (m < 1 ∨ 12 < m) by omega)]
      rcases leapI_cases y with ⟨e, c⟩ | ⟨e, c⟩
      · rw [if_pos (decide_eq_true ⟨c2, e⟩), if_pos c2, e]; rfl
      · rw [if_neg (by rw [e]; simp), if_pos c2, if_pos c2, e]; rfl
    · have hd : decide (m = 2 ∧ leapI y = 1) = false := decide_eq_false (fun g => c2 g.1)
      rw [hd]
      by_cases c4 : m = 4
      · refine Ev.step (fun k => ?_) (j1 true c2 (decide_eq_true (by omega)).symm)
        simp only [abutmentref05_Long.j0]
        rw [if_neg (by simp), if_neg c2, if_pos c4]
      by_cases c6 : m = 6
      · refine Ev.step (fun k => ?_) (j1 true c2 (decide_eq_true (by omega)).symm)
        simp only [abutmentref05_Long.j0]
        rw [if_neg (by simp), if_neg c2, if_neg c4, if_pos c6]
      by_cases c9 : m = 9
      · refine Ev.step (fun k => ?_) (j1 true c2 (decide_eq_true (by omega)).symm)
        simp only [abutmentref05_Long.j0]
        rw [if_neg (by simp), if_neg c2, if_neg c4, if_neg c6, if_pos c9]
      · refine Ev.step (fun k => ?_) (j1 (m == 11) c2 ?_)
        · simp only [abutmentref05_Long.j0]
          rw [if_neg (by simp), if_neg c2, if_neg c4, if_neg c6, if_neg c9]
        · rw [Bool.eq_iff_iff, beq_iff_eq, decide_eq_true_eq]
          omega
  unfold abutmentref05_Long.f
  by_cases c : m = 2
  · simp only [if_pos c, leap_r y h, Option.bind_some]
    exact j0 _ (by rw [Bool.eq_iff_iff, decide_eq_true_eq, decide_eq_true_eq]; exact ⟨fun g => ⟨c, g⟩, fun g => g.2⟩)
  · simp only [if_neg c]
    exact j0 false (decide_eq_false (fun g => c g.1)).symm
theorem longX_in {y m : Int} (h1 : 1 ≤ m) (h2 : m ≤ 12) : longX y m = longI y m := by unfold longX; rw [if_neg (by omega)]
instance (y m d : Int) : Decidable (YmdOK y m d) := by unfold YmdOK; infer_instance
theorem ok_iff (y m d : Int) : YmdOK y m d ↔ 1 ≤ y ∧ y ≤ 9999 ∧ 1 ≤ d ∧ d ≤ longX y m := by
  unfold YmdOK longX
  constructor
  · rintro ⟨a, b, c, e, f, g⟩
    rw [if_neg (by omega)]
    exact ⟨a, b, f, g⟩
  · rintro ⟨a, b, c, e⟩
    split at e
    · omega
    · exact ⟨a, b, by omega, by omega, c, e⟩
def dayR (y m d : Int) : Int × Bool := if YmdOK y m d then (dayN y m d, true) else (0, false)
theorem days_p (y m d : Int) : civil_Days.f y m d = some (dayR y m d) := by
  have hr : civil_right.f y m d = some (decide (YmdOK y m d)) := by
    unfold civil_right.f
    have hi := ok_iff y m d
    by_cases c1 : y ≥ 1
    · by_cases c2 : y ≤ 9999
      · by_cases c3 : d ≥ 1
        · rw [if_pos c1, if_pos c2, if_pos c3, long_p y m (by omega)]
          simp only [Option.bind_some]
          congr 1
          rw [decide_eq_decide, hi]
          exact ⟨fun g => ⟨c1, c2, c3, g⟩, fun g => g.2.2.2⟩
        · rw [if_pos c1, if_pos c2, if_neg c3, decide_eq_false (fun g => c3 (hi.1 g).2.2.1)]
      · rw [if_pos c1, if_neg c2, decide_eq_false (fun g => c2 (hi.1 g).2.1)]
    · rw [if_neg c1, decide_eq_false (fun g => c1 (hi.1 g).1)]
  unfold civil_Days.f dayR
  rw [hr]
  simp only [Option.bind_some]
  by_cases ok : YmdOK y m d
  · rw [decide_eq_true ok, if_pos rfl, if_pos ok]
    have hb := dayN_bounds ok
    obtain ⟨h1, h2, h3, h4, h5, h6⟩ := ok
    have h7 := longI_range y m
    have e1 := wsm (x := m + 9) rfl (by omega) (by omega)
    have e2 := tmm (x := m + 9) (k := 12) rfl (by omega)
    have go : ∀ (Y M : Int), 0 ≤ Y → Y ≤ 9999 → 0 ≤ M → M ≤ 11 → marchN Y M d = dayN y m d → wrap64 ((wrap64 ((wrap64 ((wrap64 ((wrap64 ((wrap64 ((wrap64 ((wrap64 (Y * 365)) + (wrap64 (Int.tdiv Y 4)))) - (wrap64 (Int.tdiv Y 100)))) + (wrap64 (Int.tdiv Y 400)))) + (wrap64 (Int.tdiv (wrap64 ((wrap64 (153 * M)) + 2)) 5)))) + d)) - 1)) - 719468) = dayN y m d := fun Y M a1 a2 a3 a4 hm => by
      have f1 := wsm (x := Y * 365) rfl (by omega) (by omega)
      have f2 := wdm (x := Y) (k := 4) rfl (by omega) (by omega) (by omega)
      have f3 := wdm (x := Y) (k := 100) rfl (by omega) (by omega) (by omega)
      have f4 := wdm (x := Y) (k := 400) rfl (by omega) (by omega) (by omega)
      have f5 := wsm (x := 153 * M) rfl (by omega) (by omega)
      have f6 := wsm (x := 153 * M + 2) rfl (by omega) (by omega)
      have f7 := wdm (x := 153 * M + 2) (k := 5) rfl (by omega) (by omega) (by omega)
      have f8 := wsm (x := Y * 365 + Y / 4) rfl (by omega) (by omega)
      have f9 := wsm (x := Y * 365 + Y / 4 - Y / 100) rfl (by omega) (by omega)
      have f10 := wsm (x := Y * 365 + Y / 4 - Y / 100 + Y / 400) rfl (by omega) (by omega)
      have f11 := wsm (x := Y * 365 + Y / 4 - Y / 100 + Y / 400 + (153 * M + 2) / 5) rfl (by omega) (by omega)
      have f12 := wsm (x := Y * 365 + Y / 4 - Y / 100 + Y / 400 + (153 * M + 2) / 5 + d) rfl (by omega) (by omega)
      have f13 := wsm (x := Y * 365 + Y / 4 - Y / 100 + Y / 400 + (153 * M + 2) / 5 + d - 1) rfl (by omega) (by omega)
      have f14 := wsm (x := Y * 365 + Y / 4 - Y / 100 + Y / 400 + (153 * M + 2) / 5 + d - 1 - 719468) (y := dayN y m d) (by unfold marchN at hm; exact hm) (by omega) (by omega)
      simp only [f1.out, f2.out, f3.out, f4.out, f5.out, f6.out, f7.out, f8.out, f9.out, f10.out, f11.out, f12.out, f13.out, f14.out]
    have e3 := wsm (x := y - 1) rfl (by omega) (by omega)
    by_cases c : 10 ≤ (m + 9) % 12
    · have hm : m ≤ 2 := by omega
      have e4 : (m + 9) % 12 = m + 9 := by omega
      simp only [e1.out, e2.out, e3.out]
      rw [if_pos (show (m + 9) % 12 ≥ 10 from c), e4, go (y - 1) (m + 9) (by omega) (by omega) (by omega) (by omega) (marchN_early y m d h3 hm)]
    · have hm : 3 ≤ m := by omega
      have e4 : (m + 9) % 12 = m - 3 := by omega
      simp only [e1.out, e2.out]
      rw [if_neg (show ¬ (m + 9) % 12 ≥ 10 from c), e4, go y (m - 3) (by omega) (by omega) (by omega) (by omega) (marchN_late y m d hm h4)]
  · rw [decide_eq_false ok, if_neg (by simp), if_neg ok]
theorem days_l0 (y m : Int) (hy : y ≤ 9999) (R : Int × Bool) : ∀ (n : Nat) (x8 x9 : Int), (y - x9).toNat = n → 1 ≤ x9 → x9 ≤ y → -4000000 ≤ x8 → x8 + (janI y - janI x9) ≤ 8000000 → Ev (fun k => abutmentref05_Days.l1 k y m (x8 + (janI y - janI x9)) y) R →
    Ev (fun k => abutmentref05_Days.l0 k y m x8 x9) R
  | 0, x8, x9, hn, h1, h2, b1, b2, hr => by
    have e : x9 = y := by omega
    subst e
    rw [Int.sub_self, Int.add_zero] at hr
    refine Ev.step (fun k => ?_) hr
    simp only [abutmentref05_Days.l0]
    rw [if_neg (by omega)]
  | n + 1, x8, x9, hn, h1, h2, b1, b2, hr => by
    have hs := janI_succ x9
    have hl := leapI_range x9
    have hm := janI_mono (a := x9 + 1) (b := y) (by omega)
    have hw : wholeI x9 = 365 + leapI x9 := rfl
    have e1 := wsm (x := x8 + wholeI x9) rfl (by omega) (by omega)
    have e2 := wsm (x := x9 + 1) rfl (by omega) (by omega)
    have ih := days_l0 y m hy R n (x8 + wholeI x9) (x9 + 1) (by omega) (by omega) (by omega) (by omega) (by omega) (by
      rw [show x8 + wholeI x9 + (janI y - janI (x9 + 1)) = x8 + (janI y - janI x9) by omega]; exact hr)
    refine Ev.step (fun k => ?_) ih
    simp only [abutmentref05_Days.l0]
    rw [if_pos (by omega), whole_r x9 (by omega)]
    simp only [Option.bind_some, e1.out, e2.out]
theorem days_l1 (y m : Int) (R : Int × Bool) : ∀ (n : Nat) (x8 x10 : Int), (1970 - x10).toNat = n → 1 ≤ x10 → x10 ≤ 1970 → x8 ≤ 4000000 → -8000000 ≤ x8 + janI x10 → Ev (fun k => abutmentref05_Days.l2 k y m (x8 + janI x10) 1) R →
    Ev (fun k => abutmentref05_Days.l1 k y m x8 x10) R
  | 0, x8, x10, hn, h1, h2, b1, b2, hr => by
    have e : x10 = 1970 := by omega
    subst e
    rw [show janI 1970 = 0 by decide, Int.add_zero] at hr
    refine Ev.step (fun k => ?_) hr
    simp only [abutmentref05_Days.l1]
    rw [if_neg (by omega)]
  | n + 1, x8, x10, hn, h1, h2, b1, b2, hr => by
    have hs := janI_succ x10
    have hl := leapI_range x10
    have h70 : janI 1970 = 0 := by decide
    have hm := janI_mono (a := x10 + 1) (b := 1970) (by omega)
    have hw : wholeI x10 = 365 + leapI x10 := rfl
    have e1 := wsm (x := x8 - wholeI x10) rfl (by omega) (by omega)
    have e2 := wsm (x := x10 + 1) rfl (by omega) (by omega)
    have ih := days_l1 y m R n (x8 - wholeI x10) (x10 + 1) (by omega) (by omega) (by omega) (by omega) (by omega) (by
      rw [show x8 - wholeI x10 + janI (x10 + 1) = x8 + janI x10 by omega]; exact hr)
    refine Ev.step (fun k => ?_) ih
    simp only [abutmentref05_Days.l1]
    rw [if_pos (by omega), whole_r x10 (by omega)]
    simp only [Option.bind_some, e1.out, e2.out]
theorem days_l1_late (y m : Int) (R : Int × Bool) (x8 x10 : Int) (h : 1970 ≤ x10) (hr : Ev (fun k => abutmentref05_Days.l2 k y m x8 1) R) : Ev (fun k => abutmentref05_Days.l1 k y m x8 x10) R := by
  refine Ev.step (fun k => ?_) hr
  simp only [abutmentref05_Days.l1]
  rw [if_neg (by omega)]
theorem days_l2 (y m : Int) (hy : 0 ≤ y) (hm1 : 1 ≤ m) (hm2 : m ≤ 12) : ∀ (n : Nat) (x8 x11 : Int), (m - x11).toNat = n → 1 ≤ x11 → x11 ≤ m → -9000000 ≤ x8 → x8 + 31 * (m - x11) ≤ 9000000 →
    Ev (fun k => abutmentref05_Days.l2 k y m x8 x11) (x8 + (cumI y m - cumI y x11), true)
  | 0, x8, x11, hn, h1, h2, b1, b2 => by
    have e : x11 = m := by omega
    subst e
    rw [Int.sub_self, Int.add_zero]
    refine Ev.step (fun k => ?_) (Ev.now _)
    simp only [abutmentref05_Days.l2]
    rw [if_neg (by omega)]
  | n + 1, x8, x11, hn, h1, h2, b1, b2 => by
    have hs := cumI_succ y x11 h1 (by omega)
    have hl := longI_range y x11
    have e1 := wsm (x := x8 + longI y x11) rfl (by omega) (by omega)
    have e2 := wsm (x := x11 + 1) rfl (by omega) (by omega)
    have hL := ev_long y x11 hy
    rw [longX_in h1 (by omega)] at hL
    have ih := days_l2 y m hy hm1 hm2 n (x8 + longI y x11) (x11 + 1) (by omega) (by omega) (by omega) (by omega) (by omega)
    rw [show x8 + longI y x11 + (cumI y m - cumI y (x11 + 1)) = x8 + (cumI y m - cumI y x11) by omega] at ih
    refine Ev.step (f := fun k => (abutmentref05_Long.f k y x11).bind fun t => abutmentref05_Days.l2 k y m (wrap64 (x8 + t)) (x11 + 1)) (fun k => ?_) (Ev.bind hL ?_)
    · simp only [abutmentref05_Days.l2]
      rw [if_pos (by omega), e2.out]
    · simp only [e1.out]
      exact ih
end Go.Proofs.Ytjnhghplfdiijaa.Q

namespace Go.Proofs.Ytjnhghplfdiijaa.Q
open Go.RowKit Go.Proofs.YtjnhghplfdiijaaW.PrintWords Go.Proofs.YtjnhghplfdiijaaW.PrintLast Go.Proofs.YtjnhghplfdiijaaW.PrintMore
attribute [local go_sem] max2_int min2_int max_two min_two max_three min_three max_four min_four
set_option linter.unusedVariables false
set_option linter.unusedSimpArgs false
def civil_Date.f (k : Nat) (a0 : Int) : Option (Int × Int × Int × Int × Int × Int × Bool) := if (Int.tmod a0 86400) < 0 then ((civil_Of.f k (wrap64 ((wrap64 (Int.tdiv a0 86400)) - 1))).bind fun bt102 => (if bt102.2.2.2 = true then (some (bt102.1, bt102.2.1, bt102.2.2.1, wrap64 (Int.tdiv (wrap64 ((Int.tmod a0 86400) + 86400)) 3600), Int.tmod (wrap64 (Int.tdiv (wrap64 ((Int.tmod a0 86400) + 86400)) 60)) 60, Int.tmod (wrap64 ((Int.tmod a0 86400) + 86400)) 60, true)) else (some (0, 0, 0, 0, 0, 0, false)))) else ((civil_Of.f k (wrap64 (Int.tdiv a0 86400))).bind fun bt106 => (if bt106.2.2.2 = true then (some (bt106.1, bt106.2.1, bt106.2.2.1, wrap64 (Int.tdiv (Int.tmod a0 86400) 3600), Int.tmod (wrap64 (Int.tdiv (Int.tmod a0 86400) 60)) 60, Int.tmod a0 60, true)) else (some (0, 0, 0, 0, 0, 0, false))))
set_option maxHeartbeats 8000000 in
set_option maxRecDepth 100000 in
theorem civil_Date.calls (k : Nat) (a0 : Int) (r1 : Int) (r2 : Int) (r3 : Int) (r4 : Int) (r5 : Int) (r6 : Int) (r7 : Bool) (w : World) (h : civil_Date.f k a0 = some (r1, r2, r3, r4, r5, r6, r7)) :
    Calls Try.prog 94 #[.int .i64 a0] w fun e w' => e = .returned (.tuple #[.agg #[.int .i64 r1, .int .i64 r2, .int .i64 r3, .int .i64 r4, .int .i64 r5, .int .i64 r6], .bool r7]) ∧ Below w.heap.size w w' := by
  have hu75 := Try.underlying75
  have HB := Aside0.mk (Below.refl w.heap.size w)
  have H : (if (Int.tmod a0 86400) < 0 then ((civil_Of.f k (wrap64 ((wrap64 (Int.tdiv a0 86400)) - 1))).bind fun bt102 => (if bt102.2.2.2 = true then (some (bt102.1, bt102.2.1, bt102.2.2.1, wrap64 (Int.tdiv (wrap64 ((Int.tmod a0 86400) + 86400)) 3600), Int.tmod (wrap64 (Int.tdiv (wrap64 ((Int.tmod a0 86400) + 86400)) 60)) 60, Int.tmod (wrap64 ((Int.tmod a0 86400) + 86400)) 60, true)) else (some (0, 0, 0, 0, 0, 0, false)))) else ((civil_Of.f k (wrap64 (Int.tdiv a0 86400))).bind fun bt106 => (if bt106.2.2.2 = true then (some (bt106.1, bt106.2.1, bt106.2.2.1, wrap64 (Int.tdiv (Int.tmod a0 86400) 3600), Int.tmod (wrap64 (Int.tdiv (Int.tmod a0 86400) 60)) 60, Int.tmod a0 60, true)) else (some (0, 0, 0, 0, 0, 0, false))))) = some (r1, r2, r3, r4, r5, r6, r7) := h
  clear h
  by_cases c2 : (Int.tmod a0 86400) < 0
  · rw [if_pos c2] at H
    have c2b0 : decide ((Int.tmod a0 86400) < 0) = true := decide_eq_true c2
    clear c2
    replace H := Option.bind_eq_some_iff.mp H
    obtain ⟨⟨t102, t103, t104, t105⟩, A30, H⟩ := H
    (try dsimp only at H)
    have A3 := Aside0.mk A30
    clear A30
    by_cases c4 : t105 = true
    · subst c4
      have H1 : (some (t102, t103, t104, wrap64 (Int.tdiv (wrap64 ((Int.tmod a0 86400) + 86400)) 3600), Int.tmod (wrap64 (Int.tdiv (wrap64 ((Int.tmod a0 86400) + 86400)) 60)) 60, Int.tmod (wrap64 ((Int.tmod a0 86400) + 86400)) 60, true)) = some (r1, r2, r3, r4, r5, r6, r7) := by rw [if_pos rfl] at H; exact H
      clear H
      have H := H1
      clear H1
      simp only [Option.some.injEq, Prod.mk.injEq] at H
      obtain ⟨rfl, rfl, rfl, rfl, rfl, rfl, rfl⟩ := H
      go_enter Try.func94, Try.ntmps94
      go_wp2_with (first | ((with_reducible refine gate_dst (N := 2) rfl ?_); refine box_event ?hg (N := 2) ?hd (cs := #[.int .i64 0, .int .i64 0, .int .i64 0, .int .i64 0, .int .i64 0, .int .i64 0]) (t := 75) ?hr ?_; (case hd => rfl); (case hg => rfl); (case hr => first | (go_simp; done) | (go_simp; rfl)); intro gb101 hg w5 hbox hb; have n0_ := Aside0.mk (below_step (by repeat (first | (with_reducible first | exact HB.out | apply below_alloc | apply pw_below_drewN | apply below_drew1) | exact HB.out)) hb); have n1_ := Aside0.mk (hbox); have n2_ := Aside0.mk ((by rw [hg]; exact (below_size (by repeat (first | (with_reducible first | exact HB.out | apply below_alloc | apply pw_below_drewN | apply below_drew1) | exact HB.out))) : w.heap.size ≤ gb101)); have n3_ := Aside0.mk ((by rw [hg]; exact (below_size (by repeat (first | (with_reducible first | exact HB.out | apply below_alloc | apply pw_below_drewN | apply below_drew1) | exact HB.out))) : w.heap.size ≤ gb101)); clear HB; have HB := n0_; have BK101 := n1_; have GW101 := n2_; have GE101 := n3_; clear n0_ n1_ n2_ n3_; clear hb hbox hg) | ((with_reducible refine gate_callee (f := 146) rfl ?_); refine goesL_ (some 22) rfl rfl Try.func146 (by kernel_rfl) rfl #[.int .i64 (wrap64 ((wrap64 (Int.tdiv a0 86400)) - 1))] rfl (by (try simp only [List.map_toArray, List.map_cons, List.map_nil]); first | done | rfl | (simp only [List.length_drop, List.length_take]; rfl)) ?_; (with_reducible refine (civil_Of.calls k (wrap64 ((wrap64 (Int.tdiv a0 86400)) - 1)) t102 t103 t104 true _ A3.out).mono ?_); rintro e w6 ⟨rfl, hb⟩; refine ⟨_, rfl, ?_⟩; have n0_ := Aside0.mk (blk_below (g := gb101) (o := .cells #[.int .i64 0, .int .i64 0, .int .i64 0, .int .i64 0, .int .i64 0, .int .i64 0] 75 (0, 0)) (by (with_reducible repeat (first | refine blk_drewN ?_ _ | refine blk_drew ?_ | refine blk_alloc ?_ _)); exact BK101.out) hb); have n1_ := Aside0.mk (below_step (by repeat (first | (with_reducible first | exact HB.out | apply below_alloc | apply pw_below_drewN | apply below_drew1 | refine below_set ?_ GE101.out) | exact HB.out)) hb); clear BK101; clear HB; have BK101 := n0_; have HB := n1_; clear n0_ n1_; (try clear hb); (try clear hb2); (try clear hk); (try clear hi); have hcz7_0 : w6.cell? ⟨gb101, 0, none⟩ = some (.int .i64 0) := (blk_cell BK101.out 0).trans rfl; have hcz7_1 : w6.cell? ⟨gb101, 1, none⟩ = some (.int .i64 0) := (blk_cell BK101.out 1).trans rfl; have hcz7_2 : w6.cell? ⟨gb101, 2, none⟩ = some (.int .i64 0) := (blk_cell BK101.out 2).trans rfl; have hcz7_3 : w6.cell? ⟨gb101, 3, none⟩ = some (.int .i64 0) := (blk_cell BK101.out 3).trans rfl; have hcz7_4 : w6.cell? ⟨gb101, 4, none⟩ = some (.int .i64 0) := (blk_cell BK101.out 4).trans rfl; have hcz7_5 : w6.cell? ⟨gb101, 5, none⟩ = some (.int .i64 0) := (blk_cell BK101.out 5).trans rfl; have hfz7_0 := blk_frozen BK101.out 0; have hfz7_1 := blk_frozen BK101.out 1; have hfz7_2 := blk_frozen BK101.out 2; have hfz7_3 := blk_frozen BK101.out 3; have hfz7_4 := blk_frozen BK101.out 4; have hfz7_5 := blk_frozen BK101.out 5))
      refine bodyPost_ret (results_ct rfl _ _ gb101 75 #[.int .i64 t102, .int .i64 t103, .int .i64 t104, .int .i64 (wrap64 (Int.tdiv (wrap64 ((Int.tmod a0 86400) + 86400)) 3600)), .int .i64 (Int.tmod (wrap64 (Int.tdiv (wrap64 ((Int.tmod a0 86400) + 86400)) 60)) 60), .int .i64 (Int.tmod (wrap64 ((Int.tmod a0 86400) + 86400)) 60)] (0, 0) _ rfl (by (with_reducible repeat (first | refine blk_drewN ?_ _ | refine blk_drew ?_ | refine blk_alloc ?_ _)); refine blk_put (cs := #[.int .i64 t102, .int .i64 t103, .int .i64 t104, .int .i64 (wrap64 (Int.tdiv (wrap64 ((Int.tmod a0 86400) + 86400)) 3600)), .int .i64 (Int.tmod (wrap64 (Int.tdiv (wrap64 ((Int.tmod a0 86400) + 86400)) 60)) 60), .int .i64 0]) ?_ 5 _ rfl; (with_reducible repeat (first | refine blk_drewN ?_ _ | refine blk_drew ?_ | refine blk_alloc ?_ _)); refine blk_put (cs := #[.int .i64 t102, .int .i64 t103, .int .i64 t104, .int .i64 (wrap64 (Int.tdiv (wrap64 ((Int.tmod a0 86400) + 86400)) 3600)), .int .i64 0, .int .i64 0]) ?_ 4 _ rfl; (with_reducible repeat (first | refine blk_drewN ?_ _ | refine blk_drew ?_ | refine blk_alloc ?_ _)); refine blk_put (cs := #[.int .i64 t102, .int .i64 t103, .int .i64 t104, .int .i64 0, .int .i64 0, .int .i64 0]) ?_ 3 _ rfl; (with_reducible repeat (first | refine blk_drewN ?_ _ | refine blk_drew ?_ | refine blk_alloc ?_ _)); refine blk_put (cs := #[.int .i64 t102, .int .i64 t103, .int .i64 0, .int .i64 0, .int .i64 0, .int .i64 0]) ?_ 2 _ rfl; (with_reducible repeat (first | refine blk_drewN ?_ _ | refine blk_drew ?_ | refine blk_alloc ?_ _)); refine blk_put (cs := #[.int .i64 t102, .int .i64 0, .int .i64 0, .int .i64 0, .int .i64 0, .int .i64 0]) ?_ 1 _ rfl; (with_reducible repeat (first | refine blk_drewN ?_ _ | refine blk_drew ?_ | refine blk_alloc ?_ _)); refine blk_put (cs := #[.int .i64 0, .int .i64 0, .int .i64 0, .int .i64 0, .int .i64 0, .int .i64 0]) ?_ 0 _ rfl; (with_reducible repeat (first | refine blk_drewN ?_ _ | refine blk_drew ?_ | refine blk_alloc ?_ _)); exact BK101.out) Try.underlying75 rfl (by kernel_rfl)) rfl ?_
      exact ⟨by first | rfl | (simp [errW_none, errW_some] <;> rfl) | (simp [*, errW_none, errW_some] <;> rfl), by repeat (first | (with_reducible first | exact HB.out | apply below_alloc | apply pw_below_drewN | apply below_drew1 | refine below_set ?_ GE101.out) | exact HB.out)⟩
    · replace c4 := Bool.eq_false_iff.mpr c4
      subst c4
      have H1 : (some (0, 0, 0, 0, 0, 0, false)) = some (r1, r2, r3, r4, r5, r6, r7) := by rw [if_neg (show ¬ (false = true) by decide)] at H; exact H
      clear H
      have H := H1
      clear H1
      simp only [Option.some.injEq, Prod.mk.injEq] at H
      obtain ⟨rfl, rfl, rfl, rfl, rfl, rfl, rfl⟩ := H
      go_enter Try.func94, Try.ntmps94
      go_wp2_with (first | ((with_reducible refine gate_dst (N := 2) rfl ?_); refine box_event ?hg (N := 2) ?hd (cs := #[.int .i64 0, .int .i64 0, .int .i64 0, .int .i64 0, .int .i64 0, .int .i64 0]) (t := 75) ?hr ?_; (case hd => rfl); (case hg => rfl); (case hr => first | (go_simp; done) | (go_simp; rfl)); intro gb101 hg w8 hbox hb; have n0_ := Aside0.mk (below_step (by repeat (first | (with_reducible first | exact HB.out | apply below_alloc | apply pw_below_drewN | apply below_drew1) | exact HB.out)) hb); have n1_ := Aside0.mk (hbox); have n2_ := Aside0.mk ((by rw [hg]; exact (below_size (by repeat (first | (with_reducible first | exact HB.out | apply below_alloc | apply pw_below_drewN | apply below_drew1) | exact HB.out))) : w.heap.size ≤ gb101)); have n3_ := Aside0.mk ((by rw [hg]; exact (below_size (by repeat (first | (with_reducible first | exact HB.out | apply below_alloc | apply pw_below_drewN | apply below_drew1) | exact HB.out))) : w.heap.size ≤ gb101)); clear HB; have HB := n0_; have BK101 := n1_; have GW101 := n2_; have GE101 := n3_; clear n0_ n1_ n2_ n3_; clear hb hbox hg) | ((with_reducible refine gate_callee (f := 146) rfl ?_); refine goesL_ (some 22) rfl rfl Try.func146 (by kernel_rfl) rfl #[.int .i64 (wrap64 ((wrap64 (Int.tdiv a0 86400)) - 1))] rfl (by (try simp only [List.map_toArray, List.map_cons, List.map_nil]); first | done | rfl | (simp only [List.length_drop, List.length_take]; rfl)) ?_; (with_reducible refine (civil_Of.calls k (wrap64 ((wrap64 (Int.tdiv a0 86400)) - 1)) t102 t103 t104 false _ A3.out).mono ?_); rintro e w9 ⟨rfl, hb⟩; refine ⟨_, rfl, ?_⟩; have n0_ := Aside0.mk (blk_below (g := gb101) (o := .cells #[.int .i64 0, .int .i64 0, .int .i64 0, .int .i64 0, .int .i64 0, .int .i64 0] 75 (0, 0)) (by (with_reducible repeat (first | refine blk_drewN ?_ _ | refine blk_drew ?_ | refine blk_alloc ?_ _)); exact BK101.out) hb); have n1_ := Aside0.mk (below_step (by repeat (first | (with_reducible first | exact HB.out | apply below_alloc | apply pw_below_drewN | apply below_drew1 | refine below_set ?_ GE101.out) | exact HB.out)) hb); clear BK101; clear HB; have BK101 := n0_; have HB := n1_; clear n0_ n1_; (try clear hb); (try clear hb2); (try clear hk); (try clear hi); have hcz10_0 : w9.cell? ⟨gb101, 0, none⟩ = some (.int .i64 0) := (blk_cell BK101.out 0).trans rfl; have hcz10_1 : w9.cell? ⟨gb101, 1, none⟩ = some (.int .i64 0) := (blk_cell BK101.out 1).trans rfl; have hcz10_2 : w9.cell? ⟨gb101, 2, none⟩ = some (.int .i64 0) := (blk_cell BK101.out 2).trans rfl; have hcz10_3 : w9.cell? ⟨gb101, 3, none⟩ = some (.int .i64 0) := (blk_cell BK101.out 3).trans rfl; have hcz10_4 : w9.cell? ⟨gb101, 4, none⟩ = some (.int .i64 0) := (blk_cell BK101.out 4).trans rfl; have hcz10_5 : w9.cell? ⟨gb101, 5, none⟩ = some (.int .i64 0) := (blk_cell BK101.out 5).trans rfl; have hfz10_0 := blk_frozen BK101.out 0; have hfz10_1 := blk_frozen BK101.out 1; have hfz10_2 := blk_frozen BK101.out 2; have hfz10_3 := blk_frozen BK101.out 3; have hfz10_4 := blk_frozen BK101.out 4; have hfz10_5 := blk_frozen BK101.out 5))
      refine bodyPost_ret (results_ct rfl _ _ gb101 75 #[.int .i64 0, .int .i64 0, .int .i64 0, .int .i64 0, .int .i64 0, .int .i64 0] (0, 0) _ rfl (by (with_reducible repeat (first | refine blk_drewN ?_ _ | refine blk_drew ?_ | refine blk_alloc ?_ _)); refine blk_put (cs := #[.int .i64 0, .int .i64 0, .int .i64 0, .int .i64 0, .int .i64 0, .int .i64 0]) ?_ 5 _ rfl; (with_reducible repeat (first | refine blk_drewN ?_ _ | refine blk_drew ?_ | refine blk_alloc ?_ _)); refine blk_put (cs := #[.int .i64 0, .int .i64 0, .int .i64 0, .int .i64 0, .int .i64 0, .int .i64 0]) ?_ 4 _ rfl; (with_reducible repeat (first | refine blk_drewN ?_ _ | refine blk_drew ?_ | refine blk_alloc ?_ _)); refine blk_put (cs := #[.int .i64 0, .int .i64 0, .int .i64 0, .int .i64 0, .int .i64 0, .int .i64 0]) ?_ 3 _ rfl; (with_reducible repeat (first | refine blk_drewN ?_ _ | refine blk_drew ?_ | refine blk_alloc ?_ _)); refine blk_put (cs := #[.int .i64 0, .int .i64 0, .int .i64 0, .int .i64 0, .int .i64 0, .int .i64 0]) ?_ 2 _ rfl; (with_reducible repeat (first | refine blk_drewN ?_ _ | refine blk_drew ?_ | refine blk_alloc ?_ _)); refine blk_put (cs := #[.int .i64 0, .int .i64 0, .int .i64 0, .int .i64 0, .int .i64 0, .int .i64 0]) ?_ 1 _ rfl; (with_reducible repeat (first | refine blk_drewN ?_ _ | refine blk_drew ?_ | refine blk_alloc ?_ _)); refine blk_put (cs := #[.int .i64 0, .int .i64 0, .int .i64 0, .int .i64 0, .int .i64 0, .int .i64 0]) ?_ 0 _ rfl; (with_reducible repeat (first | refine blk_drewN ?_ _ | refine blk_drew ?_ | refine blk_alloc ?_ _)); exact BK101.out) Try.underlying75 rfl (by kernel_rfl)) rfl ?_
      exact ⟨by first | rfl | (simp [errW_none, errW_some] <;> rfl) | (simp [*, errW_none, errW_some] <;> rfl), by repeat (first | (with_reducible first | exact HB.out | apply below_alloc | apply pw_below_drewN | apply below_drew1 | refine below_set ?_ GE101.out) | exact HB.out)⟩
  · rw [if_neg c2] at H
    have c2b0 : decide ((Int.tmod a0 86400) < 0) = false := decide_eq_false c2
    clear c2
    replace H := Option.bind_eq_some_iff.mp H
    obtain ⟨⟨t106, t107, t108, t109⟩, A110, H⟩ := H
    (try dsimp only at H)
    have A11 := Aside0.mk A110
    clear A110
    by_cases c12 : t109 = true
    · subst c12
      have H1 : (some (t106, t107, t108, wrap64 (Int.tdiv (Int.tmod a0 86400) 3600), Int.tmod (wrap64 (Int.tdiv (Int.tmod a0 86400) 60)) 60, Int.tmod a0 60, true)) = some (r1, r2, r3, r4, r5, r6, r7) := by rw [if_pos rfl] at H; exact H
      clear H
      have H := H1
      clear H1
      simp only [Option.some.injEq, Prod.mk.injEq] at H
      obtain ⟨rfl, rfl, rfl, rfl, rfl, rfl, rfl⟩ := H
      go_enter Try.func94, Try.ntmps94
      go_wp2_with (first | ((with_reducible refine gate_dst (N := 2) rfl ?_); refine box_event ?hg (N := 2) ?hd (cs := #[.int .i64 0, .int .i64 0, .int .i64 0, .int .i64 0, .int .i64 0, .int .i64 0]) (t := 75) ?hr ?_; (case hd => rfl); (case hg => rfl); (case hr => first | (go_simp; done) | (go_simp; rfl)); intro gb101 hg w13 hbox hb; have n0_ := Aside0.mk (below_step (by repeat (first | (with_reducible first | exact HB.out | apply below_alloc | apply pw_below_drewN | apply below_drew1) | exact HB.out)) hb); have n1_ := Aside0.mk (hbox); have n2_ := Aside0.mk ((by rw [hg]; exact (below_size (by repeat (first | (with_reducible first | exact HB.out | apply below_alloc | apply pw_below_drewN | apply below_drew1) | exact HB.out))) : w.heap.size ≤ gb101)); have n3_ := Aside0.mk ((by rw [hg]; exact (below_size (by repeat (first | (with_reducible first | exact HB.out | apply below_alloc | apply pw_below_drewN | apply below_drew1) | exact HB.out))) : w.heap.size ≤ gb101)); clear HB; have HB := n0_; have BK101 := n1_; have GW101 := n2_; have GE101 := n3_; clear n0_ n1_ n2_ n3_; clear hb hbox hg) | ((with_reducible refine gate_callee (f := 146) rfl ?_); refine goesL_ (some 22) rfl rfl Try.func146 (by kernel_rfl) rfl #[.int .i64 (wrap64 (Int.tdiv a0 86400))] rfl (by (try simp only [List.map_toArray, List.map_cons, List.map_nil]); first | done | rfl | (simp only [List.length_drop, List.length_take]; rfl)) ?_; (with_reducible refine (civil_Of.calls k (wrap64 (Int.tdiv a0 86400)) t106 t107 t108 true _ A11.out).mono ?_); rintro e w14 ⟨rfl, hb⟩; refine ⟨_, rfl, ?_⟩; have n0_ := Aside0.mk (blk_below (g := gb101) (o := .cells #[.int .i64 0, .int .i64 0, .int .i64 0, .int .i64 0, .int .i64 0, .int .i64 0] 75 (0, 0)) (by (with_reducible repeat (first | refine blk_drewN ?_ _ | refine blk_drew ?_ | refine blk_alloc ?_ _)); exact BK101.out) hb); have n1_ := Aside0.mk (below_step (by repeat (first | (with_reducible first | exact HB.out | apply below_alloc | apply pw_below_drewN | apply below_drew1 | refine below_set ?_ GE101.out) | exact HB.out)) hb); clear BK101; clear HB; have BK101 := n0_; have HB := n1_; clear n0_ n1_; (try clear hb); (try clear hb2); (try clear hk); (try clear hi); have hcz15_0 : w14.cell? ⟨gb101, 0, none⟩ = some (.int .i64 0) := (blk_cell BK101.out 0).trans rfl; have hcz15_1 : w14.cell? ⟨gb101, 1, none⟩ = some (.int .i64 0) := (blk_cell BK101.out 1).trans rfl; have hcz15_2 : w14.cell? ⟨gb101, 2, none⟩ = some (.int .i64 0) := (blk_cell BK101.out 2).trans rfl; have hcz15_3 : w14.cell? ⟨gb101, 3, none⟩ = some (.int .i64 0) := (blk_cell BK101.out 3).trans rfl; have hcz15_4 : w14.cell? ⟨gb101, 4, none⟩ = some (.int .i64 0) := (blk_cell BK101.out 4).trans rfl; have hcz15_5 : w14.cell? ⟨gb101, 5, none⟩ = some (.int .i64 0) := (blk_cell BK101.out 5).trans rfl; have hfz15_0 := blk_frozen BK101.out 0; have hfz15_1 := blk_frozen BK101.out 1; have hfz15_2 := blk_frozen BK101.out 2; have hfz15_3 := blk_frozen BK101.out 3; have hfz15_4 := blk_frozen BK101.out 4; have hfz15_5 := blk_frozen BK101.out 5))
      refine bodyPost_ret (results_ct rfl _ _ gb101 75 #[.int .i64 t106, .int .i64 t107, .int .i64 t108, .int .i64 (wrap64 (Int.tdiv (Int.tmod a0 86400) 3600)), .int .i64 (Int.tmod (wrap64 (Int.tdiv (Int.tmod a0 86400) 60)) 60), .int .i64 (Int.tmod a0 60)] (0, 0) _ rfl (by (with_reducible repeat (first | refine blk_drewN ?_ _ | refine blk_drew ?_ | refine blk_alloc ?_ _)); refine blk_put (cs := #[.int .i64 t106, .int .i64 t107, .int .i64 t108, .int .i64 (wrap64 (Int.tdiv (Int.tmod a0 86400) 3600)), .int .i64 (Int.tmod (wrap64 (Int.tdiv (Int.tmod a0 86400) 60)) 60), .int .i64 0]) ?_ 5 _ rfl; (with_reducible repeat (first | refine blk_drewN ?_ _ | refine blk_drew ?_ | refine blk_alloc ?_ _)); refine blk_put (cs := #[.int .i64 t106, .int .i64 t107, .int .i64 t108, .int .i64 (wrap64 (Int.tdiv (Int.tmod a0 86400) 3600)), .int .i64 0, .int .i64 0]) ?_ 4 _ rfl; (with_reducible repeat (first | refine blk_drewN ?_ _ | refine blk_drew ?_ | refine blk_alloc ?_ _)); refine blk_put (cs := #[.int .i64 t106, .int .i64 t107, .int .i64 t108, .int .i64 0, .int .i64 0, .int .i64 0]) ?_ 3 _ rfl; (with_reducible repeat (first | refine blk_drewN ?_ _ | refine blk_drew ?_ | refine blk_alloc ?_ _)); refine blk_put (cs := #[.int .i64 t106, .int .i64 t107, .int .i64 0, .int .i64 0, .int .i64 0, .int .i64 0]) ?_ 2 _ rfl; (with_reducible repeat (first | refine blk_drewN ?_ _ | refine blk_drew ?_ | refine blk_alloc ?_ _)); refine blk_put (cs := #[.int .i64 t106, .int .i64 0, .int .i64 0, .int .i64 0, .int .i64 0, .int .i64 0]) ?_ 1 _ rfl; (with_reducible repeat (first | refine blk_drewN ?_ _ | refine blk_drew ?_ | refine blk_alloc ?_ _)); refine blk_put (cs := #[.int .i64 0, .int .i64 0, .int .i64 0, .int .i64 0, .int .i64 0, .int .i64 0]) ?_ 0 _ rfl; (with_reducible repeat (first | refine blk_drewN ?_ _ | refine blk_drew ?_ | refine blk_alloc ?_ _)); exact BK101.out) Try.underlying75 rfl (by kernel_rfl)) rfl ?_
      exact ⟨by first | rfl | (simp [errW_none, errW_some] <;> rfl) | (simp [*, errW_none, errW_some] <;> rfl), by repeat (first | (with_reducible first | exact HB.out | apply below_alloc | apply pw_below_drewN | apply below_drew1 | refine below_set ?_ GE101.out) | exact HB.out)⟩
    · replace c12 := Bool.eq_false_iff.mpr c12
      subst c12
      have H1 : (some (0, 0, 0, 0, 0, 0, false)) = some (r1, r2, r3, r4, r5, r6, r7) := by rw [if_neg (show ¬ (false = true) by decide)] at H; exact H
      clear H
      have H := H1
      clear H1
      simp only [Option.some.injEq, Prod.mk.injEq] at H
      obtain ⟨rfl, rfl, rfl, rfl, rfl, rfl, rfl⟩ := H
      go_enter Try.func94, Try.ntmps94
      go_wp2_with (first | ((with_reducible refine gate_dst (N := 2) rfl ?_); refine box_event ?hg (N := 2) ?hd (cs := #[.int .i64 0, .int .i64 0, .int .i64 0, .int .i64 0, .int .i64 0, .int .i64 0]) (t := 75) ?hr ?_; (case hd => rfl); (case hg => rfl); (case hr => first | (go_simp; done) | (go_simp; rfl)); intro gb101 hg w16 hbox hb; have n0_ := Aside0.mk (below_step (by repeat (first | (with_reducible first | exact HB.out | apply below_alloc | apply pw_below_drewN | apply below_drew1) | exact HB.out)) hb); have n1_ := Aside0.mk (hbox); have n2_ := Aside0.mk ((by rw [hg]; exact (below_size (by repeat (first | (with_reducible first | exact HB.out | apply below_alloc | apply pw_below_drewN | apply below_drew1) | exact HB.out))) : w.heap.size ≤ gb101)); have n3_ := Aside0.mk ((by rw [hg]; exact (below_size (by repeat (first | (with_reducible first | exact HB.out | apply below_alloc | apply pw_below_drewN | apply below_drew1) | exact HB.out))) : w.heap.size ≤ gb101)); clear HB; have HB := n0_; have BK101 := n1_; have GW101 := n2_; have GE101 := n3_; clear n0_ n1_ n2_ n3_; clear hb hbox hg) | ((with_reducible refine gate_callee (f := 146) rfl ?_); refine goesL_ (some 22) rfl rfl Try.func146 (by kernel_rfl) rfl #[.int .i64 (wrap64 (Int.tdiv a0 86400))] rfl (by (try simp only [List.map_toArray, List.map_cons, List.map_nil]); first | done | rfl | (simp only [List.length_drop, List.length_take]; rfl)) ?_; (with_reducible refine (civil_Of.calls k (wrap64 (Int.tdiv a0 86400)) t106 t107 t108 false _ A11.out).mono ?_); rintro e w17 ⟨rfl, hb⟩; refine ⟨_, rfl, ?_⟩; have n0_ := Aside0.mk (blk_below (g := gb101) (o := .cells #[.int .i64 0, .int .i64 0, .int .i64 0, .int .i64 0, .int .i64 0, .int .i64 0] 75 (0, 0)) (by (with_reducible repeat (first | refine blk_drewN ?_ _ | refine blk_drew ?_ | refine blk_alloc ?_ _)); exact BK101.out) hb); have n1_ := Aside0.mk (below_step (by repeat (first | (with_reducible first | exact HB.out | apply below_alloc | apply pw_below_drewN | apply below_drew1 | refine below_set ?_ GE101.out) | exact HB.out)) hb); clear BK101; clear HB; have BK101 := n0_; have HB := n1_; clear n0_ n1_; (try clear hb); (try clear hb2); (try clear hk); (try clear hi); have hcz18_0 : w17.cell? ⟨gb101, 0, none⟩ = some (.int .i64 0) := (blk_cell BK101.out 0).trans rfl; have hcz18_1 : w17.cell? ⟨gb101, 1, none⟩ = some (.int .i64 0) := (blk_cell BK101.out 1).trans rfl; have hcz18_2 : w17.cell? ⟨gb101, 2, none⟩ = some (.int .i64 0) := (blk_cell BK101.out 2).trans rfl; have hcz18_3 : w17.cell? ⟨gb101, 3, none⟩ = some (.int .i64 0) := (blk_cell BK101.out 3).trans rfl; have hcz18_4 : w17.cell? ⟨gb101, 4, none⟩ = some (.int .i64 0) := (blk_cell BK101.out 4).trans rfl; have hcz18_5 : w17.cell? ⟨gb101, 5, none⟩ = some (.int .i64 0) := (blk_cell BK101.out 5).trans rfl; have hfz18_0 := blk_frozen BK101.out 0; have hfz18_1 := blk_frozen BK101.out 1; have hfz18_2 := blk_frozen BK101.out 2; have hfz18_3 := blk_frozen BK101.out 3; have hfz18_4 := blk_frozen BK101.out 4; have hfz18_5 := blk_frozen BK101.out 5))
      refine bodyPost_ret (results_ct rfl _ _ gb101 75 #[.int .i64 0, .int .i64 0, .int .i64 0, .int .i64 0, .int .i64 0, .int .i64 0] (0, 0) _ rfl (by (with_reducible repeat (first | refine blk_drewN ?_ _ | refine blk_drew ?_ | refine blk_alloc ?_ _)); refine blk_put (cs := #[.int .i64 0, .int .i64 0, .int .i64 0, .int .i64 0, .int .i64 0, .int .i64 0]) ?_ 5 _ rfl; (with_reducible repeat (first | refine blk_drewN ?_ _ | refine blk_drew ?_ | refine blk_alloc ?_ _)); refine blk_put (cs := #[.int .i64 0, .int .i64 0, .int .i64 0, .int .i64 0, .int .i64 0, .int .i64 0]) ?_ 4 _ rfl; (with_reducible repeat (first | refine blk_drewN ?_ _ | refine blk_drew ?_ | refine blk_alloc ?_ _)); refine blk_put (cs := #[.int .i64 0, .int .i64 0, .int .i64 0, .int .i64 0, .int .i64 0, .int .i64 0]) ?_ 3 _ rfl; (with_reducible repeat (first | refine blk_drewN ?_ _ | refine blk_drew ?_ | refine blk_alloc ?_ _)); refine blk_put (cs := #[.int .i64 0, .int .i64 0, .int .i64 0, .int .i64 0, .int .i64 0, .int .i64 0]) ?_ 2 _ rfl; (with_reducible repeat (first | refine blk_drewN ?_ _ | refine blk_drew ?_ | refine blk_alloc ?_ _)); refine blk_put (cs := #[.int .i64 0, .int .i64 0, .int .i64 0, .int .i64 0, .int .i64 0, .int .i64 0]) ?_ 1 _ rfl; (with_reducible repeat (first | refine blk_drewN ?_ _ | refine blk_drew ?_ | refine blk_alloc ?_ _)); refine blk_put (cs := #[.int .i64 0, .int .i64 0, .int .i64 0, .int .i64 0, .int .i64 0, .int .i64 0]) ?_ 0 _ rfl; (with_reducible repeat (first | refine blk_drewN ?_ _ | refine blk_drew ?_ | refine blk_alloc ?_ _)); exact BK101.out) Try.underlying75 rfl (by kernel_rfl)) rfl ?_
      exact ⟨by first | rfl | (simp [errW_none, errW_some] <;> rfl) | (simp [*, errW_none, errW_some] <;> rfl), by repeat (first | (with_reducible first | exact HB.out | apply below_alloc | apply pw_below_drewN | apply below_drew1 | refine below_set ?_ GE101.out) | exact HB.out)⟩
end Go.Proofs.Ytjnhghplfdiijaa.Q

namespace Go.Proofs.Ytjnhghplfdiijaa.Q
open Go.RowKit Go.Proofs.YtjnhghplfdiijaaW.PrintWords Go.Proofs.YtjnhghplfdiijaaW.PrintLast Go.Proofs.YtjnhghplfdiijaaW.PrintMore
set_option linter.unusedVariables false
set_option linter.unusedSimpArgs false
theorem ev_days (y m d : Int) : Ev (fun k => abutmentref05_Days.f k y m d) (dayR y m d) := by
  have hi := ok_iff y m d
  have bad : ¬ YmdOK y m d → Ev (fun k => abutmentref05_Days.j0 k y m d true) (dayR y m d) := fun h => by
    refine Ev.step (fun k => ?_) (Ev.now _)
    simp only [abutmentref05_Days.j0]
    unfold dayR
    rw [if_pos trivial, if_neg h]
  by_cases c1 : y < 1
  · have := bad (fun g => absurd (hi.1 g).1 (by omega))
    exact Ev.congr (fun k => by unfold abutmentref05_Days.f; rw [if_pos c1]) this
  by_cases c2 : y > 9999
  · have := bad (fun g => absurd (hi.1 g).2.1 (by omega))
    exact Ev.congr (fun k => by unfold abutmentref05_Days.f; rw [if_neg c1, if_pos c2]) this
  by_cases c3 : d < 1
  · have := bad (fun g => absurd (hi.1 g).2.2.1 (by omega))
    exact Ev.congr (fun k => by unfold abutmentref05_Days.f; rw [if_neg c1, if_neg c2, if_pos c3]) this
  refine Ev.congr (f := fun k => (abutmentref05_Long.f k y m).bind fun t => abutmentref05_Days.j0 k y m d (decide (d > t))) (fun k => by unfold abutmentref05_Days.f; rw [if_neg c1, if_neg c2, if_neg c3]) (Ev.bind (ev_long y m (by omega)) ?_)
  by_cases ok : YmdOK y m d
  · rw [decide_eq_false (by have := (hi.1 ok).2.2.2; omega)]
    unfold dayR
    rw [if_pos ok]
    have hb := dayN_bounds ok
    obtain ⟨h1, h2, h3, h4, h5, h6⟩ := ok
    have h7 := longI_range y m
    have e1 := wsm (x := d - 1) rfl (by omega) (by omega)
    have s1 : janI 1970 = 0 := by decide
    have s2 : janI 1 = -719162 := by decide
    have s3 : janI 9999 = 2932532 := by decide
    have m1 := janI_mono h1
    have m2 := janI_mono h2
    have c0 := cumI_one y
    have l2 := days_l2 y m (by omega) h3 h4 (m - 1).toNat (d - 1 + janI y) 1 (by omega) (by omega) (by omega) (by omega) (by omega)
    rw [show d - 1 + janI y + (cumI y m - cumI y 1) = dayN y m d by unfold dayN; omega] at l2
    have fin : Ev (fun k => abutmentref05_Days.l0 k y m (d - 1) 1970) (dayN y m d, true) := by
      by_cases c : 1970 ≤ y
      · refine days_l0 y m h2 _ (y - 1970).toNat (d - 1) 1970 (by omega) (by omega) (by omega) (by omega) (by omega) ?_
        rw [s1, Int.sub_zero]
        exact days_l1_late y m _ _ _ c l2
      · refine Ev.step (fun k => ?_) (days_l1 y m _ (1970 - y).toNat (d - 1) y (by omega) (by omega) (by omega) (by omega) (by omega) l2)
        simp only [abutmentref05_Days.l0]
        rw [if_neg (by omega)]
    refine Ev.step (fun k => ?_) fin
    simp only [abutmentref05_Days.j0]
    rw [if_neg (by simp), e1.out]
  · rw [decide_eq_true (Classical.not_not.1 fun g => ok (hi.2 ⟨by omega, by omega, by omega, by omega⟩))]
    exact bad ok
theorem of_l2 (n y : Int) (hy : 0 ≤ y) (R : Int × Int × Int × Int × Int × Int × Bool) (hR : ∀ m d, 1 ≤ m → m ≤ 12 → 1 ≤ d → d ≤ longI y m → dayN y m d = n → R = (y, m, d, 0, 0, 0, true)) :
    ∀ (f : Nat) (x0 x5 : Int), (12 - x5).toNat = f → 1 ≤ x5 → x5 ≤ 12 → 0 ≤ x0 → x0 + cumI y x5 < wholeI y → janI y + cumI y x5 + x0 = n →
    Ev (fun k => abutmentref05_Of.l2 k x0 y x5) R
  | f, x0, x5, hf, h1, h2, h3, h4, h5 => by
    have hl := longI_range y x5
    have hL := ev_long y x5 hy
    rw [longX_in h1 h2] at hL
    have lp := leapI_range y
    have hw : wholeI y = 365 + leapI y := rfl
    have c0 := cumI_mono y (a := 1) (b := x5) (by omega) h1
    have c1 := cumI_one y
    by_cases c : x0 ≥ longI y x5
    · have hne : x5 ≠ 12 := fun e => by
        subst e
        have := cumI_last y
        omega
      have hs := cumI_succ y x5 h1 (by omega)
      have e1 := wsm (x := x0 - longI y x5) rfl (by omega) (by omega)
      have e2 := wsm (x := x5 + 1) rfl (by omega) (by omega)
      match f, hf with
      | 0, hf => exact absurd hf (by omega)
      | f + 1, hf =>
        have ih := of_l2 n y hy R hR f (x0 - longI y x5) (x5 + 1) (by omega) (by omega) (by omega) (by omega) (by omega) (by omega)
        refine Ev.step (f := fun k => (abutmentref05_Long.f k y x5).bind fun t => if x0 ≥ t then ((abutmentref05_Long.f k y x5).bind fun u => abutmentref05_Of.l2 k (wrap64 (x0 - u)) y (wrap64 (x5 + 1))) else some (y, x5, wrap64 (x0 + 1), 0, 0, 0, true)) (fun k => by simp only [abutmentref05_Of.l2]) (Ev.bind hL ?_)
        simp only [if_pos c]
        refine Ev.bind hL ?_
        simp only [e1.out, e2.out]
        exact ih
    · have e1 := wsm (x := x0 + 1) rfl (by omega) (by omega)
      have hr := hR x5 (x0 + 1) h1 h2 (by omega) (by omega) (by unfold dayN; omega)
      refine Ev.step (f := fun k => (abutmentref05_Long.f k y x5).bind fun t => if x0 ≥ t then ((abutmentref05_Long.f k y x5).bind fun u => abutmentref05_Of.l2 k (wrap64 (x0 - u)) y (wrap64 (x5 + 1))) else some (y, x5, wrap64 (x0 + 1), 0, 0, 0, true)) (fun k => by simp only [abutmentref05_Of.l2]) (Ev.bind hL ?_)
      simp only [if_neg c, e1.out]
      rw [hr]
      exact Ev.now _
theorem of_l1 (n : Int) (hn : n ≤ 2932896) (R : Int × Int × Int × Int × Int × Int × Bool) (hR : ∀ y m d, YmdOK y m d → dayN y m d = n → R = (y, m, d, 0, 0, 0, true)) :
    ∀ (f : Nat) (x0 x4 : Int), (9999 - x4).toNat = f → 1 ≤ x4 → x4 ≤ 9999 → 0 ≤ x0 → janI x4 + x0 = n →
    Ev (fun k => abutmentref05_Of.l1 k x0 x4 1) R
  | f, x0, x4, hf, h1, h2, h3, h4 => by
    have hs := janI_succ x4
    have lp := leapI_range x4
    have hw : wholeI x4 = 365 + leapI x4 := rfl
    have hm := janI_mono h1
    have e1 : janI 1 = -719162 := by decide
    have e2 : janI 10000 = 2932897 := by decide
    have c1 := cumI_one x4
    by_cases c : x0 ≥ wholeI x4
    · have hlt : x4 < 9999 := by
        rcases Int.lt_or_le x4 9999 with g | g
        · exact g
        · have : x4 = 9999 := by omega
          subst this
          rw [show (9999 : Int) + 1 = 10000 by decide] at hs
          omega
      have e3 := wsm (x := x0 - wholeI x4) rfl (by omega) (by omega)
      have e4 := wsm (x := x4 + 1) rfl (by omega) (by omega)
      match f, hf with
      | 0, hf => exact absurd hf (by omega)
      | f + 1, hf =>
        have ih := of_l1 n hn R hR f (x0 - wholeI x4) (x4 + 1) (by omega) (by omega) (by omega) (by omega) (by omega)
        refine Ev.step (fun k => ?_) ih
        simp only [abutmentref05_Of.l1]
        rw [whole_r x4 (by omega)]
        simp only [Option.bind_some, if_pos c, e3.out, e4.out]
    · have l2 := of_l2 n x4 (by omega) R (fun m d a1 a2 a3 a4 a5 => hR x4 m d ⟨h1, h2, a1, a2, a3, a4⟩ a5) 11 x0 1 (by decide) (by decide) (by decide) h3 (by omega) (by omega)
      refine Ev.step (fun k => ?_) l2
      simp only [abutmentref05_Of.l1]
      rw [whole_r x4 (by omega)]
      simp only [Option.bind_some, if_neg c]
theorem of_l0 (n : Int) (hn0 : -719162 ≤ n) (hn : n ≤ 2932896) (R : Int × Int × Int × Int × Int × Int × Bool) (hR : ∀ y m d, YmdOK y m d → dayN y m d = n → R = (y, m, d, 0, 0, 0, true)) :
    ∀ (f : Nat) (x0 x4 : Int), x4.toNat = f → 1 ≤ x4 → x4 ≤ 1970 → x0 ≤ 3000000 → janI x4 + x0 = n →
    Ev (fun k => abutmentref05_Of.l0 k x0 x4 1) R
  | f, x0, x4, hf, h1, h2, h3, h4 => by
    have hs := janI_succ (x4 - 1)
    rw [show x4 - 1 + 1 = x4 by omega] at hs
    have lp := leapI_range (x4 - 1)
    have hw : wholeI (x4 - 1) = 365 + leapI (x4 - 1) := rfl
    have e1 : janI 1 = -719162 := by decide
    have hm := janI_mono h2
    have e0 : janI 1970 = 0 := by decide
    by_cases c : x0 < 0
    · have hlt : 1 < x4 := by
        rcases Int.lt_or_le 1 x4 with g | g
        · exact g
        · have : x4 = 1 := by omega
          subst this
          omega
      have e3 := wsm (x := x0 + wholeI (x4 - 1)) rfl (by omega) (by omega)
      have e4 := wsm (x := x4 - 1) rfl (by omega) (by omega)
      match f, hf with
      | 0, hf => exact absurd hf (by omega)
      | f + 1, hf =>
        have ih := of_l0 n hn0 hn R hR f (x0 + wholeI (x4 - 1)) (x4 - 1) (by omega) (by omega) (by omega) (by omega) (by omega)
        refine Ev.step (fun k => ?_) ih
        simp only [abutmentref05_Of.l0]
        rw [if_pos c, e4.out, whole_r (x4 - 1) (by omega)]
        simp only [Option.bind_some, e3.out]
    · refine Ev.step (fun k => ?_) (of_l1 n hn R hR (9999 - x4).toNat x0 x4 rfl h1 (by omega) (by omega) h4)
      simp only [abutmentref05_Of.l0]
      rw [if_neg c]
/-- The calendar's day of a number: (year, month, day), where there is one. -/
theorem of_both (n : Int) : (¬ (-719162 ≤ n ∧ n ≤ 2932896) ∧ (∀ k, civil_Of.f (k + 1) n = some (0, 0, 0, false)) ∧ Ev (fun k => abutmentref05_Of.f k n) (0, 0, 0, 0, 0, 0, false)) ∨
    (∃ y m d, YmdOK y m d ∧ dayN y m d = n ∧ (∀ k, civil_Of.f (k + 1) n = some (y, m, d, true)) ∧ Ev (fun k => abutmentref05_Of.f k n) (y, m, d, 0, 0, 0, true)) := by
  by_cases h : -719162 ≤ n ∧ n ≤ 2932896
  · right
    obtain ⟨y, m, d, h1, h2, h3⟩ := of_in n 0 h.1 h.2
    have hp : ∀ k, civil_Of.f (k + 1) n = some (y, m, d, true) := fun k => by
      obtain ⟨y', m', d', g1, g2, g3⟩ := of_in n k h.1 h.2
      obtain ⟨rfl, rfl, rfl⟩ := dayN_inj h2 g2 (h3.trans g3.symm)
      exact g1
    refine ⟨y, m, d, h2, h3, hp, ?_⟩
    have e0 : janI 1970 = 0 := by decide
    have l0 := of_l0 n h.1 h.2 (y, m, d, 0, 0, 0, true) (fun y' m' d' g1 g2 => by
      obtain ⟨rfl, rfl, rfl⟩ := dayN_inj h2 g1 (h3.trans g2.symm)
      rfl) 1970 n 1970 (by decide) (by decide) (by decide) (by omega) (by omega)
    have j0 : Ev (fun k => abutmentref05_Of.j0 k n false) (y, m, d, 0, 0, 0, true) := by
      refine Ev.step (fun k => ?_) l0
      simp only [abutmentref05_Of.j0]
      rw [if_neg (by simp)]
    refine Ev.congr (fun k => ?_) j0
    unfold abutmentref05_Of.f
    rw [if_neg (by omega), decide_eq_false (by omega)]
  · left
    refine ⟨h, fun k => of_out n k (by omega), ?_⟩
    have j0 : Ev (fun k => abutmentref05_Of.j0 k n true) (0, 0, 0, 0, 0, 0, false) := by
      refine Ev.step (fun k => ?_) (Ev.now _)
      simp only [abutmentref05_Of.j0]
      rw [if_pos trivial]
    refine Ev.congr (fun k => ?_) j0
    unfold abutmentref05_Of.f
    by_cases c : n < -719162
    · rw [if_pos c]
    · rw [if_neg c, decide_eq_true (by omega)]
/-- The day of the week, 0: Sunday. -/
def wkI (n : Int) : Int := (n + 4) % 7
theorem tmod_seven (n : Int) : Int.tmod n 7 = if 0 ≤ n ∨ n % 7 = 0 then n % 7 else n % 7 - 7 := by
  rw [Int.tmod_eq_emod]
  simp only [Int.dvd_iff_emod_eq_zero]
  split
  · exact Int.sub_zero _
  · rfl
theorem week_p (n : Int) : civil_Weekday.f n = some (wkI n) := by
  unfold civil_Weekday.f
  have h := tmod_seven n
  obtain ⟨t, ht⟩ : ∃ t, Int.tmod n 7 = t := ⟨_, rfl⟩
  rw [ht] at h ⊢
  have b : -7 < t ∧ t < 7 := by split at h <;> omega
  have e1 := wsm (x := t + 11) rfl (by omega) (by omega)
  have e2 : Int.tmod (t + 11) 7 = wkI n := by
    rw [Int.tmod_eq_emod_of_nonneg (by omega)]
    unfold wkI
    split at h <;> omega
  rw [e1.out, e2]
theorem week_r (n : Int) : abutmentref05_Weekday.f n = some (wkI n) := by
  unfold abutmentref05_Weekday.f
  have h := tmod_seven n
  obtain ⟨t, ht⟩ : ∃ t, Int.tmod n 7 = t := ⟨_, rfl⟩
  rw [ht] at h ⊢
  have b : -7 < t ∧ t < 7 := by split at h <;> omega
  have e1 := wsm (x := t + 7) rfl (by omega) (by omega)
  have e2 := wsm (x := t + 4) rfl (by omega) (by omega)
  have e4 := wsm (x := t + 7 + 4) rfl (by omega) (by omega)
  by_cases c : t < 0
  · have e3 : Int.tmod (t + 7 + 4) 7 = wkI n := by
      rw [Int.tmod_eq_emod_of_nonneg (by omega)]
      unfold wkI
      split at h <;> omega
    rw [if_pos c, e1.out, e4.out, e3]
  · have e3 : Int.tmod (t + 4) 7 = wkI n := by
      rw [Int.tmod_eq_emod_of_nonneg (by omega)]
      unfold wkI
      split at h <;> omega
    rw [if_neg c, e2.out, e3]
end Go.Proofs.Ytjnhghplfdiijaa.Q

namespace Go.Proofs.Ytjnhghplfdiijaa.Q
open Go.RowKit Go.Proofs.YtjnhghplfdiijaaW.PrintWords Go.Proofs.YtjnhghplfdiijaaW.PrintLast Go.Proofs.YtjnhghplfdiijaaW.PrintMore
set_option linter.unusedVariables false
set_option linter.unusedSimpArgs false
def abutmentref05_Date.f (k : Nat) (s : Int) : Option (Int × Int × Int × Int × Int × Int × Bool) :=
  if -9223372036854775808 ≤ s ∧ s ≤ 9223372036854775807 then (abutmentref05_Of.f k (s / 86400)).bind fun t => some (if t.2.2.2.2.2.2 = true then (t.1, t.2.1, t.2.2.1, s % 86400 / 3600, s % 86400 % 3600 / 60, s % 86400 % 60, true) else t) else none
theorem tdiv_emod (s : Int) : Int.tmod s 86400 = s % 86400 ∧ Int.tdiv s 86400 = s / 86400 ∧ 0 ≤ s ∨ Int.tmod s 86400 = 0 ∧ s % 86400 = 0 ∧ Int.tdiv s 86400 = s / 86400 ∧ s < 0 ∨ Int.tmod s 86400 = s % 86400 - 86400 ∧ 0 < s % 86400 ∧ Int.tdiv s 86400 = s / 86400 + 1 ∧ s < 0 := by
  by_cases h : 0 ≤ s
  · exact .inl ⟨Int.tmod_eq_emod_of_nonneg h, Int.tdiv_eq_ediv_of_nonneg h, h⟩
  · right
    have e1 : Int.tmod s 86400 = if 0 ≤ s ∨ (86400 : Int) ∣ s then s % 86400 - ((0 : Nat) : Int) else s % 86400 - ((Int.natAbs 86400 : Nat) : Int) := by rw [Int.tmod_eq_emod]; split <;> rfl
    have e2 := Int.tmod_add_mul_tdiv s 86400
    have e3 := Int.emod_add_mul_ediv s 86400
    simp only [Int.dvd_iff_emod_eq_zero] at e1
    by_cases h0 : s % 86400 = 0
    · left
      rw [if_pos (.inr h0)] at e1
      generalize Int.tmod s 86400 = t at *
      generalize Int.tdiv s 86400 = q at *
      omega
    · right
      rw [if_neg (by omega)] at e1
      have e4 : ((Int.natAbs 86400 : Nat) : Int) = 86400 := rfl
      rw [e4] at e1
      generalize Int.tmod s 86400 = t at *
      generalize Int.tdiv s 86400 = q at *
      omega
set_option maxHeartbeats 16000000 in
set_option maxRecDepth 100000 in
theorem refdate_a (k : Nat) (s S R : Int) (y m d h' mi se : Int) (b : Bool) (w : World) (r0 : 0 ≤ R) (r1 : R < 86400) (hb1 : -106751991167301 ≤ S ∧ S ≤ 106751991167300) (a : Aside0 (Int.tmod s 86400 = R)) (e : Aside0 (wrap64 (Int.tdiv s 86400) = S)) (p1 : decide (s < 0) = false) (p2 : decide (Int.tmod s 86400 < 0) = false)
    (h : abutmentref05_Of.f k S = some (y, m, d, h', mi, se, b)) :
    Calls Try.prog 54 #[.int .i64 s] w fun e w' => e = .returned (.tuple #[if b = true then .agg #[.int .i64 y, .int .i64 m, .int .i64 d, .int .i64 (R / 3600), .int .i64 (R % 3600 / 60), .int .i64 (R % 60)] else .agg #[.int .i64 y, .int .i64 m, .int .i64 d, .int .i64 h', .int .i64 mi, .int .i64 se], .bool b]) ∧ Below w.heap.size w w' := by
  have hu75 := Try.underlying75
  have HB := Aside0.mk (Below.refl w.heap.size w)
  have HA := Aside0.mk h
  clear h
  cases b with
  | true =>
    rw [if_pos rfl]
    go_enter Try.func54, Try.ntmps54
    go_upto_region 1 with (first | ((with_reducible refine gate_dst (N := 2) rfl ?_); refine box_event ?hg (N := 2) ?hd (cs := #[.int .i64 0, .int .i64 0, .int .i64 0, .int .i64 0, .int .i64 0, .int .i64 0]) (t := 75) ?hr ?_; (case hd => rfl); (case hg => rfl); (case hr => first | (go_simp; done) | (go_simp; rfl)); intro gb101 hg w3 hbox hb; have n0_ := Aside0.mk (below_step HB.out hb); have n1_ := Aside0.mk (hbox); have n2_ := Aside0.mk ((by rw [hg]; exact (below_size HB.out) : w.heap.size ≤ gb101)); clear HB; have HB := n0_; have BK101 := n1_; have GW101 := n2_; clear n0_ n1_ n2_; clear hb hbox hg))
    go_wp2_with fail
    rw [a.out, e.out]
    ((with_reducible refine (abutmentref05_Of.calls k S y m d h' mi se _ _ HA.out).mono ?_))
    rintro x w4 ⟨rfl, hb⟩
    have n0 := Aside0.mk (blk_below BK101.out hb)
    have n1 := Aside0.mk (below_step HB.out hb)
    clear BK101 HB hb
    have BK101 := n0
    have HB := n1
    clear n0 n1
    go_upto_region 8 with (first | ((with_reducible refine gate_dst (N := 6) rfl ?_); refine box_event ?hg (N := 6) ?hd (cs := #[.int .i64 0, .int .i64 0, .int .i64 0, .int .i64 0, .int .i64 0, .int .i64 0]) (t := 75) ?hr ?_; (case hd => rfl); (case hg => rfl); (case hr => first | (go_simp; done) | (go_simp; rfl)); intro gb109 hg w11 hbox hb; have n0_ := Aside0.mk (blk_below BK101.out hb); have n1_ := Aside0.mk (below_step HB.out hb); have n2_ := Aside0.mk hbox; have n3_ := Aside0.mk ((by rw [hg]; exact (below_size HB.out) : w.heap.size ≤ gb109)); have n5_ := Aside0.mk ((by rw [hg]; exact Nat.ne_of_lt (blk_lt BK101.out) : gb101 ≠ gb109)); clear BK101 HB; have BK101 := n0_; have HB := n1_; have BK109 := n2_; have GW109 := n3_; have NE := n5_; clear n0_ n1_ n2_ n3_ n5_; clear hb hbox hg; have hcz0 : w11.cell? ⟨gb109, 0, none⟩ = some (.int .i64 0) := (blk_cell BK109.out 0).trans rfl; have hfz0 := blk_frozen BK109.out 0; have hcz1 : w11.cell? ⟨gb109, 1, none⟩ = some (.int .i64 0) := (blk_cell BK109.out 1).trans rfl; have hfz1 := blk_frozen BK109.out 1; have hcz2 : w11.cell? ⟨gb109, 2, none⟩ = some (.int .i64 0) := (blk_cell BK109.out 2).trans rfl; have hfz2 := blk_frozen BK109.out 2; have hcz3 : w11.cell? ⟨gb109, 3, none⟩ = some (.int .i64 0) := (blk_cell BK109.out 3).trans rfl; have hfz3 := blk_frozen BK109.out 3; have hcz4 : w11.cell? ⟨gb109, 4, none⟩ = some (.int .i64 0) := (blk_cell BK109.out 4).trans rfl; have hfz4 := blk_frozen BK109.out 4; have hcz5 : w11.cell? ⟨gb109, 5, none⟩ = some (.int .i64 0) := (blk_cell BK109.out 5).trans rfl; have hfz5 := blk_frozen BK109.out 5))
    go_upto_region 12 with (fail)
    clear hcz0 hfz0 hcz1 hfz1 hcz2 hfz2 hcz3 hfz3 hcz4 hfz4 hcz5 hfz5
    refine world_gen (fun w' => w'.heap[gb109]? = some (.cells #[.int .i64 y, .int .i64 m, .int .i64 d, .int .i64 (R / 3600), .int .i64 (R % 3600 / 60), .int .i64 (R % 60)] 75 (0, 0)) ∧ w'.heap[gb101]? = some (.cells #[.int .i64 0, .int .i64 0, .int .i64 0, .int .i64 0, .int .i64 0, .int .i64 0] 75 (0, 0)) ∧ Below w.heap.size w w') ⟨?_, ?_, ?_⟩ ?_
    · exact blk_put9 _ _ _ _ _ _ _ _ _ BK109.out
    · exact blk_far9 _ _ _ _ _ _ _ _ _ BK101.out NE.out
    · exact below_put9 _ _ _ _ _ _ _ _ _ HB.out GW109.out
    rintro w12 ⟨b1, b2, b3⟩
    have hi75 : (Try.prog.info? 75).map (·.size) = some 6 := by kernel_rfl
    have HL : Aside0 ((loadVar 75 ⟨gb109, 0, none⟩).run Try.prog w12 = .ok (.agg #[.int .i64 y, .int .i64 m, .int .i64 d, .int .i64 (R / 3600), .int .i64 (R % 3600 / 60), .int .i64 (R % 60)]) w12) := ⟨run_loadVar_cells w12 gb109 75 [.int .i64 y, .int .i64 m, .int .i64 d, .int .i64 (R / 3600), .int .i64 (R % 3600 / 60), .int .i64 (R % 60)] _ (fun k v hk => (blk_cell b1 k).trans (by simpa using hk)) hu75 rfl hi75⟩
    have BK9 := Aside0.mk b1
    have BK1 := Aside0.mk b2
    have HB3 := Aside0.mk b3
    have hcz0 : w12.cell? ⟨gb101, 0, none⟩ = some (.int .i64 0) := (blk_cell b2 0).trans rfl
    have hfz0 := blk_frozen b2 0
    have hcz1 : w12.cell? ⟨gb101, 1, none⟩ = some (.int .i64 0) := (blk_cell b2 1).trans rfl
    have hfz1 := blk_frozen b2 1
    have hcz2 : w12.cell? ⟨gb101, 2, none⟩ = some (.int .i64 0) := (blk_cell b2 2).trans rfl
    have hfz2 := blk_frozen b2 2
    have hcz3 : w12.cell? ⟨gb101, 3, none⟩ = some (.int .i64 0) := (blk_cell b2 3).trans rfl
    have hfz3 := blk_frozen b2 3
    have hcz4 : w12.cell? ⟨gb101, 4, none⟩ = some (.int .i64 0) := (blk_cell b2 4).trans rfl
    have hfz4 := blk_frozen b2 4
    have hcz5 : w12.cell? ⟨gb101, 5, none⟩ = some (.int .i64 0) := (blk_cell b2 5).trans rfl
    have hfz5 := blk_frozen b2 5
    have hcy0 : w12.cell? ⟨gb109, 0, none⟩ = some (.int .i64 (y)) := (blk_cell b1 0).trans rfl
    have hcy1 : w12.cell? ⟨gb109, 1, none⟩ = some (.int .i64 (m)) := (blk_cell b1 1).trans rfl
    have hcy2 : w12.cell? ⟨gb109, 2, none⟩ = some (.int .i64 (d)) := (blk_cell b1 2).trans rfl
    have hcy3 : w12.cell? ⟨gb109, 3, none⟩ = some (.int .i64 ((R / 3600))) := (blk_cell b1 3).trans rfl
    have hcy4 : w12.cell? ⟨gb109, 4, none⟩ = some (.int .i64 ((R % 3600 / 60))) := (blk_cell b1 4).trans rfl
    have hcy5 : w12.cell? ⟨gb109, 5, none⟩ = some (.int .i64 ((R % 60))) := (blk_cell b1 5).trans rfl
    clear b1 b2 b3
    clear BK101 BK109 HB
    go_wp2
    refine bodyPost_ret (results_ct rfl _ _ gb101 75 #[.int .i64 y, .int .i64 m, .int .i64 d, .int .i64 (R / 3600), .int .i64 (R % 3600 / 60), .int .i64 (R % 60)] (0, 0) _ rfl (by exact blk_put6 _ _ _ _ _ _ BK1.out) Try.underlying75 rfl (by kernel_rfl)) rfl ⟨rfl, ?_⟩
    exact below_put6 _ _ _ _ _ _ HB3.out GW101.out
  | false =>
    rw [if_neg (by simp)]
    go_enter Try.func54, Try.ntmps54
    go_upto_region 1 with (first | ((with_reducible refine gate_dst (N := 2) rfl ?_); refine box_event ?hg (N := 2) ?hd (cs := #[.int .i64 0, .int .i64 0, .int .i64 0, .int .i64 0, .int .i64 0, .int .i64 0]) (t := 75) ?hr ?_; (case hd => rfl); (case hg => rfl); (case hr => first | (go_simp; done) | (go_simp; rfl)); intro gb101 hg w3 hbox hb; have n0_ := Aside0.mk (below_step HB.out hb); have n1_ := Aside0.mk (hbox); have n2_ := Aside0.mk ((by rw [hg]; exact (below_size HB.out) : w.heap.size ≤ gb101)); clear HB; have HB := n0_; have BK101 := n1_; have GW101 := n2_; clear n0_ n1_ n2_; clear hb hbox hg))
    go_wp2_with fail
    rw [a.out, e.out]
    ((with_reducible refine (abutmentref05_Of.calls k S y m d h' mi se _ _ HA.out).mono ?_))
    rintro x w4 ⟨rfl, hb⟩
    have n0 := Aside0.mk (blk_below BK101.out hb)
    have n1 := Aside0.mk (below_step HB.out hb)
    clear BK101 HB hb
    have BK101 := n0
    have HB := n1
    clear n0 n1
    go_upto_region 8 with (first | ((with_reducible refine gate_dst (N := 6) rfl ?_); refine box_event ?hg (N := 6) ?hd (cs := #[.int .i64 0, .int .i64 0, .int .i64 0, .int .i64 0, .int .i64 0, .int .i64 0]) (t := 75) ?hr ?_; (case hd => rfl); (case hg => rfl); (case hr => first | (go_simp; done) | (go_simp; rfl)); intro gb109 hg w11 hbox hb; have n0_ := Aside0.mk (blk_below BK101.out hb); have n1_ := Aside0.mk (below_step HB.out hb); have n2_ := Aside0.mk hbox; have n3_ := Aside0.mk ((by rw [hg]; exact (below_size HB.out) : w.heap.size ≤ gb109)); have n5_ := Aside0.mk ((by rw [hg]; exact Nat.ne_of_lt (blk_lt BK101.out) : gb101 ≠ gb109)); clear BK101 HB; have BK101 := n0_; have HB := n1_; have BK109 := n2_; have GW109 := n3_; have NE := n5_; clear n0_ n1_ n2_ n3_ n5_; clear hb hbox hg; have hcz0 : w11.cell? ⟨gb109, 0, none⟩ = some (.int .i64 0) := (blk_cell BK109.out 0).trans rfl; have hfz0 := blk_frozen BK109.out 0; have hcz1 : w11.cell? ⟨gb109, 1, none⟩ = some (.int .i64 0) := (blk_cell BK109.out 1).trans rfl; have hfz1 := blk_frozen BK109.out 1; have hcz2 : w11.cell? ⟨gb109, 2, none⟩ = some (.int .i64 0) := (blk_cell BK109.out 2).trans rfl; have hfz2 := blk_frozen BK109.out 2; have hcz3 : w11.cell? ⟨gb109, 3, none⟩ = some (.int .i64 0) := (blk_cell BK109.out 3).trans rfl; have hfz3 := blk_frozen BK109.out 3; have hcz4 : w11.cell? ⟨gb109, 4, none⟩ = some (.int .i64 0) := (blk_cell BK109.out 4).trans rfl; have hfz4 := blk_frozen BK109.out 4; have hcz5 : w11.cell? ⟨gb109, 5, none⟩ = some (.int .i64 0) := (blk_cell BK109.out 5).trans rfl; have hfz5 := blk_frozen BK109.out 5))
    go_upto_region 12 with (fail)
    clear hcz0 hfz0 hcz1 hfz1 hcz2 hfz2 hcz3 hfz3 hcz4 hfz4 hcz5 hfz5
    refine world_gen (fun w' => w'.heap[gb109]? = some (.cells #[.int .i64 y, .int .i64 m, .int .i64 d, .int .i64 h', .int .i64 mi, .int .i64 se] 75 (0, 0)) ∧ w'.heap[gb101]? = some (.cells #[.int .i64 0, .int .i64 0, .int .i64 0, .int .i64 0, .int .i64 0, .int .i64 0] 75 (0, 0)) ∧ Below w.heap.size w w') ⟨?_, ?_, ?_⟩ ?_
    · exact blk_put6 _ _ _ _ _ _ BK109.out
    · exact blk_far6 _ _ _ _ _ _ BK101.out NE.out
    · exact below_put6 _ _ _ _ _ _ HB.out GW109.out
    rintro w12 ⟨b1, b2, b3⟩
    have hi75 : (Try.prog.info? 75).map (·.size) = some 6 := by kernel_rfl
    have HL : Aside0 ((loadVar 75 ⟨gb109, 0, none⟩).run Try.prog w12 = .ok (.agg #[.int .i64 y, .int .i64 m, .int .i64 d, .int .i64 h', .int .i64 mi, .int .i64 se]) w12) := ⟨run_loadVar_cells w12 gb109 75 [.int .i64 y, .int .i64 m, .int .i64 d, .int .i64 h', .int .i64 mi, .int .i64 se] _ (fun k v hk => (blk_cell b1 k).trans (by simpa using hk)) hu75 rfl hi75⟩
    have BK9 := Aside0.mk b1
    have BK1 := Aside0.mk b2
    have HB3 := Aside0.mk b3
    have hcz0 : w12.cell? ⟨gb101, 0, none⟩ = some (.int .i64 0) := (blk_cell b2 0).trans rfl
    have hfz0 := blk_frozen b2 0
    have hcz1 : w12.cell? ⟨gb101, 1, none⟩ = some (.int .i64 0) := (blk_cell b2 1).trans rfl
    have hfz1 := blk_frozen b2 1
    have hcz2 : w12.cell? ⟨gb101, 2, none⟩ = some (.int .i64 0) := (blk_cell b2 2).trans rfl
    have hfz2 := blk_frozen b2 2
    have hcz3 : w12.cell? ⟨gb101, 3, none⟩ = some (.int .i64 0) := (blk_cell b2 3).trans rfl
    have hfz3 := blk_frozen b2 3
    have hcz4 : w12.cell? ⟨gb101, 4, none⟩ = some (.int .i64 0) := (blk_cell b2 4).trans rfl
    have hfz4 := blk_frozen b2 4
    have hcz5 : w12.cell? ⟨gb101, 5, none⟩ = some (.int .i64 0) := (blk_cell b2 5).trans rfl
    have hfz5 := blk_frozen b2 5
    have hcy0 : w12.cell? ⟨gb109, 0, none⟩ = some (.int .i64 (y)) := (blk_cell b1 0).trans rfl
    have hcy1 : w12.cell? ⟨gb109, 1, none⟩ = some (.int .i64 (m)) := (blk_cell b1 1).trans rfl
    have hcy2 : w12.cell? ⟨gb109, 2, none⟩ = some (.int .i64 (d)) := (blk_cell b1 2).trans rfl
    have hcy3 : w12.cell? ⟨gb109, 3, none⟩ = some (.int .i64 (h')) := (blk_cell b1 3).trans rfl
    have hcy4 : w12.cell? ⟨gb109, 4, none⟩ = some (.int .i64 (mi)) := (blk_cell b1 4).trans rfl
    have hcy5 : w12.cell? ⟨gb109, 5, none⟩ = some (.int .i64 (se)) := (blk_cell b1 5).trans rfl
    clear b1 b2 b3
    clear BK101 BK109 HB
    go_wp2
    refine bodyPost_ret (results_ct rfl _ _ gb101 75 #[.int .i64 y, .int .i64 m, .int .i64 d, .int .i64 h', .int .i64 mi, .int .i64 se] (0, 0) _ rfl (by exact blk_put6 _ _ _ _ _ _ BK1.out) Try.underlying75 rfl (by kernel_rfl)) rfl ⟨rfl, ?_⟩
    exact below_put6 _ _ _ _ _ _ HB3.out GW101.out
set_option maxHeartbeats 16000000 in
set_option maxRecDepth 100000 in
theorem refdate_b (k : Nat) (s S R : Int) (y m d h' mi se : Int) (b : Bool) (w : World) (r0 : 0 ≤ R) (r1 : R < 86400) (hb1 : -106751991167301 ≤ S ∧ S ≤ 106751991167300) (a : Aside0 (Int.tmod s 86400 = R)) (e : Aside0 (wrap64 (Int.tdiv s 86400) = S)) (p1 : decide (s < 0) = true) (p2 : decide (Int.tmod s 86400 < 0) = false) (p3 : (Int.tmod s 86400 != 0) = false)
    (h : abutmentref05_Of.f k S = some (y, m, d, h', mi, se, b)) :
    Calls Try.prog 54 #[.int .i64 s] w fun e w' => e = .returned (.tuple #[if b = true then .agg #[.int .i64 y, .int .i64 m, .int .i64 d, .int .i64 (R / 3600), .int .i64 (R % 3600 / 60), .int .i64 (R % 60)] else .agg #[.int .i64 y, .int .i64 m, .int .i64 d, .int .i64 h', .int .i64 mi, .int .i64 se], .bool b]) ∧ Below w.heap.size w w' := by
  have hu75 := Try.underlying75
  have HB := Aside0.mk (Below.refl w.heap.size w)
  have HA := Aside0.mk h
  clear h
  cases b with
  | true =>
    rw [if_pos rfl]
    go_enter Try.func54, Try.ntmps54
    go_upto_region 1 with (first | ((with_reducible refine gate_dst (N := 2) rfl ?_); refine box_event ?hg (N := 2) ?hd (cs := #[.int .i64 0, .int .i64 0, .int .i64 0, .int .i64 0, .int .i64 0, .int .i64 0]) (t := 75) ?hr ?_; (case hd => rfl); (case hg => rfl); (case hr => first | (go_simp; done) | (go_simp; rfl)); intro gb101 hg w3 hbox hb; have n0_ := Aside0.mk (below_step HB.out hb); have n1_ := Aside0.mk (hbox); have n2_ := Aside0.mk ((by rw [hg]; exact (below_size HB.out) : w.heap.size ≤ gb101)); clear HB; have HB := n0_; have BK101 := n1_; have GW101 := n2_; clear n0_ n1_ n2_; clear hb hbox hg))
    go_wp2_with fail
    rw [a.out, e.out]
    ((with_reducible refine (abutmentref05_Of.calls k S y m d h' mi se _ _ HA.out).mono ?_))
    rintro x w4 ⟨rfl, hb⟩
    have n0 := Aside0.mk (blk_below BK101.out hb)
    have n1 := Aside0.mk (below_step HB.out hb)
    clear BK101 HB hb
    have BK101 := n0
    have HB := n1
    clear n0 n1
    go_upto_region 8 with (first | ((with_reducible refine gate_dst (N := 6) rfl ?_); refine box_event ?hg (N := 6) ?hd (cs := #[.int .i64 0, .int .i64 0, .int .i64 0, .int .i64 0, .int .i64 0, .int .i64 0]) (t := 75) ?hr ?_; (case hd => rfl); (case hg => rfl); (case hr => first | (go_simp; done) | (go_simp; rfl)); intro gb109 hg w11 hbox hb; have n0_ := Aside0.mk (blk_below BK101.out hb); have n1_ := Aside0.mk (below_step HB.out hb); have n2_ := Aside0.mk hbox; have n3_ := Aside0.mk ((by rw [hg]; exact (below_size HB.out) : w.heap.size ≤ gb109)); have n5_ := Aside0.mk ((by rw [hg]; exact Nat.ne_of_lt (blk_lt BK101.out) : gb101 ≠ gb109)); clear BK101 HB; have BK101 := n0_; have HB := n1_; have BK109 := n2_; have GW109 := n3_; have NE := n5_; clear n0_ n1_ n2_ n3_ n5_; clear hb hbox hg; have hcz0 : w11.cell? ⟨gb109, 0, none⟩ = some (.int .i64 0) := (blk_cell BK109.out 0).trans rfl; have hfz0 := blk_frozen BK109.out 0; have hcz1 : w11.cell? ⟨gb109, 1, none⟩ = some (.int .i64 0) := (blk_cell BK109.out 1).trans rfl; have hfz1 := blk_frozen BK109.out 1; have hcz2 : w11.cell? ⟨gb109, 2, none⟩ = some (.int .i64 0) := (blk_cell BK109.out 2).trans rfl; have hfz2 := blk_frozen BK109.out 2; have hcz3 : w11.cell? ⟨gb109, 3, none⟩ = some (.int .i64 0) := (blk_cell BK109.out 3).trans rfl; have hfz3 := blk_frozen BK109.out 3; have hcz4 : w11.cell? ⟨gb109, 4, none⟩ = some (.int .i64 0) := (blk_cell BK109.out 4).trans rfl; have hfz4 := blk_frozen BK109.out 4; have hcz5 : w11.cell? ⟨gb109, 5, none⟩ = some (.int .i64 0) := (blk_cell BK109.out 5).trans rfl; have hfz5 := blk_frozen BK109.out 5))
    go_upto_region 12 with (fail)
    clear hcz0 hfz0 hcz1 hfz1 hcz2 hfz2 hcz3 hfz3 hcz4 hfz4 hcz5 hfz5
    refine world_gen (fun w' => w'.heap[gb109]? = some (.cells #[.int .i64 y, .int .i64 m, .int .i64 d, .int .i64 (R / 3600), .int .i64 (R % 3600 / 60), .int .i64 (R % 60)] 75 (0, 0)) ∧ w'.heap[gb101]? = some (.cells #[.int .i64 0, .int .i64 0, .int .i64 0, .int .i64 0, .int .i64 0, .int .i64 0] 75 (0, 0)) ∧ Below w.heap.size w w') ⟨?_, ?_, ?_⟩ ?_
    · exact blk_put9 _ _ _ _ _ _ _ _ _ BK109.out
    · exact blk_far9 _ _ _ _ _ _ _ _ _ BK101.out NE.out
    · exact below_put9 _ _ _ _ _ _ _ _ _ HB.out GW109.out
    rintro w12 ⟨b1, b2, b3⟩
    have hi75 : (Try.prog.info? 75).map (·.size) = some 6 := by kernel_rfl
    have HL : Aside0 ((loadVar 75 ⟨gb109, 0, none⟩).run Try.prog w12 = .ok (.agg #[.int .i64 y, .int .i64 m, .int .i64 d, .int .i64 (R / 3600), .int .i64 (R % 3600 / 60), .int .i64 (R % 60)]) w12) := ⟨run_loadVar_cells w12 gb109 75 [.int .i64 y, .int .i64 m, .int .i64 d, .int .i64 (R / 3600), .int .i64 (R % 3600 / 60), .int .i64 (R % 60)] _ (fun k v hk => (blk_cell b1 k).trans (by simpa using hk)) hu75 rfl hi75⟩
    have BK9 := Aside0.mk b1
    have BK1 := Aside0.mk b2
    have HB3 := Aside0.mk b3
    have hcz0 : w12.cell? ⟨gb101, 0, none⟩ = some (.int .i64 0) := (blk_cell b2 0).trans rfl
    have hfz0 := blk_frozen b2 0
    have hcz1 : w12.cell? ⟨gb101, 1, none⟩ = some (.int .i64 0) := (blk_cell b2 1).trans rfl
    have hfz1 := blk_frozen b2 1
    have hcz2 : w12.cell? ⟨gb101, 2, none⟩ = some (.int .i64 0) := (blk_cell b2 2).trans rfl
    have hfz2 := blk_frozen b2 2
    have hcz3 : w12.cell? ⟨gb101, 3, none⟩ = some (.int .i64 0) := (blk_cell b2 3).trans rfl
    have hfz3 := blk_frozen b2 3
    have hcz4 : w12.cell? ⟨gb101, 4, none⟩ = some (.int .i64 0) := (blk_cell b2 4).trans rfl
    have hfz4 := blk_frozen b2 4
    have hcz5 : w12.cell? ⟨gb101, 5, none⟩ = some (.int .i64 0) := (blk_cell b2 5).trans rfl
    have hfz5 := blk_frozen b2 5
    have hcy0 : w12.cell? ⟨gb109, 0, none⟩ = some (.int .i64 (y)) := (blk_cell b1 0).trans rfl
    have hcy1 : w12.cell? ⟨gb109, 1, none⟩ = some (.int .i64 (m)) := (blk_cell b1 1).trans rfl
    have hcy2 : w12.cell? ⟨gb109, 2, none⟩ = some (.int .i64 (d)) := (blk_cell b1 2).trans rfl
    have hcy3 : w12.cell? ⟨gb109, 3, none⟩ = some (.int .i64 ((R / 3600))) := (blk_cell b1 3).trans rfl
    have hcy4 : w12.cell? ⟨gb109, 4, none⟩ = some (.int .i64 ((R % 3600 / 60))) := (blk_cell b1 4).trans rfl
    have hcy5 : w12.cell? ⟨gb109, 5, none⟩ = some (.int .i64 ((R % 60))) := (blk_cell b1 5).trans rfl
    clear b1 b2 b3
    clear BK101 BK109 HB
    go_wp2
    refine bodyPost_ret (results_ct rfl _ _ gb101 75 #[.int .i64 y, .int .i64 m, .int .i64 d, .int .i64 (R / 3600), .int .i64 (R % 3600 / 60), .int .i64 (R % 60)] (0, 0) _ rfl (by exact blk_put6 _ _ _ _ _ _ BK1.out) Try.underlying75 rfl (by kernel_rfl)) rfl ⟨rfl, ?_⟩
    exact below_put6 _ _ _ _ _ _ HB3.out GW101.out
  | false =>
    rw [if_neg (by simp)]
    go_enter Try.func54, Try.ntmps54
    go_upto_region 1 with (first | ((with_reducible refine gate_dst (N := 2) rfl ?_); refine box_event ?hg (N := 2) ?hd (cs := #[.int .i64 0, .int .i64 0, .int .i64 0, .int .i64 0, .int .i64 0, .int .i64 0]) (t := 75) ?hr ?_; (case hd => rfl); (case hg => rfl); (case hr => first | (go_simp; done) | (go_simp; rfl)); intro gb101 hg w3 hbox hb; have n0_ := Aside0.mk (below_step HB.out hb); have n1_ := Aside0.mk (hbox); have n2_ := Aside0.mk ((by rw [hg]; exact (below_size HB.out) : w.heap.size ≤ gb101)); clear HB; have HB := n0_; have BK101 := n1_; have GW101 := n2_; clear n0_ n1_ n2_; clear hb hbox hg))
    go_wp2_with fail
    rw [a.out, e.out]
    ((with_reducible refine (abutmentref05_Of.calls k S y m d h' mi se _ _ HA.out).mono ?_))
    rintro x w4 ⟨rfl, hb⟩
    have n0 := Aside0.mk (blk_below BK101.out hb)
    have n1 := Aside0.mk (below_step HB.out hb)
    clear BK101 HB hb
    have BK101 := n0
    have HB := n1
    clear n0 n1
    go_upto_region 8 with (first | ((with_reducible refine gate_dst (N := 6) rfl ?_); refine box_event ?hg (N := 6) ?hd (cs := #[.int .i64 0, .int .i64 0, .int .i64 0, .int .i64 0, .int .i64 0, .int .i64 0]) (t := 75) ?hr ?_; (case hd => rfl); (case hg => rfl); (case hr => first | (go_simp; done) | (go_simp; rfl)); intro gb109 hg w11 hbox hb; have n0_ := Aside0.mk (blk_below BK101.out hb); have n1_ := Aside0.mk (below_step HB.out hb); have n2_ := Aside0.mk hbox; have n3_ := Aside0.mk ((by rw [hg]; exact (below_size HB.out) : w.heap.size ≤ gb109)); have n5_ := Aside0.mk ((by rw [hg]; exact Nat.ne_of_lt (blk_lt BK101.out) : gb101 ≠ gb109)); clear BK101 HB; have BK101 := n0_; have HB := n1_; have BK109 := n2_; have GW109 := n3_; have NE := n5_; clear n0_ n1_ n2_ n3_ n5_; clear hb hbox hg; have hcz0 : w11.cell? ⟨gb109, 0, none⟩ = some (.int .i64 0) := (blk_cell BK109.out 0).trans rfl; have hfz0 := blk_frozen BK109.out 0; have hcz1 : w11.cell? ⟨gb109, 1, none⟩ = some (.int .i64 0) := (blk_cell BK109.out 1).trans rfl; have hfz1 := blk_frozen BK109.out 1; have hcz2 : w11.cell? ⟨gb109, 2, none⟩ = some (.int .i64 0) := (blk_cell BK109.out 2).trans rfl; have hfz2 := blk_frozen BK109.out 2; have hcz3 : w11.cell? ⟨gb109, 3, none⟩ = some (.int .i64 0) := (blk_cell BK109.out 3).trans rfl; have hfz3 := blk_frozen BK109.out 3; have hcz4 : w11.cell? ⟨gb109, 4, none⟩ = some (.int .i64 0) := (blk_cell BK109.out 4).trans rfl; have hfz4 := blk_frozen BK109.out 4; have hcz5 : w11.cell? ⟨gb109, 5, none⟩ = some (.int .i64 0) := (blk_cell BK109.out 5).trans rfl; have hfz5 := blk_frozen BK109.out 5))
    go_upto_region 12 with (fail)
    clear hcz0 hfz0 hcz1 hfz1 hcz2 hfz2 hcz3 hfz3 hcz4 hfz4 hcz5 hfz5
    refine world_gen (fun w' => w'.heap[gb109]? = some (.cells #[.int .i64 y, .int .i64 m, .int .i64 d, .int .i64 h', .int .i64 mi, .int .i64 se] 75 (0, 0)) ∧ w'.heap[gb101]? = some (.cells #[.int .i64 0, .int .i64 0, .int .i64 0, .int .i64 0, .int .i64 0, .int .i64 0] 75 (0, 0)) ∧ Below w.heap.size w w') ⟨?_, ?_, ?_⟩ ?_
    · exact blk_put6 _ _ _ _ _ _ BK109.out
    · exact blk_far6 _ _ _ _ _ _ BK101.out NE.out
    · exact below_put6 _ _ _ _ _ _ HB.out GW109.out
    rintro w12 ⟨b1, b2, b3⟩
    have hi75 : (Try.prog.info? 75).map (·.size) = some 6 := by kernel_rfl
    have HL : Aside0 ((loadVar 75 ⟨gb109, 0, none⟩).run Try.prog w12 = .ok (.agg #[.int .i64 y, .int .i64 m, .int .i64 d, .int .i64 h', .int .i64 mi, .int .i64 se]) w12) := ⟨run_loadVar_cells w12 gb109 75 [.int .i64 y, .int .i64 m, .int .i64 d, .int .i64 h', .int .i64 mi, .int .i64 se] _ (fun k v hk => (blk_cell b1 k).trans (by simpa using hk)) hu75 rfl hi75⟩
    have BK9 := Aside0.mk b1
    have BK1 := Aside0.mk b2
    have HB3 := Aside0.mk b3
    have hcz0 : w12.cell? ⟨gb101, 0, none⟩ = some (.int .i64 0) := (blk_cell b2 0).trans rfl
    have hfz0 := blk_frozen b2 0
    have hcz1 : w12.cell? ⟨gb101, 1, none⟩ = some (.int .i64 0) := (blk_cell b2 1).trans rfl
    have hfz1 := blk_frozen b2 1
    have hcz2 : w12.cell? ⟨gb101, 2, none⟩ = some (.int .i64 0) := (blk_cell b2 2).trans rfl
    have hfz2 := blk_frozen b2 2
    have hcz3 : w12.cell? ⟨gb101, 3, none⟩ = some (.int .i64 0) := (blk_cell b2 3).trans rfl
    have hfz3 := blk_frozen b2 3
    have hcz4 : w12.cell? ⟨gb101, 4, none⟩ = some (.int .i64 0) := (blk_cell b2 4).trans rfl
    have hfz4 := blk_frozen b2 4
    have hcz5 : w12.cell? ⟨gb101, 5, none⟩ = some (.int .i64 0) := (blk_cell b2 5).trans rfl
    have hfz5 := blk_frozen b2 5
    have hcy0 : w12.cell? ⟨gb109, 0, none⟩ = some (.int .i64 (y)) := (blk_cell b1 0).trans rfl
    have hcy1 : w12.cell? ⟨gb109, 1, none⟩ = some (.int .i64 (m)) := (blk_cell b1 1).trans rfl
    have hcy2 : w12.cell? ⟨gb109, 2, none⟩ = some (.int .i64 (d)) := (blk_cell b1 2).trans rfl
    have hcy3 : w12.cell? ⟨gb109, 3, none⟩ = some (.int .i64 (h')) := (blk_cell b1 3).trans rfl
    have hcy4 : w12.cell? ⟨gb109, 4, none⟩ = some (.int .i64 (mi)) := (blk_cell b1 4).trans rfl
    have hcy5 : w12.cell? ⟨gb109, 5, none⟩ = some (.int .i64 (se)) := (blk_cell b1 5).trans rfl
    clear b1 b2 b3
    clear BK101 BK109 HB
    go_wp2
    refine bodyPost_ret (results_ct rfl _ _ gb101 75 #[.int .i64 y, .int .i64 m, .int .i64 d, .int .i64 h', .int .i64 mi, .int .i64 se] (0, 0) _ rfl (by exact blk_put6 _ _ _ _ _ _ BK1.out) Try.underlying75 rfl (by kernel_rfl)) rfl ⟨rfl, ?_⟩
    exact below_put6 _ _ _ _ _ _ HB3.out GW101.out
set_option maxHeartbeats 16000000 in
set_option maxRecDepth 100000 in
theorem refdate_c (k : Nat) (s S R : Int) (y m d h' mi se : Int) (b : Bool) (w : World) (r0 : 0 ≤ R) (r1 : R < 86400) (hb1 : -106751991167301 ≤ S ∧ S ≤ 106751991167300) (a : Aside0 (wrap64 (Int.tmod s 86400 + 86400) = R)) (e : Aside0 (wrap64 (wrap64 (Int.tdiv s 86400) - 1) = S)) (p1 : decide (s < 0) = true) (p2 : decide (Int.tmod s 86400 < 0) = true) (p3 : (Int.tmod s 86400 != 0) = true)
    (h : abutmentref05_Of.f k S = some (y, m, d, h', mi, se, b)) :
    Calls Try.prog 54 #[.int .i64 s] w fun e w' => e = .returned (.tuple #[if b = true then .agg #[.int .i64 y, .int .i64 m, .int .i64 d, .int .i64 (R / 3600), .int .i64 (R % 3600 / 60), .int .i64 (R % 60)] else .agg #[.int .i64 y, .int .i64 m, .int .i64 d, .int .i64 h', .int .i64 mi, .int .i64 se], .bool b]) ∧ Below w.heap.size w w' := by
  have hu75 := Try.underlying75
  have HB := Aside0.mk (Below.refl w.heap.size w)
  have HA := Aside0.mk h
  clear h
  cases b with
  | true =>
    rw [if_pos rfl]
    go_enter Try.func54, Try.ntmps54
    go_upto_region 1 with (first | ((with_reducible refine gate_dst (N := 2) rfl ?_); refine box_event ?hg (N := 2) ?hd (cs := #[.int .i64 0, .int .i64 0, .int .i64 0, .int .i64 0, .int .i64 0, .int .i64 0]) (t := 75) ?hr ?_; (case hd => rfl); (case hg => rfl); (case hr => first | (go_simp; done) | (go_simp; rfl)); intro gb101 hg w3 hbox hb; have n0_ := Aside0.mk (below_step HB.out hb); have n1_ := Aside0.mk (hbox); have n2_ := Aside0.mk ((by rw [hg]; exact (below_size HB.out) : w.heap.size ≤ gb101)); clear HB; have HB := n0_; have BK101 := n1_; have GW101 := n2_; clear n0_ n1_ n2_; clear hb hbox hg))
    go_wp2_with fail
    rw [a.out, e.out]
    ((with_reducible refine (abutmentref05_Of.calls k S y m d h' mi se _ _ HA.out).mono ?_))
    rintro x w4 ⟨rfl, hb⟩
    have n0 := Aside0.mk (blk_below BK101.out hb)
    have n1 := Aside0.mk (below_step HB.out hb)
    clear BK101 HB hb
    have BK101 := n0
    have HB := n1
    clear n0 n1
    go_upto_region 8 with (first | ((with_reducible refine gate_dst (N := 6) rfl ?_); refine box_event ?hg (N := 6) ?hd (cs := #[.int .i64 0, .int .i64 0, .int .i64 0, .int .i64 0, .int .i64 0, .int .i64 0]) (t := 75) ?hr ?_; (case hd => rfl); (case hg => rfl); (case hr => first | (go_simp; done) | (go_simp; rfl)); intro gb109 hg w11 hbox hb; have n0_ := Aside0.mk (blk_below BK101.out hb); have n1_ := Aside0.mk (below_step HB.out hb); have n2_ := Aside0.mk hbox; have n3_ := Aside0.mk ((by rw [hg]; exact (below_size HB.out) : w.heap.size ≤ gb109)); have n5_ := Aside0.mk ((by rw [hg]; exact Nat.ne_of_lt (blk_lt BK101.out) : gb101 ≠ gb109)); clear BK101 HB; have BK101 := n0_; have HB := n1_; have BK109 := n2_; have GW109 := n3_; have NE := n5_; clear n0_ n1_ n2_ n3_ n5_; clear hb hbox hg; have hcz0 : w11.cell? ⟨gb109, 0, none⟩ = some (.int .i64 0) := (blk_cell BK109.out 0).trans rfl; have hfz0 := blk_frozen BK109.out 0; have hcz1 : w11.cell? ⟨gb109, 1, none⟩ = some (.int .i64 0) := (blk_cell BK109.out 1).trans rfl; have hfz1 := blk_frozen BK109.out 1; have hcz2 : w11.cell? ⟨gb109, 2, none⟩ = some (.int .i64 0) := (blk_cell BK109.out 2).trans rfl; have hfz2 := blk_frozen BK109.out 2; have hcz3 : w11.cell? ⟨gb109, 3, none⟩ = some (.int .i64 0) := (blk_cell BK109.out 3).trans rfl; have hfz3 := blk_frozen BK109.out 3; have hcz4 : w11.cell? ⟨gb109, 4, none⟩ = some (.int .i64 0) := (blk_cell BK109.out 4).trans rfl; have hfz4 := blk_frozen BK109.out 4; have hcz5 : w11.cell? ⟨gb109, 5, none⟩ = some (.int .i64 0) := (blk_cell BK109.out 5).trans rfl; have hfz5 := blk_frozen BK109.out 5))
    go_upto_region 12 with (fail)
    clear hcz0 hfz0 hcz1 hfz1 hcz2 hfz2 hcz3 hfz3 hcz4 hfz4 hcz5 hfz5
    refine world_gen (fun w' => w'.heap[gb109]? = some (.cells #[.int .i64 y, .int .i64 m, .int .i64 d, .int .i64 (R / 3600), .int .i64 (R % 3600 / 60), .int .i64 (R % 60)] 75 (0, 0)) ∧ w'.heap[gb101]? = some (.cells #[.int .i64 0, .int .i64 0, .int .i64 0, .int .i64 0, .int .i64 0, .int .i64 0] 75 (0, 0)) ∧ Below w.heap.size w w') ⟨?_, ?_, ?_⟩ ?_
    · exact blk_put9 _ _ _ _ _ _ _ _ _ BK109.out
    · exact blk_far9 _ _ _ _ _ _ _ _ _ BK101.out NE.out
    · exact below_put9 _ _ _ _ _ _ _ _ _ HB.out GW109.out
    rintro w12 ⟨b1, b2, b3⟩
    have hi75 : (Try.prog.info? 75).map (·.size) = some 6 := by kernel_rfl
    have HL : Aside0 ((loadVar 75 ⟨gb109, 0, none⟩).run Try.prog w12 = .ok (.agg #[.int .i64 y, .int .i64 m, .int .i64 d, .int .i64 (R / 3600), .int .i64 (R % 3600 / 60), .int .i64 (R % 60)]) w12) := ⟨run_loadVar_cells w12 gb109 75 [.int .i64 y, .int .i64 m, .int .i64 d, .int .i64 (R / 3600), .int .i64 (R % 3600 / 60), .int .i64 (R % 60)] _ (fun k v hk => (blk_cell b1 k).trans (by simpa using hk)) hu75 rfl hi75⟩
    have BK9 := Aside0.mk b1
    have BK1 := Aside0.mk b2
    have HB3 := Aside0.mk b3
    have hcz0 : w12.cell? ⟨gb101, 0, none⟩ = some (.int .i64 0) := (blk_cell b2 0).trans rfl
    have hfz0 := blk_frozen b2 0
    have hcz1 : w12.cell? ⟨gb101, 1, none⟩ = some (.int .i64 0) := (blk_cell b2 1).trans rfl
    have hfz1 := blk_frozen b2 1
    have hcz2 : w12.cell? ⟨gb101, 2, none⟩ = some (.int .i64 0) := (blk_cell b2 2).trans rfl
    have hfz2 := blk_frozen b2 2
    have hcz3 : w12.cell? ⟨gb101, 3, none⟩ = some (.int .i64 0) := (blk_cell b2 3).trans rfl
    have hfz3 := blk_frozen b2 3
    have hcz4 : w12.cell? ⟨gb101, 4, none⟩ = some (.int .i64 0) := (blk_cell b2 4).trans rfl
    have hfz4 := blk_frozen b2 4
    have hcz5 : w12.cell? ⟨gb101, 5, none⟩ = some (.int .i64 0) := (blk_cell b2 5).trans rfl
    have hfz5 := blk_frozen b2 5
    have hcy0 : w12.cell? ⟨gb109, 0, none⟩ = some (.int .i64 (y)) := (blk_cell b1 0).trans rfl
    have hcy1 : w12.cell? ⟨gb109, 1, none⟩ = some (.int .i64 (m)) := (blk_cell b1 1).trans rfl
    have hcy2 : w12.cell? ⟨gb109, 2, none⟩ = some (.int .i64 (d)) := (blk_cell b1 2).trans rfl
    have hcy3 : w12.cell? ⟨gb109, 3, none⟩ = some (.int .i64 ((R / 3600))) := (blk_cell b1 3).trans rfl
    have hcy4 : w12.cell? ⟨gb109, 4, none⟩ = some (.int .i64 ((R % 3600 / 60))) := (blk_cell b1 4).trans rfl
    have hcy5 : w12.cell? ⟨gb109, 5, none⟩ = some (.int .i64 ((R % 60))) := (blk_cell b1 5).trans rfl
    clear b1 b2 b3
    clear BK101 BK109 HB
    go_wp2
    refine bodyPost_ret (results_ct rfl _ _ gb101 75 #[.int .i64 y, .int .i64 m, .int .i64 d, .int .i64 (R / 3600), .int .i64 (R % 3600 / 60), .int .i64 (R % 60)] (0, 0) _ rfl (by exact blk_put6 _ _ _ _ _ _ BK1.out) Try.underlying75 rfl (by kernel_rfl)) rfl ⟨rfl, ?_⟩
    exact below_put6 _ _ _ _ _ _ HB3.out GW101.out
  | false =>
    rw [if_neg (by simp)]
    go_enter Try.func54, Try.ntmps54
    go_upto_region 1 with (first | ((with_reducible refine gate_dst (N := 2) rfl ?_); refine box_event ?hg (N := 2) ?hd (cs := #[.int .i64 0, .int .i64 0, .int .i64 0, .int .i64 0, .int .i64 0, .int .i64 0]) (t := 75) ?hr ?_; (case hd => rfl); (case hg => rfl); (case hr => first | (go_simp; done) | (go_simp; rfl)); intro gb101 hg w3 hbox hb; have n0_ := Aside0.mk (below_step HB.out hb); have n1_ := Aside0.mk (hbox); have n2_ := Aside0.mk ((by rw [hg]; exact (below_size HB.out) : w.heap.size ≤ gb101)); clear HB; have HB := n0_; have BK101 := n1_; have GW101 := n2_; clear n0_ n1_ n2_; clear hb hbox hg))
    go_wp2_with fail
    rw [a.out, e.out]
    ((with_reducible refine (abutmentref05_Of.calls k S y m d h' mi se _ _ HA.out).mono ?_))
    rintro x w4 ⟨rfl, hb⟩
    have n0 := Aside0.mk (blk_below BK101.out hb)
    have n1 := Aside0.mk (below_step HB.out hb)
    clear BK101 HB hb
    have BK101 := n0
    have HB := n1
    clear n0 n1
    go_upto_region 8 with (first | ((with_reducible refine gate_dst (N := 6) rfl ?_); refine box_event ?hg (N := 6) ?hd (cs := #[.int .i64 0, .int .i64 0, .int .i64 0, .int .i64 0, .int .i64 0, .int .i64 0]) (t := 75) ?hr ?_; (case hd => rfl); (case hg => rfl); (case hr => first | (go_simp; done) | (go_simp; rfl)); intro gb109 hg w11 hbox hb; have n0_ := Aside0.mk (blk_below BK101.out hb); have n1_ := Aside0.mk (below_step HB.out hb); have n2_ := Aside0.mk hbox; have n3_ := Aside0.mk ((by rw [hg]; exact (below_size HB.out) : w.heap.size ≤ gb109)); have n5_ := Aside0.mk ((by rw [hg]; exact Nat.ne_of_lt (blk_lt BK101.out) : gb101 ≠ gb109)); clear BK101 HB; have BK101 := n0_; have HB := n1_; have BK109 := n2_; have GW109 := n3_; have NE := n5_; clear n0_ n1_ n2_ n3_ n5_; clear hb hbox hg; have hcz0 : w11.cell? ⟨gb109, 0, none⟩ = some (.int .i64 0) := (blk_cell BK109.out 0).trans rfl; have hfz0 := blk_frozen BK109.out 0; have hcz1 : w11.cell? ⟨gb109, 1, none⟩ = some (.int .i64 0) := (blk_cell BK109.out 1).trans rfl; have hfz1 := blk_frozen BK109.out 1; have hcz2 : w11.cell? ⟨gb109, 2, none⟩ = some (.int .i64 0) := (blk_cell BK109.out 2).trans rfl; have hfz2 := blk_frozen BK109.out 2; have hcz3 : w11.cell? ⟨gb109, 3, none⟩ = some (.int .i64 0) := (blk_cell BK109.out 3).trans rfl; have hfz3 := blk_frozen BK109.out 3; have hcz4 : w11.cell? ⟨gb109, 4, none⟩ = some (.int .i64 0) := (blk_cell BK109.out 4).trans rfl; have hfz4 := blk_frozen BK109.out 4; have hcz5 : w11.cell? ⟨gb109, 5, none⟩ = some (.int .i64 0) := (blk_cell BK109.out 5).trans rfl; have hfz5 := blk_frozen BK109.out 5))
    go_upto_region 12 with (fail)
    clear hcz0 hfz0 hcz1 hfz1 hcz2 hfz2 hcz3 hfz3 hcz4 hfz4 hcz5 hfz5
    refine world_gen (fun w' => w'.heap[gb109]? = some (.cells #[.int .i64 y, .int .i64 m, .int .i64 d, .int .i64 h', .int .i64 mi, .int .i64 se] 75 (0, 0)) ∧ w'.heap[gb101]? = some (.cells #[.int .i64 0, .int .i64 0, .int .i64 0, .int .i64 0, .int .i64 0, .int .i64 0] 75 (0, 0)) ∧ Below w.heap.size w w') ⟨?_, ?_, ?_⟩ ?_
    · exact blk_put6 _ _ _ _ _ _ BK109.out
    · exact blk_far6 _ _ _ _ _ _ BK101.out NE.out
    · exact below_put6 _ _ _ _ _ _ HB.out GW109.out
    rintro w12 ⟨b1, b2, b3⟩
    have hi75 : (Try.prog.info? 75).map (·.size) = some 6 := by kernel_rfl
    have HL : Aside0 ((loadVar 75 ⟨gb109, 0, none⟩).run Try.prog w12 = .ok (.agg #[.int .i64 y, .int .i64 m, .int .i64 d, .int .i64 h', .int .i64 mi, .int .i64 se]) w12) := ⟨run_loadVar_cells w12 gb109 75 [.int .i64 y, .int .i64 m, .int .i64 d, .int .i64 h', .int .i64 mi, .int .i64 se] _ (fun k v hk => (blk_cell b1 k).trans (by simpa using hk)) hu75 rfl hi75⟩
    have BK9 := Aside0.mk b1
    have BK1 := Aside0.mk b2
    have HB3 := Aside0.mk b3
    have hcz0 : w12.cell? ⟨gb101, 0, none⟩ = some (.int .i64 0) := (blk_cell b2 0).trans rfl
    have hfz0 := blk_frozen b2 0
    have hcz1 : w12.cell? ⟨gb101, 1, none⟩ = some (.int .i64 0) := (blk_cell b2 1).trans rfl
    have hfz1 := blk_frozen b2 1
    have hcz2 : w12.cell? ⟨gb101, 2, none⟩ = some (.int .i64 0) := (blk_cell b2 2).trans rfl
    have hfz2 := blk_frozen b2 2
    have hcz3 : w12.cell? ⟨gb101, 3, none⟩ = some (.int .i64 0) := (blk_cell b2 3).trans rfl
    have hfz3 := blk_frozen b2 3
    have hcz4 : w12.cell? ⟨gb101, 4, none⟩ = some (.int .i64 0) := (blk_cell b2 4).trans rfl
    have hfz4 := blk_frozen b2 4
    have hcz5 : w12.cell? ⟨gb101, 5, none⟩ = some (.int .i64 0) := (blk_cell b2 5).trans rfl
    have hfz5 := blk_frozen b2 5
    have hcy0 : w12.cell? ⟨gb109, 0, none⟩ = some (.int .i64 (y)) := (blk_cell b1 0).trans rfl
    have hcy1 : w12.cell? ⟨gb109, 1, none⟩ = some (.int .i64 (m)) := (blk_cell b1 1).trans rfl
    have hcy2 : w12.cell? ⟨gb109, 2, none⟩ = some (.int .i64 (d)) := (blk_cell b1 2).trans rfl
    have hcy3 : w12.cell? ⟨gb109, 3, none⟩ = some (.int .i64 (h')) := (blk_cell b1 3).trans rfl
    have hcy4 : w12.cell? ⟨gb109, 4, none⟩ = some (.int .i64 (mi)) := (blk_cell b1 4).trans rfl
    have hcy5 : w12.cell? ⟨gb109, 5, none⟩ = some (.int .i64 (se)) := (blk_cell b1 5).trans rfl
    clear b1 b2 b3
    clear BK101 BK109 HB
    go_wp2
    refine bodyPost_ret (results_ct rfl _ _ gb101 75 #[.int .i64 y, .int .i64 m, .int .i64 d, .int .i64 h', .int .i64 mi, .int .i64 se] (0, 0) _ rfl (by exact blk_put6 _ _ _ _ _ _ BK1.out) Try.underlying75 rfl (by kernel_rfl)) rfl ⟨rfl, ?_⟩
    exact below_put6 _ _ _ _ _ _ HB3.out GW101.out
theorem refdate_walk (k : Nat) (s S R : Int) (y m d h' mi se : Int) (b : Bool) (w : World) (h0 : -9223372036854775808 ≤ s) (h1 : s ≤ 9223372036854775807) (hS : s / 86400 = S) (hR : s % 86400 = R)
    (h : abutmentref05_Of.f k S = some (y, m, d, h', mi, se, b)) :
    Calls Try.prog 54 #[.int .i64 s] w fun e w' => e = .returned (.tuple #[if b = true then .agg #[.int .i64 y, .int .i64 m, .int .i64 d, .int .i64 (R / 3600), .int .i64 (R % 3600 / 60), .int .i64 (R % 60)] else .agg #[.int .i64 y, .int .i64 m, .int .i64 d, .int .i64 h', .int .i64 mi, .int .i64 se], .bool b]) ∧ Below w.heap.size w w' := by
  have hw := tdiv_emod s
  have r0 : 0 ≤ R := by omega
  have r1 : R < 86400 := by omega
  have hb1 : -106751991167301 ≤ S ∧ S ≤ 106751991167300 := by omega
  rcases hw with ⟨a, c, e⟩ | ⟨a, c, e, g⟩ | ⟨a, c, e, g⟩
  · exact refdate_a k s S R y m d h' mi se b w r0 r1 hb1 ⟨a.trans hR⟩ ⟨by rw [c, wrap_small (by omega) (by omega)]; exact hS⟩ (decide_eq_false (by omega)) (decide_eq_false (by rw [a]; omega)) h
  · exact refdate_b k s S R y m d h' mi se b w r0 r1 hb1 ⟨by omega⟩ ⟨by rw [e, wrap_small (by omega) (by omega)]; exact hS⟩ (decide_eq_true g) (decide_eq_false (by omega)) (bne_eq_false_iff_eq.2 a) h
  · have e1 : wrap64 (Int.tdiv s 86400) = S + 1 := by rw [e, wrap_small (by omega) (by omega)]; omega
    have e2 : wrap64 (S + 1 - 1) = S := by rw [wrap_small (by omega) (by omega)]; omega
    have e3 : wrap64 (R - 86400 + 86400) = R := by rw [wrap_small (by omega) (by omega)]; omega
    have a2 : Int.tmod s 86400 = R - 86400 := by omega
    exact refdate_c k s S R y m d h' mi se b w r0 r1 hb1 ⟨by rw [a2]; exact e3⟩ ⟨by rw [e1]; exact e2⟩ (decide_eq_true g) (decide_eq_true (by omega)) (bne_iff_ne.2 (by omega)) h
theorem abutmentref05_Date.calls (k : Nat) (a0 : Int) (r1 : Int) (r2 : Int) (r3 : Int) (r4 : Int) (r5 : Int) (r6 : Int) (r7 : Bool) (w : World) (h : abutmentref05_Date.f k a0 = some (r1, r2, r3, r4, r5, r6, r7)) :
    Calls Try.prog 54 #[.int .i64 a0] w fun e w' => e = .returned (.tuple #[.agg #[.int .i64 r1, .int .i64 r2, .int .i64 r3, .int .i64 r4, .int .i64 r5, .int .i64 r6], .bool r7]) ∧ Below w.heap.size w w' := by
  unfold abutmentref05_Date.f at h
  split at h
  · rename_i hr
    obtain ⟨⟨y, m, d, h', mi, se, b⟩, h1, h2⟩ := Option.bind_eq_some_iff.mp h
    have := refdate_walk k a0 _ _ y m d h' mi se b w hr.1 hr.2 rfl rfl h1
    refine this.mono ?_
    rintro e w' ⟨rfl, hb⟩
    refine ⟨?_, hb⟩
    have h3 := Option.some.inj h2
    cases b with
    | true =>
      rw [if_pos rfl] at h3 ⊢
      simp only [Prod.mk.injEq] at h3
      obtain ⟨rfl, rfl, rfl, rfl, rfl, rfl, rfl⟩ := h3
      rfl
    | false =>
      rw [if_neg (by simp)] at h3 ⊢
      simp only [Prod.mk.injEq] at h3
      obtain ⟨rfl, rfl, rfl, rfl, rfl, rfl, rfl⟩ := h3
      rfl
  · exact absurd h (by simp)
end Go.Proofs.Ytjnhghplfdiijaa.Q

namespace Go.Proofs.Ytjnhghplfdiijaa.Q
open Go.RowKit Go.Proofs.YtjnhghplfdiijaaW.PrintWords Go.Proofs.YtjnhghplfdiijaaW.PrintLast Go.Proofs.YtjnhghplfdiijaaW.PrintMore Go.Lib Go.Shelf
set_option linter.unusedVariables false
set_option linter.unusedSimpArgs false
attribute [local go_sem] max2_int min2_int max_two min_two
/-- A digit's octet. -/
def digC (d : Int) : UInt8 := UInt8.ofNat (if d < 10 then d + 48 else d + 87).toNat
def figL (b : Int) : Nat → Int → List UInt8 → List UInt8
  | 0, _, l => l
  | f + 1, n, l => if l = [] ∨ n ≠ 0 then figL b f (n.tdiv b) (digC (max (n.tmod b) (-(n.tmod b))) :: l) else l
def digits_figures.f (n b : Int) : Option ByteArray :=
  if b = 10 ∧ -9223372036854775808 ≤ n ∧ n ≤ 9223372036854775807 then some ⟨(figL b 20 n []).toArray⟩ else none
theorem signs_at (k : Int) (h0 : 0 ≤ k) (h1 : k ≤ 15) : (⟨#[48, 49, 50, 51, 52, 53, 54, 55, 56, 57, 97, 98, 99, 100, 101, 102]⟩ : ByteArray)[k.toNat]? = some (digC k) := by
  obtain rfl | rfl | rfl | rfl | rfl | rfl | rfl | rfl | rfl | rfl | rfl | rfl | rfl | rfl | rfl | rfl : k = 0 ∨ k = 1 ∨ k = 2 ∨ k = 3 ∨ k = 4 ∨ k = 5 ∨ k = 6 ∨ k = 7 ∨ k = 8 ∨ k = 9 ∨ k = 10 ∨ k = 11 ∨ k = 12 ∨ k = 13 ∨ k = 14 ∨ k = 15 := by omega
  all_goals rfl
theorem ite_max (d : Int) : (if d < -d then -d else d) = max d (-d) := by split <;> omega
theorem signs_run (k : Int) (h0 : 0 ≤ k) (h1 : k ≤ 15) {X : Result Value} {w : World} :
    (if h : 0 ≤ k ∧ k < 16 then Result.ok (Value.int IntKind.u8 ((⟨#[48, 49, 50, 51, 52, 53, 54, 55, 56, 57, 97, 98, 99, 100, 101, 102]⟩ : ByteArray)[k.toNat]'(by show k.toNat < 16; omega)).toNat) w else X) = Result.ok (Value.int IntKind.u8 (digC k).toNat) w := by
  have e := signs_at k h0 h1
  have hlt : k.toNat < (⟨#[48, 49, 50, 51, 52, 53, 54, 55, 56, 57, 97, 98, 99, 100, 101, 102]⟩ : ByteArray).size := by show k.toNat < 16; omega
  rw [ByteArray.getElem?_lt' _ _ hlt] at e
  rw [dif_pos ⟨h0, by omega⟩, Option.some.inj e]
theorem zeros64 : ∀ j : Nat, j < 64 → ∃ o : Int, (Array.replicate 64 (Value.int .u8 0))[j]? = some (.int .u8 o) := fun j h => ⟨0, by simp [h]⟩
theorem wrap_fig (q : Nat) (h : q < 64) : wrap64 (q : Int) = (q : Int) := by unfold wrap64; rw [Int.emod_eq_of_lt] <;> omega
theorem wrap_neg (d : Int) (h0 : -16 < d) (h1 : d < 16) : wrap64 (-d) = -d := by unfold wrap64; omega
theorem tmod10 (m : Int) : -9 ≤ m.tmod 10 ∧ m.tmod 10 ≤ 9 := by
  by_cases h : 0 ≤ m
  · rw [Int.tmod_eq_emod_of_nonneg h]; omega
  · have : m.tmod 10 = -((-m).tmod 10) := by rw [Int.neg_tmod]; omega
    rw [this, Int.tmod_eq_emod_of_nonneg (by omega)]; omega
theorem tdiv10 (m : Int) (h0 : -9223372036854775808 ≤ m) (h1 : m ≤ 9223372036854775807) : -922337203685477580 ≤ m.tdiv 10 ∧ m.tdiv 10 ≤ 922337203685477580 := by
  by_cases h : 0 ≤ m
  · rw [Int.tdiv_eq_ediv_of_nonneg h]; omega
  · have : m.tdiv 10 = -((-m).tdiv 10) := by rw [Int.neg_tdiv]; omega
    rw [this, Int.tdiv_eq_ediv_of_nonneg (by omega)]; omega
theorem pow10 (m : Int) (f : Nat) (h : m.natAbs < 10 ^ (f + 1)) : (m.tdiv 10).natAbs < 10 ^ f := by
  rw [Int.natAbs_tdiv]
  show m.natAbs / 10 < 10 ^ f
  rw [Nat.pow_succ] at h
  omega
theorem wrap_m (d : Int) (h0 : -922337203685477580 ≤ d) (h1 : d ≤ 922337203685477580) : wrap64 d = d := by unfold wrap64; omega
/-- A round's end. -/
theorem figures_round {w wr : World} {m2 d : Int} {q f' gk : Nat} {l R : List UInt8} {Z : Array Value}
    (ho : (-9 ≤ d ∧ d ≤ 9) ∧ (-922337203685477580 ≤ m2 ∧ m2 ≤ 922337203685477580) ∧ m2.natAbs < 10 ^ f' ∧ q + 1 + l.length = 64 ∧ f' + 1 + l.length = 20 ∧ 25 - l.length ≤ gk ∧ Z.size = 64 ∧ q < 64)
    (HZ : Aside0 (wr.heap[w.heap.size]? = some (.cells Z 195 (0, 0)))) (HL : Aside0 (∀ j (h : j < l.length), Z[q + 1 + j]? = some (.int .u8 (l[j].toNat : Int)))) (HN : Aside0 (figL 10 f' m2 (digC (max d (-d)) :: l) = R))
    (HB : Aside0 (Below w.heap.size w wr)) (HU : Aside0 (∀ j : Nat, j < 64 → ∃ o : Int, Z[j]? = some (.int .u8 o))) :
    ∃ (m : Int) (p f : Nat) (l : List UInt8) (Z : Array Value), Value.int IntKind.i64 m2 = .int .i64 m ∧ Value.int IntKind.i64 (q : Int) = .int .i64 (p : Int) ∧ p + l.length = 64 ∧ f + l.length = 20 ∧ 25 - l.length ≤ gk - 1 ∧ -9223372036854775808 ≤ m ∧ m ≤ 9223372036854775807 ∧ m.natAbs < 10 ^ f ∧
      Aside0 ((wr.setCell ⟨w.heap.size, q, none⟩ (.int .u8 (digC (max d (-d))).toNat)).heap[w.heap.size]? = some (.cells Z 195 (0, 0))) ∧ Z.size = 64 ∧ Aside0 (∀ j (h : j < l.length), Z[p + j]? = some (.int .u8 (l[j].toNat : Int))) ∧ Aside0 (figL 10 f m l = R) ∧
      Aside0 (Below w.heap.size w (wr.setCell ⟨w.heap.size, q, none⟩ (.int .u8 (digC (max d (-d))).toNat))) ∧ Aside0 (∀ j : Nat, j < 64 → ∃ o : Int, Z[j]? = some (.int .u8 o)) := by
  obtain ⟨_, ⟨h1, h2⟩, h3, h4, h5, h6, h7, h8⟩ := ho
  refine ⟨m2, q, f', digC (max d (-d)) :: l, _, rfl, rfl, by simp; omega, by simp; omega, by simp; omega, by omega, by omega, h3, ⟨blk_set HZ.out q _⟩, by simpa using h7, ⟨?_⟩, HN, ⟨HB.out.setCell (Nat.le_refl _) _⟩, ⟨?_⟩⟩
  · intro j h
    rcases j with _ | j
    · simp [h7, h8]
    · have hj : j < l.length := by simpa using h
      rw [Array.getElem?_setIfInBounds_ne (by omega)]
      have := HL.out j hj
      rw [show q + (j + 1) = q + 1 + j by omega]
      simpa using this
  · intro j h
    by_cases e : q = j
    · subst e; exact ⟨((digC (max d (-d))).toNat : Int), by simp [h7, h8]⟩
    · rw [Array.getElem?_setIfInBounds_ne e]; exact HU.out j h
set_option maxRecDepth 100000 in
set_option maxHeartbeats 4000000 in
theorem figures_10 (n : Int) (w : World) (h0 : -9223372036854775808 ≤ n) (h1 : n ≤ 9223372036854775807) :
    Calls Try.prog 184 #[.int .i64 n, .int .i64 10] w fun e w' => e = .returned (.string ⟨(figL 10 20 n []).toArray⟩) ∧ Below w.heap.size w w' := by
  obtain ⟨R, hR⟩ : ∃ R, figL 10 20 n [] = R := ⟨_, rfl⟩
  rw [hR]
  have HR := Aside0.mk hR
  clear hR
  go_enter Try.func184, Try.ntmps184
  go_wp2
  go_loopg [0, 6] 30 (fun gg vn va wr => ∃ (m : Int) (p f : Nat) (l : List UInt8) (Z : Array Value), vn = .int .i64 m ∧ va = .int .i64 (p : Int) ∧ p + l.length = 64 ∧ f + l.length = 20 ∧ 25 - l.length ≤ gg ∧ -9223372036854775808 ≤ m ∧ m ≤ 9223372036854775807 ∧ m.natAbs < 10 ^ f ∧ Aside0 (wr.heap[w.heap.size]? = some (.cells Z 195 (0, 0))) ∧ Z.size = 64 ∧ Aside0 (∀ j (h : j < l.length), Z[p + j]? = some (.int .u8 (l[j].toNat : Int))) ∧ Aside0 (figL 10 f m l = R) ∧ Aside0 (Below w.heap.size w wr) ∧ Aside0 (∀ j : Nat, j < 64 → ∃ o : Int, Z[j]? = some (.int .u8 o)))
  case atStart =>
    refine ⟨n, 64, 20, [], _, rfl, rfl, rfl, rfl, by simp, h0, h1, by omega, ⟨heap_alloc_new w _⟩, rfl, ⟨fun j h => absurd h (by simp)⟩, HR, ⟨(Below.refl _ _).alloc (Nat.le_refl _) _⟩, ⟨zeros64⟩⟩
  case round =>
    obtain ⟨m, p, f, l, Z, rfl, rfl, hp, hf, hgg, hm0, hm1, hpow, HZ, hZs, HL, HN, HB, HU⟩ := hrel
    by_cases hc : l = [] ∨ m ≠ 0
    · obtain ⟨f', rfl⟩ : ∃ f', f = f' + 1 := by
        rcases f with _ | f'
        · exfalso
          rcases hc with rfl | hc
          · simp at hf
          · simp at hpow; exact hc hpow
        · exact ⟨f', rfl⟩
      have HN2 : Aside0 (figL 10 f' (m.tdiv 10) (digC (max (m.tmod 10) (-(m.tmod 10))) :: l) = R) := ⟨by have := HN.out; rw [figL, if_pos hc] at this; exact this⟩
      obtain ⟨q, rfl⟩ : ∃ q, p = q + 1 := ⟨p - 1, by omega⟩
      have hq : q < 64 := by omega
      have hr0 := tmod10 m
      have hd0 := tdiv10 m hm0 hm1
      have hpow2 := pow10 m f' hpow
      obtain ⟨d, hd⟩ : ∃ d, m.tmod 10 = d := ⟨_, rfl⟩
      obtain ⟨m2, hm2⟩ : ∃ m2, m.tdiv 10 = m2 := ⟨_, rfl⟩
      rw [hd] at hr0 HN2
      rw [hm2] at hd0 hpow2 HN2
      have hwd0 := fun u : Unit => wrap_neg d (by omega) (by omega)
      have hk0 : 0 ≤ max d (-d) := by omega
      have hk1 : max d (-d) ≤ 15 := by omega
      have HK := Aside0.mk (And.intro hk0 hk1)
      clear hk0 hk1
      have hw0 := fun u : Unit => wrap_fig q hq
      obtain ⟨o, ho⟩ : ∃ o : Int, Z[q]? = some (.int .u8 o) := HU.out q (by omega)
      have hcell : Aside0 (wr.cell? ⟨w.heap.size, q, none⟩ = some (.int .u8 o)) := ⟨(cell_of_row wr _ q _ _ _ HZ.out).trans ho⟩
      clear ho
      have hc2 : ((q : Int) + 1 == 64) = true ∨ (((q : Int) + 1 == 64) = false ∧ (m != 0) = true) := by
        rcases hc with rfl | hc
        · left; have : q + 1 + 0 = 64 := hp; simp; omega
        · by_cases e : (q : Int) + 1 = 64
          · left; simp [e]
          · right; exact ⟨by simpa using e, by simpa using hc⟩
      have hw := hw0 ()
      have hwd := hwd0 ()
      clear hw0 hwd0
      have HO := Aside0.mk (And.intro hr0 (And.intro hd0 (And.intro hpow2 (And.intro hp (And.intro hf (And.intro hgg (And.intro hZs hq)))))))
      have hd0' := hd0
      clear hr0 hd0 hpow2 hp hf hgg hZs hq hpow hc hm0 hm1 HN
      have hwm0 := fun u : Unit => wrap_m m2 hd0'.1 hd0'.2
      rcases hc2 with hc2 | ⟨hc2, hc3⟩
      all_goals
        go_upto_region 6 with fail
        rw [hw]
        iterate 16 (first | go_values | go_skip | go_guarded | go_step | go_upon | go_back)
        rw [hwd]
        iterate 2 (first | go_values | go_skip | go_guarded | go_step | go_upon | go_back)
        simp only [ite_max]
        rw [signs_run _ HK.out.1 HK.out.2]
        have hq1 : (q : Int) < 64 := by have := HO.out.2.2.2.2.2.2.2; omega
        have hcl : wr.cell? ⟨w.heap.size, q, none⟩ = some (.int .u8 o) := hcell.out
        have hfr := blk_frozen HZ.out q
        clear hw hwd
        go_wp2_with fail
        clear hwm0 hcl hfr hq1
        go_roundg (gk - 1)
        case measure => have := HO.out; omega
        case rel => exact figures_round HO.out HZ HL HN2 HB HU
    · have hl : l ≠ [] := fun e => hc (.inl e)
      obtain rfl : m = 0 := by
        by_cases e : m = 0
        · exact e
        · exact absurd (.inr e) hc
      have hRl : R = l := by
        have := HN.out
        rcases f with _ | f
        · exact this.symm
        · rw [figL, if_neg hc] at this; exact this.symm
      subst hRl
      have hpos : 0 < R.length := List.length_pos_iff.mpr hl
      have hne : ((p : Int) == 64) = false := by simp; omega
      have hne2 : ¬ 64 = p := by omega
      have hp0 : (0 : Int) ≤ p := by omega
      have hp1 : (p : Int) ≤ 64 := by omega
      have HP := Aside0.mk hp
      clear hp hf hgg hpow hc HN hZs hpos hl hm0 hm1 HR
      go_upto_region 8 with fail
      go_wp2_with fail
      have hlen : 64 - p = R.length := by have := HP.out; omega
      rw [hlen, run_convert_bytes_back wr 149 9 5 ⟨w.heap.size, p, none⟩ R.length R Try.underlying149 Try.underlying5 Try.underlying9 (fun j hj => by rw [Addr.add_lit]; exact (cell_of_row wr _ _ _ _ _ HZ.out).trans (HL.out j hj))]
      go_wp2
      exact bodyPost_ret (v := .string ⟨R.toArray⟩) (by simp [results, Try.results184, go_sem]) rfl ⟨rfl, HB.out⟩
theorem digits_figures.calls (n b : Int) (r : ByteArray) (w : World) (h : digits_figures.f n b = some r) :
    Calls Try.prog 184 #[.int .i64 n, .int .i64 b] w fun e w' => e = .returned (.string r) ∧ Below w.heap.size w w' := by
  unfold digits_figures.f at h
  split at h
  · rename_i hg
    obtain ⟨rfl, h0, h1⟩ := hg
    injection h with h
    subst h
    exact figures_10 n w h0 h1
  · exact absurd h (by simp)
end Go.Proofs.Ytjnhghplfdiijaa.Q
