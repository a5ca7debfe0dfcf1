/- Asks, part 1: contracts of functions and plain laws, one behind the other (joined by wip/merge.py out of: QB Hrows HopenFields Hpure Q165 Q119 Htrim QS176 Hoctet Hcursor Q160 Hlower Q145 Q144 Q83 Q123 Q124 Hpre1 Q138). -/
import Derived.Test.YtjnhghplfdiijaaMAsks0
import Derived.Test.YtjnhghplfdiijaaProg
import Derived.Below
import Derived.Deep.Draws
import Derived.Deep.AppendLies
import Derived.Maps.AppendAt
import Derived.OwnWalk
import Derived.Laws.BytesArg
import Derived.Laws.MakeOwn
import Derived.Laws.OwnMore
import Derived.Deep.OwnRows
import Derived.Tactics
import Derived.Lib.ConvBytes
import Derived.Laws.Slices
import Derived.WalkKit
import Derived.KernelRfl
import Derived.RowKit3
import Derived.Deep.LoopGhost
import Derived.Deep.QuietTactic
import Derived.BigQuiet
import Derived.WideLaws
import Derived.Deep.DeepCutAuto
import Derived.Deep.CutBlock
import Derived.Deep.RegionHeld3
import Derived.Laws.Rows
import Derived.Lib.AppendStr
import Derived.ArgAppend
import Derived.Laws.IdiomCopy
import Derived.OrdersHeld
import Derived.Laws.BitsLemmas
import Derived.RowKit
import Derived.ChangeArms
import Derived.WideShapes
import Derived.Deep.Slices
import Derived.Deep.Fields
import Derived.Laws.RangeAny
import Derived.Lib.OthersKept
import Derived.Shelf.Abstract
import Derived.Laws.IdiomStrings
namespace Go.Proofs.Ytjnhghplfdiijaa.Q
open Go.RowKit Go.Proofs.YtjnhghplfdiijaaW.PrintWords Go.Proofs.YtjnhghplfdiijaaW.PrintLast Go.Proofs.YtjnhghplfdiijaaW.PrintMore
attribute [local go_sem] max2_int min2_int max_two min_two max_three min_three max_four min_four
set_option linter.unusedVariables false
set_option linter.unusedSimpArgs false
def errW : Option Int → Value
  | none => .nilIface
  | some c => .iface 0 (.int .i64 c)
theorem errW_none : errW none = .nilIface := rfl
theorem errW_some (c : Int) : errW (some c) = .iface 0 (.int .i64 c) := rfl
theorem info5 : (Try.prog.info? 5).map (fun i => (i.zero, i.size, i.bytes)) = some (some (.int .u8 0), 1, 1) := by kernel_rfl
theorem info9 : (Try.prog.info? 9).map (fun i => (i.zero, i.size, i.bytes)) = some (some (.string ⟨#[]⟩), 1, 16) := by kernel_rfl
theorem info51 : (Try.prog.info? 51).map (fun i => (i.zero, i.size, i.bytes)) = some (some (.agg #[(.string ⟨#[]⟩), (.string ⟨#[]⟩), (.bool false)]), 3, 40) := by kernel_rfl
structure S60 where
  f0 : ByteArray
  f1 : ByteArray
def z60 : S60 := ⟨(⟨#[]⟩ : ByteArray), (⟨#[]⟩ : ByteArray)⟩
def k60 : Kd S60 := Kd.iso (Kd.pair Kd.string Kd.string) (fun x : S60 => (x.f0, x.f1))
theorem k60_open {w : World} {x : S60} {cs : List Value} (h : k60.K w x cs) : cs = [.string x.f0, .string x.f1] := by
  obtain ⟨_, _, rfl, rfl, rfl⟩ := h
  exact rfl
theorem k60_mk (w : World) (x : S60)  : k60.K w x [.string x.f0, .string x.f1] := ⟨[.string x.f0], [.string x.f1], rfl, rfl, rfl⟩
theorem k60_mkM (w : World) (base : Nat) (ok : Nat → Prop) (x : S60)  : k60.M w base ok x [.string x.f0, .string x.f1] := ⟨[.string x.f0], [.string x.f1], rfl, rfl, rfl⟩
def rd_T60 (xs : List S60) (i : Int) : S60 := xs.getD i.toNat z60
theorem at_T60 {w : World} {A : Option Addr} {n : Nat} {xs : List S60} (h : Kd.C k60 w A n xs) (i : Int) (h0 : 0 ≤ i) (h1 : i < n) : ∃ ad , A = some ad ∧ w.cell? (ad.add (i.toNat * 2)) = some (.string (rd_T60 xs i).f0) ∧ w.cell? ⟨(ad.add (i.toNat * 2)).block, (ad.add (i.toNat * 2)).off + 1, none⟩ = some (.string (rd_T60 xs i).f1) := by
  obtain ⟨ad, c, e, _, hK, hc0⟩ := Kd.C_get h z60 i h0 h1
  have hc : ∀ j u, c[j]? = some u → w.cell? (ad.add (i.toNat * 2 + j)) = some u := hc0
  obtain rfl := k60_open hK
  exact ⟨ad, e, hc 0 _ rfl, by rw [← add_field _ _ 1 (by omega)]; exact hc 1 _ rfl⟩
structure S141 where
  f0 : ByteArray
  f1 : ByteArray
def k141 : Kd S141 := Kd.iso (Kd.pair Kd.string Kd.string) (fun x : S141 => (x.f0, x.f1))
structure S51 where
  f0 : ByteArray
  f1 : ByteArray
  f2 : Bool
def z51 : S51 := ⟨(⟨#[]⟩ : ByteArray), (⟨#[]⟩ : ByteArray), false⟩
def k51 : Kd S51 := Kd.iso (Kd.pair Kd.string (Kd.pair Kd.string Kd.bool)) (fun x : S51 => (x.f0, x.f1, x.f2))
theorem k51_open {w : World} {x : S51} {cs : List Value} (h : k51.K w x cs) : cs = [.string x.f0, .string x.f1, .bool x.f2] := by
  obtain ⟨_, _, rfl, rfl, ⟨_, _, rfl, rfl, rfl⟩⟩ := h
  exact rfl
theorem k51_mkM (w : World) (base : Nat) (ok : Nat → Prop) (x : S51)  : k51.M w base ok x [.string x.f0, .string x.f1, .bool x.f2] := ⟨[.string x.f0], [.string x.f1, .bool x.f2], rfl, rfl, ⟨[.string x.f1], [.bool x.f2], rfl, rfl, rfl⟩⟩
def rd_T51 (xs : List S51) (i : Int) : S51 := xs.getD i.toNat z51
theorem at_T51 {w : World} {A : Option Addr} {n : Nat} {xs : List S51} (h : Kd.C k51 w A n xs) (i : Int) (h0 : 0 ≤ i) (h1 : i < n) : ∃ ad , A = some ad ∧ w.cell? (ad.add (i.toNat * 3)) = some (.string (rd_T51 xs i).f0) ∧ w.cell? ⟨(ad.add (i.toNat * 3)).block, (ad.add (i.toNat * 3)).off + 1, none⟩ = some (.string (rd_T51 xs i).f1) ∧ w.cell? ⟨(ad.add (i.toNat * 3)).block, (ad.add (i.toNat * 3)).off + 2, none⟩ = some (.bool (rd_T51 xs i).f2) := by
  obtain ⟨ad, c, e, _, hK, hc0⟩ := Kd.C_get h z51 i h0 h1
  have hc : ∀ j u, c[j]? = some u → w.cell? (ad.add (i.toNat * 3 + j)) = some u := hc0
  obtain rfl := k51_open hK
  exact ⟨ad, e, hc 0 _ rfl, by rw [← add_field _ _ 1 (by omega)]; exact hc 1 _ rfl, by rw [← add_field _ _ 2 (by omega)]; exact hc 2 _ rfl⟩
structure S75 where
  f0 : Int
  f1 : Int
  f2 : Int
  f3 : Int
  f4 : Int
  f5 : Int
def z75 : S75 := ⟨(0 : Int), (0 : Int), (0 : Int), (0 : Int), (0 : Int), (0 : Int)⟩
end Go.Proofs.Ytjnhghplfdiijaa.Q

namespace Go.Proofs.Ytjnhghplfdiijaa.Q
open Go.RowKit Go.ChangeShapes Go.WideShapes
set_option linter.unusedVariables false
section
variable {H : Type} {enc : TypeId × Value → H} {P : Program} {w : World} {base : Nat} {spare : Nat → Bool} {held : Bool} {fuel : Nat} {t : TypeId} {cs : List Value} {x : DataW H × List MemPlace} {fs : Array Field}
theorem field_trod (ht : P.underlying t = some (.struct fs)) (h : DataW.trod enc P w base spare held fuel t cs = some x) (j : Nat) (f : Field) (hf : fs[j]? = some f) :
    ∃ n y, DataW.trod enc P w base spare held n f.type ((cs.drop f.offset).take (P.cellsOf f.type)) = some y := by
  obtain ⟨xs, n, _, _, _, hlen, g⟩ := DataW.trod_struct ht h
  have hj : j < xs.length := by
    rw [hlen]
    exact (Array.getElem?_eq_some_iff.mp hf).1
  exact ⟨n, xs[j], (g j f hf).trans (List.getElem?_eq_getElem hj)⟩
theorem take_one {α : Type} {l : List α} {n : Nat} {v : α} (h : (l.drop n).take 1 = [v]) : l[n]? = some v := by
  have h2 : ((l.drop n).take 1)[0]? = some v := by rw [h]; rfl
  simpa using h2
theorem field_string (ht : P.underlying t = some (.struct fs)) (h : DataW.trod enc P w base spare held fuel t cs = some x) (j : Nat) (f : Field) (hf : fs[j]? = some f) (hk : P.underlying f.type = some .string) (hc : P.cellsOf f.type = 1) :
    ∃ s : ByteArray, cs[f.offset]? = some (.string s) ∧ s.size ≤ maxLen := by
  obtain ⟨n, y, hy⟩ := field_trod ht h j f hf
  obtain ⟨m, e, _, hw⟩ := DataW.trod_string hk hy
  rw [hc] at e
  exact ⟨m, take_one e, hw⟩
end
end Go.Proofs.Ytjnhghplfdiijaa.Q

namespace Go.Proofs.Ytjnhghplfdiijaa.Q
open Go.RowKit Go.ChangeShapes Go.WideShapes Go.Deep Go.Proofs.YtjnhghplfdiijaaW.PrintWords
set_option linter.unusedVariables false
theorem open_Fields {H : Type} {enc : TypeId × Value → H} {w : World} {fuel : Nat} {A : Option Addr} {len cap : Nat} {x : DataW H × List MemPlace} (h : DataW.trod enc Try.prog w 0 (fun _ => true) true fuel 39 [.slice A len cap] = some x) :
    ∃ l : List S60, l.length = len ∧ len ≤ cap ∧ Kd.C k60 w A l.length l := by
  rcases open_slice Try.underlying39 h with ⟨hcs, _⟩ | ⟨a, len', cap', m, k, D, Pl, hcs, _, hlc, hm, hmm, _, hi⟩
  · injection hcs with hcs _
    injection hcs with h1 h2 h3
    subst h1 h2 h3
    exact ⟨[], rfl, Nat.le_refl _, Kd.C_nil _ _⟩
  · injection hcs with hcs _
    injection hcs with h1 h2 h3
    subst h1 h2 h3
    have hlm : len ≤ m := by rw [hmm]; split <;> omega
    have each : ∀ i, ∃ f : S60, i < len → ∀ j u, ([.string f.f0, .string f.f1] : List Value)[j]? = some u → w.cell? (a.add (i * 2 + j)) = some u := by
      intro i
      by_cases hlt : i < len
      · obtain ⟨cs', hc, htr⟩ := hi i (by omega)
        have hsz : Try.prog.cellsOf 60 = 2 := by kernel_rfl
        rw [hsz] at hc
        obtain ⟨_, hcl, hat⟩ := World.cells?_some hc
        obtain ⟨s0, h0, _⟩ := field_string Try.underlying60 htr 0 _ rfl Try.underlying9 (by kernel_rfl)
        obtain ⟨s1, h1, _⟩ := field_string Try.underlying60 htr 1 _ rfl Try.underlying9 (by kernel_rfl)
        refine ⟨⟨s0, s1⟩, fun _ j u hj => ?_⟩
        have hjl : j < 2 := by have := (List.getElem?_eq_some_iff.1 hj).1; simpa using this
        have hcell := hat j hjl
        rw [← Go.Deep.add_add, hcell]
        have hcase : j = 0 ∨ j = 1 := by omega
        rcases hcase with rfl | rfl
        · exact Eq.trans h0 hj
        · exact Eq.trans h1 hj
      · exact ⟨z60, fun h => absurd h hlt⟩
    obtain ⟨g, hg⟩ := Classical.axiomOfChoice each
    refine ⟨(List.range len).map g, by simp, hlc, ?_⟩
    have hl : ((List.range len).map g).length = len := by simp
    rw [hl]
    refine ⟨hl, by have := hm; unfold maxLen at this; omega, fun _ => ⟨a, rfl, fun j p hp => ?_⟩⟩
    rw [List.getElem?_map] at hp
    obtain ⟨j', hj', hpg⟩ := Option.map_eq_some_iff.1 hp
    have hjl : j < len := by have := (List.getElem?_eq_some_iff.1 hj').1; simpa using this
    have : j' = j := by
      rw [List.getElem?_range hjl] at hj'
      exact (Option.some.inj hj').symm
    subst this
    subst hpg
    exact ⟨_, rfl, k60_mk w (g j'), fun i u hu => hg j' hjl i u hu⟩
end Go.Proofs.Ytjnhghplfdiijaa.Q

namespace Go.Proofs.Ytjnhghplfdiijaa.Q
open Go.RowKit Go.Proofs.YtjnhghplfdiijaaW.PrintWords Go.Proofs.YtjnhghplfdiijaaW.PrintLast Go.Proofs.YtjnhghplfdiijaaW.PrintMore
set_option linter.unusedVariables false
set_option linter.unusedSimpArgs false
/-- A text's octets. -/
def tl (s : ByteArray) : List UInt8 := s.data.toList
def ofl (l : List UInt8) : ByteArray := ⟨l.toArray⟩
theorem tl_ofl (l : List UInt8) : tl (ofl l) = l := rfl
theorem ofl_tl (s : ByteArray) : ofl (tl s) = s := by cases s; simp [ofl, tl]
theorem tl_inj {a b : ByteArray} (h : tl a = tl b) : a = b := by rw [← ofl_tl a, ← ofl_tl b, h]
theorem tl_length (s : ByteArray) : (tl s).length = s.size := by unfold tl; rw [Array.length_toList]; rfl
theorem ofl_size (l : List UInt8) : (ofl l).size = l.length := by simp [ofl, ByteArray.size]
theorem tl_extract (s : ByteArray) (a b : Nat) : tl (s.extract a b) = ((tl s).drop a).take (b - a) := by
  simp [tl, ByteArray.data_extract, List.drop_take]
theorem tl_append (a b : ByteArray) : tl (a ++ b) = tl a ++ tl b := by simp [tl, ByteArray.data_append]
theorem bt_nat (s : ByteArray) (i : Nat) : bt s (i : Int) = match (tl s)[i]? with | some c => (c.toNat : Int) | none => 0 := by
  unfold bt
  by_cases h : i < s.size
  · have h2 : i < (tl s).length := by rw [tl_length]; exact h
    rw [dif_pos (by simpa using h), List.getElem?_eq_getElem h2]
    rfl
  · have h2 : ¬ i < (tl s).length := by rw [tl_length]; exact h
    rw [dif_neg (by simpa using h), List.getElem?_eq_none (by omega)]
theorem bt_of {s : ByteArray} {i : Nat} {c : UInt8} (h : (tl s)[i]? = some c) : bt s (i : Int) = (c.toNat : Int) := by rw [bt_nat, h]
theorem get_lt {s : ByteArray} {i : Nat} (h : i < s.size) : ∃ c, (tl s)[i]? = some c := ⟨_, List.getElem?_eq_getElem (by rw [tl_length]; exact h)⟩
theorem drop_of {l : List UInt8} {i : Nat} {c : UInt8} (h : l[i]? = some c) : l.drop i = c :: l.drop (i + 1) := by
  obtain ⟨hlt, rfl⟩ := List.getElem?_eq_some_iff.1 h
  exact List.drop_eq_getElem_cons hlt
theorem wrap_small {x : Int} (h0 : -9223372036854775808 ≤ x) (h1 : x ≤ 9223372036854775807) : wrap64 x = x := by unfold wrap64; omega
theorem u8_int {c : UInt8} {n : Nat} (h : n < 256) : (c.toNat : Int) = (n : Int) ↔ c = UInt8.ofNat n := by
  constructor
  · intro e
    have e2 : c.toNat = n := by omega
    rw [← e2]; simp
  · rintro rfl
    simp [Nat.mod_eq_of_lt h]
/-- Is an octet a blank or a tab? -/
def blk (c : UInt8) : Bool := c == 32 || c == 9
theorem blk_int (c : UInt8) : blk c = (decide ((c.toNat : Int) = 32) || decide ((c.toNat : Int) = 9)) := by
  unfold blk
  have h1 : (c == 32) = decide ((c.toNat : Int) = 32) := by
    rw [Bool.eq_iff_iff]; simp only [beq_iff_eq, decide_eq_true_eq]
    exact (u8_int (c := c) (n := 32) (by omega)).symm
  have h2 : (c == 9) = decide ((c.toNat : Int) = 9) := by
    rw [Bool.eq_iff_iff]; simp only [beq_iff_eq, decide_eq_true_eq]
    exact (u8_int (c := c) (n := 9) (by omega)).symm
  rw [h1, h2]
/-- Blanks and tabs taken off the end. -/
def trimR (l : List UInt8) : List UInt8 := (l.reverse.dropWhile blk).reverse
def trimL (l : List UInt8) : List UInt8 := trimR (l.dropWhile blk)
def trimB (s : ByteArray) : ByteArray := ofl (trimL (tl s))
theorem trimR_nil : trimR [] = [] := rfl
theorem trimR_snoc (l : List UInt8) (c : UInt8) : trimR (l ++ [c]) = if blk c = true then trimR l else l ++ [c] := by
  unfold trimR
  rw [List.reverse_append, List.reverse_singleton, List.singleton_append, List.dropWhile_cons]
  split
  · rfl
  · simp
theorem trimR_length (l : List UInt8) : (trimR l).length ≤ l.length := by
  unfold trimR
  rw [List.length_reverse]
  have := (List.dropWhile_sublist (l := l.reverse) (p := blk)).length_le
  simpa using this
theorem trimL_length (l : List UInt8) : (trimL l).length ≤ l.length := by
  unfold trimL
  exact Nat.le_trans (trimR_length _) (List.dropWhile_sublist _).length_le
theorem trimB_size (s : ByteArray) : (trimB s).size ≤ s.size := by
  unfold trimB
  rw [ofl_size, ← tl_length]
  exact trimL_length _
end Go.Proofs.Ytjnhghplfdiijaa.Q

namespace Go.Proofs.Ytjnhghplfdiijaa.Q
open Go.RowKit Go.Proofs.YtjnhghplfdiijaaW.PrintWords Go.Proofs.YtjnhghplfdiijaaW.PrintLast Go.Proofs.YtjnhghplfdiijaaW.PrintMore
attribute [local go_sem] max2_int min2_int max_two min_two max_three min_three max_four min_four
set_option linter.unusedVariables false
set_option linter.unusedSimpArgs false
def octet_blank.f (a0 : Int) : Option (Bool) := if a0 = 32 then (some true) else (some (a0 == 9))
set_option maxHeartbeats 8000000 in
set_option maxRecDepth 100000 in
theorem octet_blank.calls (a0 : Int) (r : Bool) (w : World) (h : octet_blank.f a0 = some r) :
    Calls Try.prog 165 #[.int .u8 a0] w fun e w' => e = .returned (.bool r) ∧ Drawn0 w w' := by
  have H : (if a0 = 32 then (some true) else (some (a0 == 9))) = some r := h
  clear h
  by_cases c2 : a0 = 32
  · rw [if_pos c2] at H
    have c2b0 : (a0 == 32) = true := beq_iff_eq.mpr c2
    have c2b1 : (a0 != 32) = false := bne_eq_false_iff_eq.mpr c2
    clear c2
    obtain rfl := Option.some.inj H
    go_enter Try.func165, Try.ntmps165
    go_wp2
    go_ret
    exact ⟨by first | rfl | (simp; done) | (simp [*]; done), by repeat (first | exact Drawn0.refl _ | apply Drawn0.step)⟩
  · rw [if_neg c2] at H
    have c2b0 : (a0 == 32) = false := beq_eq_false_iff_ne.mpr c2
    have c2b1 : (a0 != 32) = true := bne_iff_ne.mpr c2
    obtain rfl := Option.some.inj H
    go_enter Try.func165, Try.ntmps165
    go_wp2
    go_ret
    exact ⟨by first | rfl | (simp; done) | (simp [*]; done), by repeat (first | exact Drawn0.refl _ | apply Drawn0.step)⟩
end Go.Proofs.Ytjnhghplfdiijaa.Q

namespace Go.Proofs.Ytjnhghplfdiijaa.Q
open Go.RowKit Go.Proofs.YtjnhghplfdiijaaW.PrintWords Go.Proofs.YtjnhghplfdiijaaW.PrintLast Go.Proofs.YtjnhghplfdiijaaW.PrintMore
attribute [local go_sem] max2_int min2_int max_two min_two max_three min_three max_four min_four
set_option linter.unusedVariables false
set_option linter.unusedSimpArgs false
mutual
def octet_Trim.j1 : Nat → ByteArray → Int → Int → Option (ByteArray)
  | 0, _, _, _ => none
  | k + 1, x0, x3, x4 => octet_Trim.l1 k x0 x3 x4
def octet_Trim.l1 : Nat → ByteArray → Int → Int → Option (ByteArray)
  | 0, _, _, _ => none
  | k + 1, x0, x3, x4 => if x3 < x4 then (if 0 ≤ (wrap64 (x4 - 1)) then (if (wrap64 (x4 - 1)) < (x0.size : Int) then ((octet_blank.f (bt x0 (wrap64 (x4 - 1)))).bind fun t102 => (if t102 = true then (octet_Trim.l1 k x0 x3 (wrap64 (x4 - 1))) else (if 0 ≤ x3 then (if x3 ≤ x4 then (if x4 ≤ (x0.size : Int) then (some (x0.extract (x3 : Int).toNat (x4 : Int).toNat)) else (none)) else (none)) else (none)))) else (none)) else (none)) else (if 0 ≤ x3 then (if x3 ≤ x4 then (if x4 ≤ (x0.size : Int) then (some (x0.extract (x3 : Int).toNat (x4 : Int).toNat)) else (none)) else (none)) else (none))
def octet_Trim.l0 : Nat → ByteArray → Int → Int → Option (ByteArray)
  | 0, _, _, _ => none
  | k + 1, x0, x3, x4 => if x3 < x4 then (if 0 ≤ x3 then (if x3 < (x0.size : Int) then ((octet_blank.f (bt x0 x3)).bind fun t101 => (if t101 = true then (octet_Trim.l0 k x0 (wrap64 (x3 + 1)) x4) else (octet_Trim.j1 k x0 x3 x4))) else (none)) else (none)) else (octet_Trim.j1 k x0 x3 x4)
end
def octet_Trim.f (k : Nat) (a0 : ByteArray) : Option (ByteArray) := octet_Trim.l0 k a0 0 (a0.size : Int)
set_option maxHeartbeats 8000000 in
set_option maxRecDepth 100000 in
theorem octet_Trim.calls (k : Nat) (a0 : ByteArray) (r : ByteArray) (w : World) (h : octet_Trim.f k a0 = some r) :
    Calls Try.prog 119 #[.string a0] w fun e w' => e = .returned (.string r) ∧ Drawn0 w w' := by
  have H : (octet_Trim.l0 k a0 0 (a0.size : Int)) = some r := h
  clear h
  have HC2 := Aside0.mk H
  clear H
  go_enter Try.func119, Try.ntmps119
  go_upto_block 0 with (fail)
  go_cut [3] (fun v3 wc => ∃ (kq : Nat) (x3_1 : Int), v3 = .int .i64 x3_1 ∧ Aside0 (octet_Trim.j1 kq a0 x3_1 (a0.size : Int) = some r) ∧ Aside0 (kq ≤ k) ∧ Drawn0 w wc)
  case first =>
    have H := HC2.out
    clear HC2
    have H' := Aside0.mk H
    clear H
    go_wp2
    go_loopg [3] k (fun kq v3 w' => ∃ (x3_1 : Int), v3 = .int .i64 x3_1 ∧ Aside0 (octet_Trim.l0 kq a0 x3_1 (a0.size : Int) = some r) ∧ Aside0 (kq ≤ k) ∧ Drawn0 w w')
    case atStart => exact ⟨(0), (by first | rfl | (simp; done) | (simp [*]; done)), H', ⟨Nat.le_refl _⟩, by repeat (first | exact Drawn0.refl _ | apply Drawn0.step)⟩
    case round =>
      clear H'
      try clear c1
      try clear p2
      obtain ⟨x3_1, rfl, HA, HK1, ⟨m1, rfl⟩⟩ := hrel
      cases gk with
      | zero => exact absurd HA.out (by simp [octet_Trim.l0])
      | succ k1 =>
        have H := HA.out
        clear HA
        simp only [octet_Trim.l0] at H
        by_cases c3 : x3_1 < (a0.size : Int)
        · rw [if_pos c3] at H
          have c3b0 : decide (x3_1 < (a0.size : Int)) = true := decide_eq_true c3
          clear c3
          (first | rw [c3b0] | (simp only [i64_w, i32_w]; rw [c3b0]) | skip)
          by_cases c4 : 0 ≤ x3_1
          · rw [if_pos c4] at H
            have c4b0 : decide (0 ≤ x3_1) = true := decide_eq_true c4
            clear c4
            by_cases c5 : x3_1 < (a0.size : Int)
            · rw [if_pos c5] at H
              have c5b0 : decide (x3_1 < (a0.size : Int)) = true := decide_eq_true c5
              clear c5
              replace H := Option.bind_eq_some_iff.mp H
              obtain ⟨t101, A70, H⟩ := H
              (try dsimp only at H)
              have A7 := Aside0.mk A70
              clear A70
              by_cases c8 : t101 = true
              · subst c8
                have H1 : (octet_Trim.l0 k1 a0 (wrap64 (x3_1 + 1)) (a0.size : Int)) = some r := by rw [if_pos rfl] at H; exact H
                clear H
                have H := H1
                clear H1
                have H' := Aside0.mk H
                clear H
                have p6 : 0 ≤ (x3_1 : Int) := of_decide_eq_true (by first | (with_reducible assumption) | assumption)
                have q6 : x3_1 < (a0.size : Int) := of_decide_eq_true (by first | (with_reducible assumption) | assumption)
                have hx6 := bt_at a0 x3_1
                replace p6 := eq_true p6
                replace q6 := eq_true q6
                go_wp2_with (first | (go_at_call 165; (with_reducible refine (octet_blank.calls (bt a0 x3_1) true _ A7.out).mono ?_); rintro e w' ⟨rfl, ⟨nd, rfl⟩⟩))
                go_roundg k1
                case measure => have := HK1.out; omega
                case rel => exact ⟨(wrap64 (x3_1 + 1)), (by first | rfl | (simp; done) | (simp [*]; done)), H', ⟨by have := HK1.out; omega⟩, by repeat (first | exact Drawn0.refl _ | apply Drawn0.step)⟩
              · replace c8 := Bool.eq_false_iff.mpr c8
                subst c8
                have H1 : (octet_Trim.j1 k1 a0 x3_1 (a0.size : Int)) = some r := by rw [if_neg (show ¬ (false = true) by decide)] at H; exact H
                clear H
                have H := H1
                clear H1
                have H' := Aside0.mk H
                clear H
                have p6 : 0 ≤ (x3_1 : Int) := of_decide_eq_true (by first | (with_reducible assumption) | assumption)
                have q6 : x3_1 < (a0.size : Int) := of_decide_eq_true (by first | (with_reducible assumption) | assumption)
                have hx6 := bt_at a0 x3_1
                replace p6 := eq_true p6
                replace q6 := eq_true q6
                go_wp2_with (first | (go_at_call 165; (with_reducible refine (octet_blank.calls (bt a0 x3_1) false _ A7.out).mono ?_); rintro e w' ⟨rfl, ⟨nd, rfl⟩⟩))
                go_meet
                case rel => exact ⟨_, (x3_1), (by first | rfl | (simp; done) | (simp [*]; done)), H', ⟨by have := HK1.out; first | omega | exact Nat.le_refl _⟩, by repeat (first | exact Drawn0.refl _ | apply Drawn0.step)⟩
            · rw [if_neg c5] at H
              exact absurd H (by simp)
          · rw [if_neg c4] at H
            exact absurd H (by simp)
        · rw [if_neg c3] at H
          have c3b0 : decide (x3_1 < (a0.size : Int)) = false := decide_eq_false c3
          clear c3
          (first | rw [c3b0] | (simp only [i64_w, i32_w]; rw [c3b0]) | skip)
          have H' := Aside0.mk H
          clear H
          go_wp2
          go_meet
          case rel => exact ⟨_, (x3_1), (by first | rfl | (simp; done) | (simp [*]; done)), H', ⟨by have := HK1.out; first | omega | exact Nat.le_refl _⟩, by repeat (first | exact Drawn0.refl _ | apply Drawn0.step)⟩
  case rest =>
    clear HC2
    try clear c1
    try clear p2
    try clear c3
    try clear c3b0
    try clear c4
    try clear c4b0
    try clear c5
    try clear c5b0
    try clear p6
    try clear q6
    try clear hx6
    try clear c8
    try clear p2
    try clear p6
    try clear q6
    obtain ⟨kq, x3_1, rfl, HA, HJ1, ⟨mc1, rfl⟩⟩ := hcut
    cases kq with
    | zero => exact absurd HA.out (by simp [octet_Trim.j1])
    | succ kj1 =>
      have H := HA.out
      clear HA
      simp only [octet_Trim.j1] at H
      have H' := Aside0.mk H
      clear H
      go_wp2
      go_loopg [4] kj1 (fun kq v4 w' => ∃ (x4_2 : Int), v4 = .int .i64 x4_2 ∧ Aside0 (octet_Trim.l1 kq a0 x3_1 x4_2 = some r) ∧ Aside0 (kq ≤ kj1) ∧ Drawn0 w w')
      case atStart => exact ⟨((a0.size : Int)), (by first | rfl | (simp; done) | (simp [*]; done)), H', ⟨Nat.le_refl _⟩, by repeat (first | exact Drawn0.refl _ | apply Drawn0.step)⟩
      case round =>
        clear H'
        try clear c1
        try clear p2
        try clear c3
        try clear c3b0
        try clear c4
        try clear c4b0
        try clear c5
        try clear c5b0
        try clear p6
        try clear q6
        try clear hx6
        try clear c8
        try clear p2
        try clear p6
        try clear q6
        obtain ⟨x4_2, rfl, HA, HK2, ⟨m2, rfl⟩⟩ := hrel
        cases gk with
        | zero => exact absurd HA.out (by simp [octet_Trim.l1])
        | succ k2 =>
          have H := HA.out
          clear HA
          simp only [octet_Trim.l1] at H
          by_cases c9 : x3_1 < x4_2
          · rw [if_pos c9] at H
            have c9b0 : decide (x3_1 < x4_2) = true := decide_eq_true c9
            clear c9
            obtain ⟨ji10, hji10⟩ : ∃ j_ : Int, (wrap64 (x4_2 - 1)) = j_ := ⟨_, rfl⟩
            replace H : (if 0 ≤ (ji10) then (if (ji10) < (a0.size : Int) then ((octet_blank.f (bt a0 (ji10))).bind fun t102 => (if t102 = true then (octet_Trim.l1 k2 a0 x3_1 ji10) else (if 0 ≤ x3_1 then (if x3_1 ≤ x4_2 then (if x4_2 ≤ (a0.size : Int) then (some (a0.extract (x3_1 : Int).toNat (x4_2 : Int).toNat)) else (none)) else (none)) else (none)))) else (none)) else (none)) = some r := by first | (rw [hji10] at H; exact H) | (simp only [hji10] at H ⊢; exact H)
            have hji10w : (IntKind.i64.wrap (x4_2 - 1)) = ji10 := (i64_w _).trans hji10
            by_cases c11 : 0 ≤ (ji10)
            · rw [if_pos c11] at H
              have c11b0 : decide (0 ≤ (ji10)) = true := decide_eq_true c11
              clear c11
              by_cases c12 : (ji10) < (a0.size : Int)
              · rw [if_pos c12] at H
                have c12b0 : decide ((ji10) < (a0.size : Int)) = true := decide_eq_true c12
                clear c12
                replace H := Option.bind_eq_some_iff.mp H
                obtain ⟨t102, A140, H⟩ := H
                (try dsimp only at H)
                have A14 := Aside0.mk A140
                clear A140
                by_cases c15 : t102 = true
                · subst c15
                  have H1 : (octet_Trim.l1 k2 a0 x3_1 ji10) = some r := by rw [if_pos rfl] at H; exact H
                  clear H
                  have H := H1
                  clear H1
                  have H' := Aside0.mk H
                  clear H
                  have p13 : 0 ≤ ((ji10) : Int) := of_decide_eq_true (by first | (with_reducible assumption) | assumption)
                  have q13 : (ji10) < (a0.size : Int) := of_decide_eq_true (by first | (with_reducible assumption) | assumption)
                  have hx13 := bt_at a0 (ji10)
                  replace p13 := eq_true p13
                  replace q13 := eq_true q13
                  go_wp2_with (first | (go_at_call 165; (with_reducible refine (octet_blank.calls (bt a0 (ji10)) true _ A14.out).mono ?_); rintro e w' ⟨rfl, ⟨nd, rfl⟩⟩))
                  go_roundg k2
                  case measure => have := HJ1.out; have := HK2.out; omega
                  case rel => exact ⟨(ji10), (by first | rfl | (simp; done) | (simp only [← hji10] <;> (first | rfl | simp)) | (simp [*]; done)), H', ⟨by have := HJ1.out; have := HK2.out; omega⟩, by repeat (first | exact Drawn0.refl _ | apply Drawn0.step)⟩
                · replace c15 := Bool.eq_false_iff.mpr c15
                  subst c15
                  have H1 : (if 0 ≤ x3_1 then (if x3_1 ≤ x4_2 then (if x4_2 ≤ (a0.size : Int) then (some (a0.extract (x3_1 : Int).toNat (x4_2 : Int).toNat)) else (none)) else (none)) else (none)) = some r := by rw [if_neg (show ¬ (false = true) by decide)] at H; exact H
                  clear H
                  have H := H1
                  clear H1
                  by_cases c16 : 0 ≤ x3_1
                  · rw [if_pos c16] at H
                    have c16b0 := eq_true c16
                    have c16b1 : decide (0 ≤ x3_1) = true := decide_eq_true c16
                    clear c16
                    by_cases c17 : x3_1 ≤ x4_2
                    · rw [if_pos c17] at H
                      have c17b0 := eq_true c17
                      have c17b1 : decide (x3_1 ≤ x4_2) = true := decide_eq_true c17
                      clear c17
                      by_cases c18 : x4_2 ≤ (a0.size : Int)
                      · rw [if_pos c18] at H
                        have c18b0 := eq_true c18
                        have c18b1 : decide (x4_2 ≤ (a0.size : Int)) = true := decide_eq_true c18
                        clear c18
                        obtain rfl := Option.some.inj H
                        have p13 : 0 ≤ ((ji10) : Int) := of_decide_eq_true (by first | (with_reducible assumption) | assumption)
                        have q13 : (ji10) < (a0.size : Int) := of_decide_eq_true (by first | (with_reducible assumption) | assumption)
                        have hx13 := bt_at a0 (ji10)
                        replace p13 := eq_true p13
                        replace q13 := eq_true q13
                        go_wp2_with (first | (go_at_call 165; (with_reducible refine (octet_blank.calls (bt a0 (ji10)) false _ A14.out).mono ?_); rintro e w' ⟨rfl, ⟨nd, rfl⟩⟩))
                        go_ret
                        exact ⟨by first | rfl | (simp; done) | (simp only [← hji10] <;> (first | rfl | simp)) | (simp [*]; done), by repeat (first | exact Drawn0.refl _ | apply Drawn0.step)⟩
                      · rw [if_neg c18] at H
                        exact absurd H (by simp)
                    · rw [if_neg c17] at H
                      exact absurd H (by simp)
                  · rw [if_neg c16] at H
                    exact absurd H (by simp)
              · rw [if_neg c12] at H
                exact absurd H (by simp)
            · rw [if_neg c11] at H
              exact absurd H (by simp)
          · rw [if_neg c9] at H
            have c9b0 : decide (x3_1 < x4_2) = false := decide_eq_false c9
            clear c9
            by_cases c19 : 0 ≤ x3_1
            · rw [if_pos c19] at H
              have c19b0 := eq_true c19
              have c19b1 : decide (0 ≤ x3_1) = true := decide_eq_true c19
              clear c19
              by_cases c20 : x3_1 ≤ x4_2
              · rw [if_pos c20] at H
                have c20b0 := eq_true c20
                have c20b1 : decide (x3_1 ≤ x4_2) = true := decide_eq_true c20
                clear c20
                by_cases c21 : x4_2 ≤ (a0.size : Int)
                · rw [if_pos c21] at H
                  have c21b0 := eq_true c21
                  have c21b1 : decide (x4_2 ≤ (a0.size : Int)) = true := decide_eq_true c21
                  clear c21
                  obtain rfl := Option.some.inj H
                  go_wp2
                  go_ret
                  exact ⟨by first | rfl | (simp; done) | (simp [*]; done), by repeat (first | exact Drawn0.refl _ | apply Drawn0.step)⟩
                · rw [if_neg c21] at H
                  exact absurd H (by simp)
              · rw [if_neg c20] at H
                exact absurd H (by simp)
            · rw [if_neg c19] at H
              exact absurd H (by simp)
end Go.Proofs.Ytjnhghplfdiijaa.Q

namespace Go.Proofs.Ytjnhghplfdiijaa.Q
open Go.RowKit Go.Proofs.YtjnhghplfdiijaaW.PrintWords Go.Proofs.YtjnhghplfdiijaaW.PrintLast Go.Proofs.YtjnhghplfdiijaaW.PrintMore
set_option linter.unusedVariables false
set_option linter.unusedSimpArgs false
theorem octet_blank_of {s : ByteArray} {i : Nat} {c : UInt8} (h : (tl s)[i]? = some c) : octet_blank.f (bt s (i : Int)) = some (blk c) := by
  rw [bt_of h, blk_int]
  unfold octet_blank.f
  split
  · rename_i h; simp [h]
  · rename_i h
    rw [decide_eq_false h, Bool.false_or]
    congr 1
theorem trim_l1 (s : ByteArray) (hs : s.size ≤ 9223372036854775807) (a : Nat) : ∀ (d k : Nat), d < k → a + d ≤ s.size → octet_Trim.l1 k s (a : Int) ((a + d : Nat) : Int) = some (ofl (trimR (((tl s).drop a).take d)))
  | 0, k, hk, h2 => by
    obtain ⟨k, rfl⟩ : ∃ m, k = m + 1 := ⟨k - 1, by omega⟩
    simp only [octet_Trim.l1]
    rw [if_neg (by omega), if_pos (by omega), if_pos (by omega), if_pos (by omega)]
    congr 1
    apply tl_inj
    rw [tl_extract, tl_ofl]
    simp [trimR_nil]
  | d + 1, k, hk, h2 => by
    obtain ⟨k, rfl⟩ : ∃ m, k = m + 1 := ⟨k - 1, by omega⟩
    have hw : wrap64 (((a + (d + 1) : Nat) : Int) - 1) = ((a + d : Nat) : Int) := by rw [wrap_small (by omega) (by omega)]; omega
    obtain ⟨c, hc⟩ := get_lt (s := s) (i := a + d) (by omega)
    have ht : ((tl s).drop a).take (d + 1) = ((tl s).drop a).take d ++ [c] := by
      rw [List.take_add_one, List.getElem?_drop, hc]; rfl
    simp only [octet_Trim.l1]
    rw [if_pos (by omega), hw, if_pos (by omega), if_pos (by omega), octet_blank_of hc]
    simp only [Option.bind_some]
    rw [ht, trimR_snoc]
    split
    · exact trim_l1 s hs a d k (by omega) (by omega)
    · rw [if_pos (by omega), if_pos (by omega), if_pos (by omega)]
      congr 1
      apply tl_inj
      rw [tl_extract, tl_ofl, ← ht]
      congr 1
      omega
theorem trim_l0 (s : ByteArray) (hs : s.size ≤ 9223372036854775807) : ∀ (d k a : Nat), 2 * d + 3 < k → a + d = s.size → octet_Trim.l0 k s (a : Int) (s.size : Int) = some (ofl (trimL ((tl s).drop a)))
  | 0, k, a, hk, h2 => by
    obtain ⟨k, rfl⟩ : ∃ m, k = m + 1 := ⟨k - 1, by omega⟩
    obtain ⟨k, rfl⟩ : ∃ m, k = m + 1 := ⟨k - 1, by omega⟩
    simp only [octet_Trim.l0, octet_Trim.j1]
    rw [if_neg (by omega)]
    have := trim_l1 s hs a 0 k (by omega) (by omega)
    rw [show ((a + 0 : Nat) : Int) = (s.size : Int) by omega] at this
    rw [this, List.drop_eq_nil_of_le (by rw [tl_length]; omega)]
    simp [trimL]
  | d + 1, k, a, hk, h2 => by
    obtain ⟨k, rfl⟩ : ∃ m, k = m + 1 := ⟨k - 1, by omega⟩
    obtain ⟨c, hc⟩ := get_lt (s := s) (i := a) (by omega)
    have hw : wrap64 ((a : Int) + 1) = ((a + 1 : Nat) : Int) := by rw [wrap_small (by omega) (by omega)]; omega
    simp only [octet_Trim.l0]
    rw [if_pos (by omega), if_pos (by omega), if_pos (by omega), octet_blank_of hc]
    simp only [Option.bind_some]
    rw [drop_of hc]
    unfold trimL
    rw [List.dropWhile_cons]
    split
    · rw [hw]
      have := trim_l0 s hs d k (a + 1) (by omega) (by omega)
      unfold trimL at this
      exact this
    · obtain ⟨k, rfl⟩ : ∃ m, k = m + 1 := ⟨k - 1, by omega⟩
      simp only [octet_Trim.j1]
      have := trim_l1 s hs a (d + 1) k (by omega) (by omega)
      rw [h2] at this
      rw [this, ← drop_of hc, List.take_of_length_le (by rw [List.length_drop, tl_length]; omega)]
theorem trim_any (s : ByteArray) (hs : s.size ≤ 9223372036854775807) : ∃ k, octet_Trim.f k s = some (trimB s) := by
  refine ⟨2 * s.size + 4, ?_⟩
  unfold octet_Trim.f trimB
  exact trim_l0 s hs s.size _ 0 (by omega) (by omega)
end Go.Proofs.Ytjnhghplfdiijaa.Q

namespace Go.Proofs.Ytjnhghplfdiijaa.Q
open Go.RowKit Go.Proofs.YtjnhghplfdiijaaW.PrintWords Go.Proofs.YtjnhghplfdiijaaW.PrintLast Go.Proofs.YtjnhghplfdiijaaW.PrintMore
attribute [local go_sem] max2_int min2_int max_two min_two max_three min_three max_four min_four
set_option linter.unusedVariables false
set_option linter.unusedSimpArgs false
/-- A state of type 176 at block g of W; what its slices lead to came in by w0. -/
def IsS176 (w0 W : World) (g : Nat) (f0 : ByteArray) (f1 : Int) : Prop := W.heap[g]? = some (.cells #[.string f0, .int .i64 f1] 176 (0, 0)) ∧ w0.heap.size ≤ g
theorem IsS176.grown {w0 W : World} {g : Nat} {f0 : ByteArray} {f1 : Int} {W1 : World} {row : Option Nat} (h : IsS176 w0 W g f0 f1) (hw : W.grownBy W1 row) (hne : some g ≠ row) : IsS176 w0 W1 g f0 f1 := by
  obtain ⟨hb, hg⟩ := h
  exact ⟨blk_grown hb hw hne, hg⟩
theorem IsS176.kept {w0 W : World} {g : Nat} {f0 : ByteArray} {f1 : Int} {W1 : World} {S : Nat → Prop} (h : IsS176 w0 W g f0 f1) (hk : Kept W W1 S) (hne : ¬ S g) : IsS176 w0 W1 g f0 f1 := by
  obtain ⟨hb, hg⟩ := h
  exact ⟨blk_kept hb hk hne, hg⟩
theorem IsS176.below {w0 W : World} {g : Nat} {f0 : ByteArray} {f1 : Int} {W1 : World} (h : IsS176 w0 W g f0 f1) (hw : Below W.heap.size W W1) : IsS176 w0 W1 g f0 f1 := h.grown (grown_of_below hw none) (by simp)
theorem IsS176.alloc {w0 W : World} {g : Nat} {f0 : ByteArray} {f1 : Int} (h : IsS176 w0 W g f0 f1) (o : Obj) : IsS176 w0 (W.alloc o) g f0 f1 := h.below (below_alloc (Below.refl _ _) o)
theorem IsS176.drewN {w0 W : World} {g : Nat} {f0 : ByteArray} {f1 : Int} (h : IsS176 w0 W g f0 f1) (m : Nat) : IsS176 w0 (W.drewN m) g f0 f1 := h
theorem IsS176.drew {w0 W : World} {g : Nat} {f0 : ByteArray} {f1 : Int} (h : IsS176 w0 W g f0 f1) : IsS176 w0 W.drew g f0 f1 := h
theorem IsS176.apart {w0 W : World} {g : Nat} {f0 : ByteArray} {f1 : Int} {α : Type} {d : Kd α} {e : Nat} {base : Nat} {ok : Nat → Prop} {v : Value} {xs : List α} (h : IsS176 w0 W g f0 f1) (ho : d.R e W base ok v xs) (ht : ∀ q, q ∈ e :: d.E → q ≠ 176) : d.R e W base (fun k => ok k ∧ k ≠ g) v xs := by
  obtain ⟨hb, hg⟩ := h
  exact Kd.R_types ho hb ht
theorem IsS176.own_ne {w0 W : World} {g : Nat} {f0 : ByteArray} {f1 : Int} {α : Type} {d : Kd α} {e : Nat} {base : Nat} {ok : Nat → Prop} {v : Value} {xs : List α} (h : IsS176 w0 W g f0 f1) (ho : d.R e W base ok v xs) (ht : e ≠ 176) : some g ≠ v.ownBlock := by
  obtain ⟨hb, hg⟩ := h
  exact Kd.R_ne ho hb ht
theorem IsS176.lt {w0 W : World} {g : Nat} {f0 : ByteArray} {f1 : Int} (h : IsS176 w0 W g f0 f1) : g < W.heap.size := by
  obtain ⟨hb, hg⟩ := h
  exact blk_lt hb
theorem IsS176.ge {w0 W : World} {g : Nat} {f0 : ByteArray} {f1 : Int} (h : IsS176 w0 W g f0 f1) : w0.heap.size ≤ g := by
  obtain ⟨hb, hg⟩ := h
  exact hg
theorem IsS176.ne_blk {w0 W : World} {g : Nat} {f0 : ByteArray} {f1 : Int} {a : Nat} {cs : Array Value} {t : TypeId} {fr : Nat × Nat} (h : IsS176 w0 W g f0 f1) (hb2 : W.heap[a]? = some (.cells cs t fr)) (ht : t ≠ 176) : g ≠ a := by
  obtain ⟨hb, hg⟩ := h
  rintro rfl
  rw [hb] at hb2
  injection hb2 with hb2
  injection hb2 with _ ht2
  exact ht ht2.symm
theorem IsS176.far {w0 W : World} {g : Nat} {f0 : ByteArray} {f1 : Int} {p : Addr} (h : IsS176 w0 W g f0 f1) (hne : g ≠ p.block) (u : Value) : IsS176 w0 (W.setCell p u) g f0 f1 := by
  obtain ⟨hb, hg⟩ := h
  exact ⟨blk_far hb hne u, hg⟩
theorem IsS176.set_0 {w0 W : World} {g : Nat} {f0 : ByteArray} {f1 : Int} (h : IsS176 w0 W g f0 f1) (x : ByteArray) : IsS176 w0 (W.setCell ⟨g, 0, none⟩ (.string x)) g x f1 := by
  obtain ⟨hb, hg⟩ := h
  exact ⟨by simpa using blk_set hb 0 (.string x), hg⟩
theorem IsS176.set_1 {w0 W : World} {g : Nat} {f0 : ByteArray} {f1 : Int} (h : IsS176 w0 W g f0 f1) (x : Int) : IsS176 w0 (W.setCell ⟨g, 1, none⟩ (.int .i64 x)) g f0 x := by
  obtain ⟨hb, hg⟩ := h
  exact ⟨by simpa using blk_set hb 1 (.int .i64 x), hg⟩
end Go.Proofs.Ytjnhghplfdiijaa.Q

namespace Go.Proofs.Ytjnhghplfdiijaa.Q
open Go.RowKit Go.Proofs.YtjnhghplfdiijaaW.PrintWords Go.Proofs.YtjnhghplfdiijaaW.PrintLast Go.Proofs.YtjnhghplfdiijaaW.PrintMore Go.Lib Go.Shelf
set_option linter.unusedVariables false
set_option linter.unusedSimpArgs false
/-- Is each octet of a text so? -/
def all8 (q : Int → Bool) (s : ByteArray) : Bool := s.data.toList.all fun c => q (c.toNat : Int)
theorem all8_iff (q : Int → Bool) (s : ByteArray) : all8 q s = true ↔ ∀ i : Nat, i < s.size → q (bt s (i : Int)) = true := by
  unfold all8
  rw [List.all_eq_true]
  constructor
  · intro h i hi
    have e : bt s (i : Int) = ((s[i]'hi).toNat : Int) := by simp [bt, hi]
    rw [e]
    exact h _ (by have : s[i]'hi = s.data.toList[i]'(by simpa using hi) := rfl
                  rw [this]; exact List.getElem_mem _)
  · intro h c hc
    obtain ⟨i, hi, rfl⟩ := List.getElem_of_mem hc
    have hi' : i < s.size := by simpa using hi
    have e : bt s (i : Int) = ((s[i]'hi').toNat : Int) := by simp [bt, hi']
    have := h i hi'
    rw [e] at this
    exact this
theorem all8_false (q : Int → Bool) (s : ByteArray) (i : Nat) (hi : i < s.size) (h : q (bt s (i : Int)) = false) : all8 q s = false := by
  cases e : all8 q s with
  | false => rfl
  | true => rw [(all8_iff q s).1 e i hi] at h; cases h
theorem getb_lt (s : ByteArray) (i : Nat) (hi : i < s.size) : (s.get! i).toNat = (bt s (i : Int)).toNat := by
  have : s.get! i = s[i]'hi := by simp [ByteArray.get!, getElem!_pos, hi]; rfl
  rw [this]; simp [bt, hi]
/-- What a rune above 127 takes is octets above 127. -/
theorem decode_wide (s : ByteArray) (pos : Nat) (h : 128 ≤ (s.get! pos).toNat) : ∀ k, k < (Utf8.decode s pos).2 → 128 ≤ (s.get! (pos + k)).toNat := by
  have h0 : 128 ≤ (s.get! (pos + 0)).toNat := h
  intro k hk
  have hn : ¬ (s.get! (pos + 0)).toNat < 128 := by omega
  simp only [Utf8.decode, hn, if_false] at hk
  repeat' split at hk
  all_goals (try simp only [Bool.and_eq_true, decide_eq_true_eq, beq_iff_eq] at *)
  all_goals rcases k with _ | _ | _ | _ | k
  all_goals (try simp only [Nat.zero_add, Nat.reduceAdd] at hk ⊢)
  all_goals first | exact h0 | omega
theorem decode_fits (s : ByteArray) (pos : Nat) (hp : pos < s.size) : pos + (Utf8.decode s pos).2 ≤ s.size := by
  simp only [Utf8.decode]
  repeat' split
  all_goals (try simp only [Bool.and_eq_true, decide_eq_true_eq, beq_iff_eq] at *)
  all_goals omega
/-- The predicate on octets that a predicate on runes comes to, one above 127. -/
def byteP (p : Int → Bool) (hi : Bool) (b : Int) : Bool := if b < 128 then p b else hi
set_option maxHeartbeats 1000000 in
/-- octet.all, at whatever predicate that answers 'hi' at all runes above 127. -/
theorem octet_all_any (g : Nat) (lb : Array Value) (eg : ∀ args w, (callFunc g args).run Try.prog w = .ok (.enter g args) w) (p : Int → Bool) (hi : Bool) (hp : ∀ r, 128 ≤ r → p r = hi) (s : ByteArray) (w : World)
    (hcall : ∀ (r : Int) (W : World), 0 ≤ r → r ≤ 2147483647 → Below w.heap.size w W → Calls Try.prog g (#[.int .i32 r] ++ lb) W fun e w' => e = .returned (.bool (p r)) ∧ Below W.heap.size W w') :
    Calls Try.prog 141 #[.string s, .func (.func g) #[] lb] w fun e w' => e = .returned (.bool (all8 (byteP p hi) s)) ∧ Below w.heap.size w w' := by
  have HHI := Aside0.mk hp
  have HC0 := Aside0.mk hcall
  clear hp hcall
  go_enter Try.func141, Try.ntmps141
  go_wp2
  go_loopg [6, 9, 10] s.size (fun gg _ _ _ wr => ∃ pos : Nat, pos ≤ s.size ∧ s.size - pos ≤ gg ∧ Aside0 (wr.heap[w.heap.size]? = some (.stringIter s pos)) ∧ Below w.heap.size w wr ∧ Aside0 (∀ j, j < pos → byteP p hi (bt s (j : Int)) = true))
  case atStart => exact ⟨0, Nat.zero_le _, by omega, ⟨World.iter_heap w s 0⟩, by unfold World.iter; exact (Below.refl _ _).alloc (Nat.le_refl _) _, ⟨fun j hj => by omega⟩⟩
  case round =>
    obtain ⟨pos, hpos, hgg, HI, HB, HA⟩ := hrel
    by_cases hlt : pos < s.size
    · have hnx : ∀ ty, (Instr.next (.pointer (some ⟨w.heap.size, 0, none⟩)) true ty).run Try.prog wr = _ := fun ty => run_next_any_at wr w.heap.size s pos ty HI.out hlt
      have hbi : Below w.heap.size w (wr.iterAt w.heap.size s (pos + (Utf8.decode s pos).2)) := below_iterAt HB (Nat.le_refl _) s _
      have hc1 := HC0.out ((Utf8.decode s pos).1 : Int) (wr.iterAt w.heap.size s (pos + (Utf8.decode s pos).2)) (by omega) (by have := decode_le s pos; omega) hbi
      have hit : (wr.iterAt w.heap.size s (pos + (Utf8.decode s pos).2)).heap[w.heap.size]? = some (.stringIter s (pos + (Utf8.decode s pos).2)) := iterAt_heap wr w.heap.size s pos _ HI.out
      have HIT := Aside0.mk hit
      have HBI := Aside0.mk hbi
      have HC := Aside0.mk hc1
      clear hit hbi hc1
      -- what this rune says of the octets that it takes
      have hbyte : Aside0 (p ((Utf8.decode s pos).1 : Int) = true → ∀ j, j < pos + (Utf8.decode s pos).2 → byteP p hi (bt s (j : Int)) = true) := ⟨fun hpr j hj => by
        by_cases hj0 : j < pos
        · exact HA.out j hj0
        by_cases ha : (s.get! pos).toNat < 128
        · have hd := decode_ascii s pos hlt (by have := getb_lt s pos hlt; simp [bt, hlt] at this; omega)
          rw [hd] at hj hpr
          obtain rfl : j = pos := by simp at hj; omega
          have e : bt s (j : Int) = ((s[j]'hlt).toNat : Int) := by simp [bt, hlt]
          have e2 := getb_lt s j hlt
          rw [e] at e2 ⊢
          unfold byteP
          rw [if_pos (by simp at e2; omega)]
          exact hpr
        · have hd := decode_high s pos hlt (by have := getb_lt s pos hlt; simp [bt, hlt] at this; omega)
          have hf := decode_fits s pos hlt
          have hw := decode_wide s pos (by omega) (j - pos) (by omega)
          rw [show pos + (j - pos) = j by omega] at hw
          have hjs : j < s.size := by omega
          have e2 := getb_lt s j hjs
          have hr := bt_range s (j : Int)
          unfold byteP
          rw [if_neg (by omega), ← HHI.out _ (show (128 : Int) ≤ ((Utf8.decode s pos).1 : Int) by omega)]
          exact hpr⟩
      have hbad : Aside0 (p ((Utf8.decode s pos).1 : Int) = false → byteP p hi (bt s (pos : Int)) = false) := ⟨fun hpr => by
        by_cases ha : (s.get! pos).toNat < 128
        · have hd := decode_ascii s pos hlt (by have := getb_lt s pos hlt; simp [bt, hlt] at this; omega)
          rw [hd] at hpr
          have e : bt s (pos : Int) = ((s[pos]'hlt).toNat : Int) := by simp [bt, hlt]
          have e2 := getb_lt s pos hlt
          rw [e] at e2 ⊢
          unfold byteP
          rw [if_pos (by simp at e2; omega)]
          exact hpr
        · have hd := decode_high s pos hlt (by have := getb_lt s pos hlt; simp [bt, hlt] at this; omega)
          have e2 := getb_lt s pos hlt
          unfold byteP
          rw [if_neg (by omega), ← HHI.out _ (show (128 : Int) ≤ ((Utf8.decode s pos).1 : Int) by omega)]
          exact hpr⟩
      have hwd : Aside0 (1 ≤ (Utf8.decode s pos).2 ∧ pos + (Utf8.decode s pos).2 ≤ s.size) := ⟨by
        refine ⟨?_, decode_fits s pos hlt⟩
        by_cases ha : (s.get! pos).toNat < 128
        · have hd := decode_ascii s pos hlt (by have := getb_lt s pos hlt; simp [bt, hlt] at this; omega)
          rw [hd]; exact Nat.le_refl _
        · exact (decode_high s pos hlt (by have := getb_lt s pos hlt; simp [bt, hlt] at this; omega)).2⟩
      obtain ⟨W1, hW⟩ : ∃ W1, wr.iterAt w.heap.size s (pos + (Utf8.decode s pos).2) = W1 := ⟨_, rfl⟩
      obtain ⟨R, hR⟩ : ∃ R : Nat, (Utf8.decode s pos).1 = R := ⟨_, rfl⟩
      obtain ⟨D, hD⟩ : ∃ D : Nat, (Utf8.decode s pos).2 = D := ⟨_, rfl⟩
      rw [hW, hR] at hnx
      rw [hW, hD] at HIT
      rw [hW] at HBI
      rw [hW, hR] at HC
      rw [hR, hD] at hbyte
      rw [hR] at hbad
      rw [hD] at hwd
      clear hW hR hD HI HB
      cases hq : p (R : Int) with
      | true =>
        rw [hq] at HC hbyte hbad
        go_wp2_with fail
        refine HC.out.mono ?_
        rintro e w' ⟨rfl, hb⟩
        have HBX := Aside0.mk hb
        clear hb
        go_wp2
        go_roundg (gk - 1)
        case measure => have := hwd.out; omega
        case rel => 
          have := hwd.out
          exact ⟨_, this.2, by omega, ⟨(HBX.out.block _ (Array.getElem?_eq_some_iff.1 HIT.out).1).trans HIT.out⟩, HBI.out.trans (HBX.out.mono HBI.out.size), ⟨hbyte.out (by simp)⟩⟩
      | false =>
        rw [hq] at HC hbyte hbad
        go_wp2_with fail
        refine HC.out.mono ?_
        rintro e w' ⟨rfl, hb⟩
        have HBX := Aside0.mk hb
        clear hb
        go_wp2
        go_ret
        rw [all8_false _ s pos hlt (hbad.out (by simp))]
        exact ⟨rfl, HBI.out.trans (HBX.out.mono HBI.out.size)⟩
    · have hnx : ∀ ty, (Instr.next (.pointer (some ⟨w.heap.size, 0, none⟩)) true ty).run Try.prog wr = _ := fun ty => run_next_end_at wr w.heap.size s pos ty HI.out hlt
      go_wp2
      go_ret
      have e := (all8_iff (byteP p hi) s).2 (fun i hi' => HA.out i (by omega))
      rw [e]
      exact ⟨rfl, HB⟩
def marksB : ByteArray := ⟨#[33, 35, 36, 37, 38, 39, 42, 43, 45, 46, 94, 95, 96, 124, 126]⟩
/-- A rune that may stand in a token. -/
def tcharI (r : Int) : Bool := (decide (97 ≤ r) && decide (r ≤ 122)) || (decide (65 ≤ r) && decide (r ≤ 90)) || (decide (48 ≤ r) && decide (r ≤ 57)) || [33, 35, 36, 37, 38, 39, 42, 43, 45, 46, 94, 95, 96, 124, 126].contains r
theorem marks_at (pos : Nat) (h : pos < 15) : ∃ c : Nat, c < 128 ∧ bt marksB (pos : Int) = c ∧ Utf8.decode marksB pos = (c, 1) ∧ ([33, 35, 36, 37, 38, 39, 42, 43, 45, 46, 94, 95, 96, 124, 126] : List Int)[pos]? = some (c : Int) := by
  have : pos = 0 ∨ pos = 1 ∨ pos = 2 ∨ pos = 3 ∨ pos = 4 ∨ pos = 5 ∨ pos = 6 ∨ pos = 7 ∨ pos = 8 ∨ pos = 9 ∨ pos = 10 ∨ pos = 11 ∨ pos = 12 ∨ pos = 13 ∨ pos = 14 := by omega
  rcases this with rfl | rfl | rfl | rfl | rfl | rfl | rfl | rfl | rfl | rfl | rfl | rfl | rfl | rfl | rfl
  · exact ⟨33, by omega, by decide, by decide, by decide⟩
  · exact ⟨35, by omega, by decide, by decide, by decide⟩
  · exact ⟨36, by omega, by decide, by decide, by decide⟩
  · exact ⟨37, by omega, by decide, by decide, by decide⟩
  · exact ⟨38, by omega, by decide, by decide, by decide⟩
  · exact ⟨39, by omega, by decide, by decide, by decide⟩
  · exact ⟨42, by omega, by decide, by decide, by decide⟩
  · exact ⟨43, by omega, by decide, by decide, by decide⟩
  · exact ⟨45, by omega, by decide, by decide, by decide⟩
  · exact ⟨46, by omega, by decide, by decide, by decide⟩
  · exact ⟨94, by omega, by decide, by decide, by decide⟩
  · exact ⟨95, by omega, by decide, by decide, by decide⟩
  · exact ⟨96, by omega, by decide, by decide, by decide⟩
  · exact ⟨124, by omega, by decide, by decide, by decide⟩
  · exact ⟨126, by omega, by decide, by decide, by decide⟩
set_option maxHeartbeats 1000000 in
theorem octet_tchar_loop (r : Int) (w : World) (h1 : ¬ (97 ≤ r ∧ r ≤ 122)) (h2 : ¬ (65 ≤ r ∧ r ≤ 90)) (h3 : ¬ (48 ≤ r ∧ r ≤ 57)) :
    Calls Try.prog 142 #[.int .i32 r] w fun e w' => e = .returned (.bool (tcharI r)) ∧ Below w.heap.size w w' := by
  have HT : Aside0 (tcharI r = [33, 35, 36, 37, 38, 39, 42, 43, 45, 46, 94, 95, 96, 124, 126].contains r) := ⟨by
    have a1 : (decide (97 ≤ r) && decide (r ≤ 122)) = false := by simp; omega
    have a2 : (decide (65 ≤ r) && decide (r ≤ 90)) = false := by simp; omega
    have a3 : (decide (48 ≤ r) && decide (r ≤ 57)) = false := by simp; omega
    unfold tcharI
    rw [a1, a2, a3]; rfl⟩
  go_enter Try.func142, Try.ntmps142
  go_wp2
  all_goals
    go_loopg [2, 4, 25, 26, 27, 28, 29, 30] 15 (fun gg _ _ _ _ _ _ _ _ wr => ∃ pos : Nat, pos ≤ 15 ∧ 15 - pos ≤ gg ∧ Aside0 (wr = w.iter marksB pos) ∧ Aside0 (∀ (j : Nat) (c : Int), j < pos → ([33, 35, 36, 37, 38, 39, 42, 43, 45, 46, 94, 95, 96, 124, 126] : List Int)[j]? = some c → c ≠ r))
    case atStart => exact ⟨0, by omega, by omega, ⟨rfl⟩, ⟨fun j c hj => by omega⟩⟩
    case round =>
      obtain ⟨pos, hpos, hgg, HW, HA⟩ := hrel
      have e := HW.out
      subst e
      clear HW
      by_cases hlt : pos < 15
      · obtain ⟨c, hc1, hc2, hc3, hc4⟩ := marks_at pos hlt
        have hnx : ∀ ty, (Instr.next (.pointer (some ⟨w.heap.size, 0, none⟩)) true ty).run Try.prog (w.iter marksB pos) = .ok (.tuple #[.bool true, .int .i64 pos, .int .i32 c]) (w.iter marksB (pos + 1)) := fun ty => by
          have := run_next_any (P := Try.prog) w marksB pos ty hlt
          rw [hc3] at this
          exact this
        have H4 := Aside0.mk hc4
        clear hc2 hc3 hc4
        by_cases hr : (c : Int) = r
        · have hrb : (((c : Int)) == r) = true := by simpa using hr
          have HR := Aside0.mk hr
          clear hr
          go_wp2
          go_ret
          have e : tcharI r = true := by
            rw [HT.out, ← HR.out, List.contains_iff_mem]
            exact List.mem_of_getElem? H4.out
          rw [e]
          exact ⟨rfl, by unfold World.iter; exact (Below.refl _ _).alloc (Nat.le_refl _) _⟩
        · have hrb : (((c : Int)) == r) = false := by simpa using hr
          have HR := Aside0.mk hr
          clear hr
          go_wp2
          go_roundg (gk - 1)
          case measure => omega
          case rel =>
            refine ⟨pos + 1, by omega, by omega, ⟨rfl⟩, ⟨fun j d hj hd => ?_⟩⟩
            by_cases hjp : j = pos
            · subst hjp
              rw [H4.out] at hd
              have : (c : Int) = d := by simpa using hd
              rw [← this]
              exact HR.out
            · exact HA.out j d (by omega) hd
      · have hnx : ∀ ty, (Instr.next (.pointer (some ⟨w.heap.size, 0, none⟩)) true ty).run Try.prog (w.iter marksB pos) = _ := fun ty => run_next_end w marksB pos ty hlt
        go_wp2
        go_ret
        have e : tcharI r = false := by
          rw [HT.out]
          cases hcon : [33, 35, 36, 37, 38, 39, 42, 43, 45, 46, 94, 95, 96, 124, 126].contains r with
          | false => rfl
          | true =>
            rw [List.contains_iff_mem] at hcon
            obtain ⟨j, hj, hje⟩ := List.getElem_of_mem hcon
            exact absurd rfl (HA.out j r (by simp at hj; omega) (by rw [List.getElem?_eq_getElem hj, hje]))
        rw [e]
        exact ⟨rfl, by unfold World.iter; exact (Below.refl _ _).alloc (Nat.le_refl _) _⟩
def octet_tchar.f (a0 : Int) : Option Bool := some (tcharI a0)
theorem octet_tchar.calls (a0 : Int) (r : Bool) (w : World) (h : octet_tchar.f a0 = some r) :
    Calls Try.prog 142 #[.int .i32 a0] w fun e w' => e = .returned (.bool r) ∧ Below w.heap.size w w' := by
  obtain rfl := Option.some.inj h
  clear h
  by_cases h1 : 97 ≤ a0 ∧ a0 ≤ 122
  · obtain ⟨h1, h2⟩ := h1
    have e : tcharI a0 = true := by simp [tcharI, h1, h2]
    rw [e]
    clear e
    go_enter Try.func142, Try.ntmps142
    go_wp2
    go_ret
    exact ⟨rfl, Below.refl _ _⟩
  by_cases h2 : 65 ≤ a0 ∧ a0 ≤ 90
  · obtain ⟨h3, h4⟩ := h2
    have e : tcharI a0 = true := by simp [tcharI, h3, h4]
    rw [e]
    clear e
    go_enter Try.func142, Try.ntmps142
    go_wp2
    go_ret
    exact ⟨rfl, Below.refl _ _⟩
  by_cases h3 : 48 ≤ a0 ∧ a0 ≤ 57
  · obtain ⟨h4, h5⟩ := h3
    have e : tcharI a0 = true := by simp [tcharI, h4, h5]
    rw [e]
    clear e
    go_enter Try.func142, Try.ntmps142
    go_wp2
    go_ret
    exact ⟨rfl, Below.refl _ _⟩
  · exact octet_tchar_loop a0 w h1 h2 h3
def valueI (r : Int) : Bool := decide (r = 9) || (decide (32 ≤ r) && !decide (r = 127))
theorem valueI_high (r : Int) (h : 128 ≤ r) : valueI r = true := by simp [valueI]; omega
theorem octet_Value_pred (r : Int) (w : World) : Calls Try.prog 176 #[.int .i32 r] w fun e w' => e = .returned (.bool (valueI r)) ∧ Below w.heap.size w w' := by
  by_cases h1 : r = 9
  · have e : valueI r = true := by simp [valueI, h1]
    rw [e]
    subst h1
    go_enter Try.func176, Try.ntmps176
    go_wp2
    go_ret
    exact ⟨rfl, Below.refl _ _⟩
  by_cases h2 : 32 ≤ r
  · by_cases h3 : r = 127
    · have e : valueI r = false := by simp [valueI, h3]
      rw [e]
      subst h3
      go_enter Try.func176, Try.ntmps176
      go_wp2
      go_ret
      exact ⟨rfl, Below.refl _ _⟩
    · have e : valueI r = true := by simp [valueI, h1, h2, h3]
      rw [e]
      have e1 : (r == 9) = false := by simpa using h1
      have e2 : (r != 127) = true := by simpa using h3
      clear e h1 h3
      go_enter Try.func176, Try.ntmps176
      go_wp2
      go_ret
      exact ⟨rfl, Below.refl _ _⟩
  · have e : valueI r = false := by simp [valueI, h1, h2]
    rw [e]
    have e1 : (r == 9) = false := by simpa using h1
    clear e h1
    go_enter Try.func176, Try.ntmps176
    go_wp2
    go_ret
    exact ⟨rfl, Below.refl _ _⟩
def octet_Value.f (a0 : ByteArray) : Option Bool := some (all8 (byteP valueI true) a0)
theorem octet_Value.calls (a0 : ByteArray) (r : Bool) (w : World) (h : octet_Value.f a0 = some r) :
    Calls Try.prog 139 #[.string a0] w fun e w' => e = .returned (.bool r) ∧ Below w.heap.size w w' := by
  obtain rfl := Option.some.inj h
  clear h
  have HA := Aside0.mk (octet_all_any 176 #[] (enters_of Try.func176 (by kernel_rfl) rfl) valueI true valueI_high a0 w (fun r W _ _ _ => octet_Value_pred r W))
  go_enter Try.func139, Try.ntmps139
  go_wp2_with fail
  refine HA.out.mono ?_
  rintro e w' ⟨rfl, hb⟩
  have HB := Aside0.mk hb
  clear hb
  go_wp2
  go_ret
  exact ⟨rfl, HB.out⟩
end Go.Proofs.Ytjnhghplfdiijaa.Q

namespace Go.Proofs.Ytjnhghplfdiijaa.Q
open Go.RowKit Go.Proofs.YtjnhghplfdiijaaW.PrintWords Go.Proofs.YtjnhghplfdiijaaW.PrintLast Go.Proofs.YtjnhghplfdiijaaW.PrintMore Go.Lib Go.Shelf
set_option linter.unusedVariables false
set_option linter.unusedSimpArgs false
/-- What is left of a text behind a place, if the place lies in it. -/
def leftS (s : ByteArray) (at_ : Int) : ByteArray := s.extract at_.toNat s.size
def cursor_Cursor_Left.f (s : ByteArray) (at_ : Int) : Option (ByteArray × ByteArray × Int) := if 0 ≤ at_ then (if at_ ≤ (s.size : Int) then some (leftS s at_, s, at_) else none) else none
theorem cursor_Cursor_Left.drawn (g k : Nat) (s : ByteArray) (w : World) (c0 : w.cell? ⟨g, 0, none⟩ = some (.string s)) (c1 : w.cell? ⟨g, 1, none⟩ = some (.int .i64 k)) (hk : k ≤ s.size) :
    Calls Try.prog 175 #[.pointer (some ⟨g, 0, none⟩)] w fun e w' => e = .returned (.string (leftS s k)) ∧ ∃ n, w.drewN n = w' := by
  go_enter Try.func175, Try.ntmps175
  go_wp2
  go_quiet (fail)
  go_wp2
  go_ret
  exact ⟨rfl, _, rfl⟩
theorem cursor_Cursor_Left.calls (g : Nat) (s0_0 : ByteArray) (s0_1 : Int) (r1 : ByteArray) (r2 : ByteArray) (r3 : Int) (w0 w : World) (hI : IsS176 w0 w g s0_0 s0_1) (hB : Below w0.heap.size w0 w) (h : cursor_Cursor_Left.f s0_0 s0_1 = some (r1, r2, r3)) :
    Calls Try.prog 175 #[.pointer (some ⟨g, 0, none⟩)] w fun e w' => e = .returned (.string r1) ∧ IsS176 w0 w' g r2 r3 ∧ Below w0.heap.size w0 w' ∧ KeepBut w w' g none := by
  unfold cursor_Cursor_Left.f at h
  by_cases h1 : 0 ≤ s0_1
  · rw [if_pos h1] at h
    by_cases h2 : s0_1 ≤ (s0_0.size : Int)
    · rw [if_pos h2] at h
      simp only [Option.some.injEq, Prod.mk.injEq] at h
      obtain ⟨rfl, rfl, rfl⟩ := h
      obtain ⟨k, rfl⟩ := Int.eq_ofNat_of_zero_le h1
      refine (cursor_Cursor_Left.drawn g k s0_0 w ((blk_cell hI.1 0).trans rfl) ((blk_cell hI.1 1).trans rfl) (by omega)).mono ?_
      rintro e w' ⟨rfl, n, rfl⟩
      exact ⟨rfl, hI.drewN n, pw_below_drewN hB n, keep_drewN (KeepBut.refl _ _ _) n⟩
    · rw [if_neg h2] at h; cases h
  · rw [if_neg h1] at h; cases h
/-- How many octets at a text's beginning are so. -/
def spanN (p : Int → Bool) (s : ByteArray) : Nat := (s.data.toList.takeWhile fun c => p (c.toNat : Int)).length
theorem span_eq (p : Int → Bool) : ∀ (l : List UInt8) (k : Nat), k ≤ l.length → (∀ j (h : j < l.length), j < k → p ((l[j]'h).toNat : Int) = true) → (∀ h : k < l.length, p ((l[k]'h).toNat : Int) = false) → (l.takeWhile fun c => p (c.toNat : Int)).length = k
  | [], k, hk, _, _ => by simp at hk; subst hk; rfl
  | c :: l, 0, _, _, h0 => by
    have := h0 (by simp)
    simp only [List.getElem_cons_zero] at this
    simp [List.takeWhile_cons, this]
  | c :: l, k + 1, hk, h, h0 => by
    have hc := h 0 (by simp) (by omega)
    simp only [List.getElem_cons_zero] at hc
    simp only [List.takeWhile_cons, hc, if_true, List.length_cons]
    rw [span_eq p l k (by simpa using hk) (fun j hj hjk => by have := h (j + 1) (by simpa using hj) (by omega); simpa using this) (fun hkl => by have := h0 (by simpa using hkl); simpa using this)]
theorem spanN_eq (p : Int → Bool) (s : ByteArray) (k : Nat) (hk : k ≤ s.size) (h : ∀ j, j < k → p (bt s (j : Int)) = true) (h0 : k < s.size → p (bt s (k : Int)) = false) : spanN p s = k := by
  refine span_eq p s.data.toList k (by rw [data_length]; exact hk) (fun j hj hjk => ?_) (fun hkl => ?_)
  · have := h j hjk
    have hjs : j < s.size := by omega
    have e : bt s (j : Int) = ((s[j]'hjs).toNat : Int) := by simp [bt, hjs]
    rw [e] at this
    exact this
  · have hks : k < s.size := by rw [data_length] at hkl; exact hkl
    have := h0 hks
    have e : bt s (k : Int) = ((s[k]'hks).toNat : Int) := by simp [bt, hks]
    rw [e] at this
    exact this
theorem spanN_le (p : Int → Bool) (s : ByteArray) : spanN p s ≤ s.size := by
  unfold spanN
  rw [← data_length]
  exact (List.takeWhile_sublist _).length_le
set_option maxHeartbeats 2000000 in
/-- span, at whatever predicate of octets. -/
theorem cursor_Cursor_span_any (f : Nat) (lb : Array Value) (ef : ∀ args w, (callFunc f args).run Try.prog w = .ok (.enter f args) w) (p : Int → Bool) (g k : Nat) (s : ByteArray) (w : World) (c0 : w.cell? ⟨g, 0, none⟩ = some (.string s)) (c1 : w.cell? ⟨g, 1, none⟩ = some (.int .i64 k)) (hk : k ≤ s.size) (hs : s.size ≤ 9223372036854775807)
    (hcall : ∀ (c : Int) (W : World), 0 ≤ c → c ≤ 255 → Below w.heap.size w W → Calls Try.prog f (#[.int .u8 c] ++ lb) W fun e w' => e = .returned (.bool (p c)) ∧ Below W.heap.size W w') :
    Calls Try.prog 173 #[.pointer (some ⟨g, 0, none⟩), .func (.func f) #[] lb] w fun e w' => e = .returned (.int .i64 (spanN p (leftS s k))) ∧ Below w.heap.size w w' := by
  have HL := Aside0.mk (cursor_Cursor_Left.drawn g k s w c0 c1 hk)
  have HC := Aside0.mk hcall
  clear hcall c0 c1
  have hsz : (leftS s k).size ≤ s.size := by simp [leftS]
  obtain ⟨t, ht⟩ : ∃ t, leftS s k = t := ⟨_, rfl⟩
  rw [ht] at HL hsz ⊢
  clear ht
  have hts : t.size ≤ 9223372036854775807 := Nat.le_trans hsz hs
  clear hsz hs hk
  go_enter Try.func173, Try.ntmps173
  go_wp2_with fail
  refine HL.out.mono ?_
  rintro e w1 ⟨rfl, n1, rfl⟩
  go_wp2
  go_loopg [6, 9, 10, 11, 12, 13, 14, 15, 16, 17, 18, 19, 20, 21] t.size (fun gg i _ _ _ _ _ _ _ _ _ _ _ _ _ wr => ∃ j : Nat, j ≤ t.size ∧ t.size - j ≤ gg ∧ i = .int .i64 j ∧ Below w.heap.size w wr ∧ Aside0 (∀ q, q < j → p (bt t (q : Int)) = true))
  case atStart => exact ⟨0, Nat.zero_le _, by omega, rfl, pw_below_drewN (Below.refl _ _) n1, ⟨fun q hq => by omega⟩⟩
  case round =>
    obtain ⟨j, hj, hgg, rfl, HB, HA⟩ := hrel
    by_cases hlt : j < t.size
    · have hbt : ∀ h : j < t.size, ((t[j]'h).toNat : Int) = bt t (j : Int) := fun h => bt_at t (j : Int) h
      have hr := bt_range t (j : Int)
      have HCJ := Aside0.mk (HC.out (bt t (j : Int)) wr hr.1 hr.2 HB)
      cases hq : p (bt t (j : Int)) with
      | true =>
        rw [hq] at HCJ
        have HQ := Aside0.mk hq
        clear hq
        go_wp2_with fail
        refine HCJ.out.mono ?_
        rintro e w2 ⟨rfl, hb⟩
        have HBX := Aside0.mk hb
        clear hb
        go_wp2
        go_roundg (gk - 1)
        case measure => omega
        case rel =>
          refine ⟨j + 1, by omega, by omega, by go_num, HB.trans (HBX.out.mono HB.size), ⟨fun q hq => ?_⟩⟩
          by_cases e : q = j
          · subst e; exact HQ.out
          · exact HA.out q (by omega)
      | false =>
        rw [hq] at HCJ
        have HQ := Aside0.mk hq
        clear hq
        go_wp2_with fail
        refine HCJ.out.mono ?_
        rintro e w2 ⟨rfl, hb⟩
        have HBX := Aside0.mk hb
        clear hb
        go_wp2
        go_ret
        rw [spanN_eq p t j hj (fun q hq => HA.out q hq) (fun _ => HQ.out)]
        exact ⟨rfl, HB.trans (HBX.out.mono HB.size)⟩
    · have e : j = t.size := by omega
      subst e
      go_wp2
      go_ret
      rw [spanN_eq p t t.size (Nat.le_refl _) (fun q hq => HA.out q hq) (fun h => absurd h (Nat.lt_irrefl _))]
      exact ⟨rfl, HB⟩
/-- take, behind what has been seen to be there. -/
theorem cursor_Cursor_take.plain (g k n : Nat) (s : ByteArray) (w : World) (hI : w.heap[g]? = some (.cells #[.string s, .int .i64 k] 176 (0, 0))) (hk : k + n ≤ s.size) (hs : s.size ≤ 9223372036854775807) :
    Calls Try.prog 172 #[.pointer (some ⟨g, 0, none⟩), .int .i64 n] w fun e w' => e = .returned (.string ((leftS s k).extract 0 n)) ∧ w'.heap[g]? = some (.cells #[.string s, .int .i64 (k + n : Nat)] 176 (0, 0)) ∧ KeepBut w w' g none ∧ ∀ w0, Below w0.heap.size w0 w → w0.heap.size ≤ g → Below w0.heap.size w0 w' := by
  have HL := Aside0.mk (cursor_Cursor_Left.drawn g k s w ((blk_cell hI 0).trans rfl) ((blk_cell hI 1).trans rfl) (by omega))
  have c1 : w.cell? ⟨g, 1, none⟩ = some (.int .i64 k) := (blk_cell hI 1).trans rfl
  have f1 := blk_frozen hI 1
  have HI := Aside0.mk hI
  have hsz : (leftS s k).size = s.size - k := by simp [leftS]
  obtain ⟨t, ht⟩ : ∃ t, leftS s k = t := ⟨_, rfl⟩
  rw [ht] at HL hsz ⊢
  clear ht
  have hn : n ≤ t.size := by omega
  clear hsz hI
  by_cases h0 : 0 < n
  · go_enter Try.func172, Try.ntmps172
    go_wp2_with fail
    refine HL.out.mono ?_
    rintro e w1 ⟨rfl, n1, rfl⟩
    go_wp2
    go_ret
    refine ⟨rfl, ?_, (keep_drewN (KeepBut.refl _ _ _) n1).set_ 1 _, fun w0 hB hg => (pw_below_drewN hB n1).setCell hg _⟩
    have := blk_set (show (w.drewN n1).heap[g]? = _ from HI.out) 1 (.int .i64 ((k : Int) + (n : Int)))
    rw [this]
    rfl
  · obtain rfl : n = 0 := by omega
    go_enter Try.func172, Try.ntmps172
    go_wp2_with fail
    refine HL.out.mono ?_
    rintro e w1 ⟨rfl, n1, rfl⟩
    go_wp2
    go_ret
    refine ⟨?_, HI.out, keep_drewN (KeepBut.refl _ _ _) n1, fun w0 hB _ => pw_below_drewN hB n1⟩
    have e : t.extract 0 0 = ByteArray.empty := by simp
    rw [e]
    rfl
theorem octet_Tchar_pred (c : Int) (W : World) (h0 : 0 ≤ c) (h1 : c ≤ 255) : Calls Try.prog 174 #[.int .u8 c] W fun e w' => e = .returned (.bool (tcharI c)) ∧ Below W.heap.size W w' := by
  have HC := Aside0.mk (octet_tchar.calls c _ W rfl)
  go_enter Try.func174, Try.ntmps174
  go_wp2_with fail
  refine HC.out.mono ?_
  rintro e w2 ⟨rfl, hb⟩
  have HBX := Aside0.mk hb
  clear hb
  go_wp2
  go_ret
  exact ⟨rfl, HBX.out⟩
/-- What 'take(span(p))' does to a text and a place in it. -/
def takeSpan (p : Int → Bool) (s : ByteArray) (at_ : Int) : Option (ByteArray × ByteArray × Int) :=
  if 0 ≤ at_ ∧ at_ ≤ (s.size : Int) ∧ s.size ≤ 9223372036854775807 then some ((leftS s at_).extract 0 (spanN p (leftS s at_)), s, at_ + (spanN p (leftS s at_) : Nat)) else none
theorem takeSpan_some {p : Int → Bool} {s r1 r2 : ByteArray} {at_ r3 : Int} (h : takeSpan p s at_ = some (r1, r2, r3)) :
    ∃ k : Nat, at_ = k ∧ k ≤ s.size ∧ s.size ≤ 9223372036854775807 ∧ r1 = (leftS s k).extract 0 (spanN p (leftS s k)) ∧ r2 = s ∧ r3 = ((k + spanN p (leftS s k) : Nat) : Int) ∧ k + spanN p (leftS s k) ≤ s.size := by
  unfold takeSpan at h
  split at h
  · rename_i hc
    obtain ⟨k, rfl⟩ := Int.eq_ofNat_of_zero_le hc.1
    simp only [Option.some.injEq, Prod.mk.injEq] at h
    obtain ⟨rfl, rfl, rfl⟩ := h
    have := spanN_le p (leftS s k)
    have h2 : (leftS s k).size = s.size - k := by simp [leftS]
    exact ⟨k, rfl, by omega, hc.2.2, rfl, rfl, by omega, by omega⟩
  · cases h
def cursor_Cursor_Token.f (s : ByteArray) (at_ : Int) : Option (ByteArray × ByteArray × Int) := takeSpan tcharI s at_
set_option maxHeartbeats 1000000 in
theorem cursor_Cursor_Token.calls (g : Nat) (s0_0 : ByteArray) (s0_1 : Int) (r1 : ByteArray) (r2 : ByteArray) (r3 : Int) (w0 w : World) (hI : IsS176 w0 w g s0_0 s0_1) (hB : Below w0.heap.size w0 w) (h : cursor_Cursor_Token.f s0_0 s0_1 = some (r1, r2, r3)) :
    Calls Try.prog 134 #[.pointer (some ⟨g, 0, none⟩)] w fun e w' => e = .returned (.string r1) ∧ IsS176 w0 w' g r2 r3 ∧ Below w0.heap.size w0 w' ∧ KeepBut w w' g none := by
  obtain ⟨k, rfl, hk, hs, rfl, rfl, rfl, hn⟩ := takeSpan_some h
  clear h
  have HS := Aside0.mk (cursor_Cursor_span_any 174 #[] (enters_of Try.func174 (by kernel_rfl) rfl) tcharI g k r2 w ((blk_cell hI.1 0).trans rfl) ((blk_cell hI.1 1).trans rfl) hk hs (fun c W h0 h1 _ => octet_Tchar_pred c W h0 h1))
  have HT : Aside0 (∀ w1, Below w.heap.size w w1 → Calls Try.prog 172 #[.pointer (some ⟨g, 0, none⟩), .int .i64 (spanN tcharI (leftS r2 k))] w1 fun e w' => e = .returned (.string ((leftS r2 k).extract 0 (spanN tcharI (leftS r2 k)))) ∧ IsS176 w0 w' g r2 ((k + spanN tcharI (leftS r2 k) : Nat) : Int) ∧ Below w0.heap.size w0 w' ∧ KeepBut w w' g none) := ⟨fun w1 hb =>
    (cursor_Cursor_take.plain g k _ r2 w1 ((hb.block _ (blk_lt hI.1)).trans hI.1) hn hs).mono fun e w' ⟨h1, h2, h3, h4⟩ =>
      ⟨h1, ⟨h2, hI.2⟩, h4 w0 (hB.trans (hb.mono hB.size)) hI.2, (KeepBut.of_below hb g none).trans h3 (.inl rfl)⟩⟩
  clear hI hB
  go_enter Try.func134, Try.ntmps134
  go_wp2_with fail
  refine HS.out.mono ?_
  rintro e w1 ⟨rfl, hb⟩
  have HT1 := Aside0.mk (HT.out w1 hb)
  clear hb HT
  go_wp2_with fail
  refine HT1.out.mono ?_
  rintro e w2 ⟨rfl, hr⟩
  have HR := Aside0.mk hr
  clear hr
  go_wp2
  go_ret
  exact ⟨rfl, HR.out⟩
def cursor_Cursor_take.f (s : ByteArray) (at_ : Int) (n : Int) : Option (ByteArray × ByteArray × Int) :=
  if 0 ≤ at_ ∧ at_ ≤ (s.size : Int) ∧ s.size ≤ 9223372036854775807 ∧ 0 ≤ n ∧ at_ + n ≤ (s.size : Int) then some ((leftS s at_).extract 0 n.toNat, s, at_ + n) else none
theorem cursor_Cursor_take.calls (g : Nat) (s0_0 : ByteArray) (s0_1 : Int) (a1 : Int) (r1 : ByteArray) (r2 : ByteArray) (r3 : Int) (w0 w : World) (hI : IsS176 w0 w g s0_0 s0_1) (hB : Below w0.heap.size w0 w) (h : cursor_Cursor_take.f s0_0 s0_1 a1 = some (r1, r2, r3)) :
    Calls Try.prog 172 #[.pointer (some ⟨g, 0, none⟩), .int .i64 a1] w fun e w' => e = .returned (.string r1) ∧ IsS176 w0 w' g r2 r3 ∧ Below w0.heap.size w0 w' ∧ KeepBut w w' g none := by
  unfold cursor_Cursor_take.f at h
  split at h
  · rename_i hc
    obtain ⟨k, rfl⟩ := Int.eq_ofNat_of_zero_le hc.1
    obtain ⟨n, rfl⟩ := Int.eq_ofNat_of_zero_le hc.2.2.2.1
    simp only [Option.some.injEq, Prod.mk.injEq] at h
    obtain ⟨rfl, rfl, rfl⟩ := h
    refine (cursor_Cursor_take.plain g k n s0_0 w hI.1 (by omega) hc.2.2.1).mono ?_
    rintro e w' ⟨rfl, h2, h3, h4⟩
    exact ⟨rfl, ⟨h2, hI.2⟩, h4 w0 hB hI.2, h3⟩
  · cases h
end Go.Proofs.Ytjnhghplfdiijaa.Q

namespace Go.Proofs.Ytjnhghplfdiijaa.Q
open Go.RowKit Go.Proofs.YtjnhghplfdiijaaW.PrintWords Go.Proofs.YtjnhghplfdiijaaW.PrintLast Go.Proofs.YtjnhghplfdiijaaW.PrintMore
attribute [local go_sem] max2_int min2_int max_two min_two max_three min_three max_four min_four
set_option linter.unusedVariables false
set_option linter.unusedSimpArgs false
def octet_lower.f (a0 : Int) : Option (Int) := if a0 ≥ 65 then (if a0 ≤ 90 then (some ((((a0 + 97) % 256) - 65) % 256)) else (some a0)) else (some a0)
set_option maxHeartbeats 8000000 in
set_option maxRecDepth 100000 in
theorem octet_lower.calls (a0 : Int) (r : Int) (w : World) (h : octet_lower.f a0 = some r) :
    Calls Try.prog 160 #[.int .u8 a0] w fun e w' => e = .returned (.int .u8 r) ∧ Drawn0 w w' := by
  have H : (if a0 ≥ 65 then (if a0 ≤ 90 then (some ((((a0 + 97) % 256) - 65) % 256)) else (some a0)) else (some a0)) = some r := h
  clear h
  by_cases c2 : a0 ≥ 65
  · rw [if_pos c2] at H
    have c2b0 : decide (65 ≤ a0) = true := decide_eq_true c2
    clear c2
    by_cases c3 : a0 ≤ 90
    · rw [if_pos c3] at H
      have c3b0 : decide (a0 ≤ 90) = true := decide_eq_true c3
      clear c3
      obtain rfl := Option.some.inj H
      go_enter Try.func160, Try.ntmps160
      go_wp2
      go_ret
      exact ⟨by first | rfl | (simp; done) | (simp [*]; done), by repeat (first | exact Drawn0.refl _ | apply Drawn0.step)⟩
    · rw [if_neg c3] at H
      have c3b0 : decide (a0 ≤ 90) = false := decide_eq_false c3
      clear c3
      obtain rfl := Option.some.inj H
      go_enter Try.func160, Try.ntmps160
      go_wp2
      go_ret
      exact ⟨by first | rfl | (simp; done) | (simp [*]; done), by repeat (first | exact Drawn0.refl _ | apply Drawn0.step)⟩
  · rw [if_neg c2] at H
    have c2b0 : decide (65 ≤ a0) = false := decide_eq_false c2
    clear c2
    obtain rfl := Option.some.inj H
    go_enter Try.func160, Try.ntmps160
    go_wp2
    go_ret
    exact ⟨by first | rfl | (simp; done) | (simp [*]; done), by repeat (first | exact Drawn0.refl _ | apply Drawn0.step)⟩
end Go.Proofs.Ytjnhghplfdiijaa.Q

namespace Go.Proofs.Ytjnhghplfdiijaa.Q
open Go.RowKit Go.Proofs.YtjnhghplfdiijaaW.PrintWords Go.Proofs.YtjnhghplfdiijaaW.PrintLast Go.Proofs.YtjnhghplfdiijaaW.PrintMore Go.Lib Go.Shelf
set_option linter.unusedVariables false
set_option linter.unusedSimpArgs false
/-- An octet, a letter A to Z as a to z. -/
def lowB (b : Int) : Int := if 65 ≤ b ∧ b ≤ 90 then b + 32 else b
theorem lowB_f (b : Int) : octet_lower.f b = some (lowB b) := by
  unfold octet_lower.f lowB
  by_cases h1 : 65 ≤ b
  · by_cases h2 : b ≤ 90
    · rw [if_pos (by omega), if_pos h2, if_pos ⟨h1, h2⟩]
      congr 1
      omega
    · rw [if_pos (by omega), if_neg h2, if_neg (by omega)]
  · rw [if_neg (by omega), if_neg (by omega)]
/-- A text, its letters A to Z as a to z. -/
def lowerS (s : ByteArray) : ByteArray := strOfNums ((bytesOf s).map lowB)
theorem bytesOf_get (s : ByteArray) (j : Nat) (h : j < s.size) : (bytesOf s)[j]? = some (bt s (j : Int)) := by
  have e : bt s (j : Int) = ((s[j]'h).toNat : Int) := by simp [bt, h]
  rw [e]
  unfold bytesOf
  rw [List.getElem?_map]
  have : s.data.toList[j]? = some (s[j]'h) := by
    rw [List.getElem?_eq_getElem (by simpa using h)]; rfl
  rw [this]; rfl
theorem bytesOf_length (s : ByteArray) : (bytesOf s).length = s.size := by unfold bytesOf; rw [List.length_map, data_length]
theorem blkf_set {w : World} {g : Nat} {t : TypeId} {cs : Array Value} {fr : Nat × Nat} (h : w.heap[g]? = some (.cells cs t fr)) (i : Nat) (u : Value) : (w.setCell ⟨g, i, none⟩ u).heap[g]? = some (.cells (cs.setIfInBounds i u) t fr) := by
  simp [World.setCell, Array.getElem?_modify, h]
def octet_Lower.f (a0 : ByteArray) : Option ByteArray := if a0.size ≤ 9223372036854775807 then some (lowerS a0) else none
set_option maxHeartbeats 2000000 in
theorem octet_Lower.calls (a0 : ByteArray) (r : ByteArray) (w : World) (h : octet_Lower.f a0 = some r) :
    Calls Try.prog 127 #[.string a0] w fun e w' => e = .returned (.string r) ∧ Below w.heap.size w w' := by
  have hs : a0.size ≤ 9223372036854775807 := by
    unfold octet_Lower.f at h
    split at h
    · assumption
    · cases h
  unfold octet_Lower.f at h
  rw [if_pos hs] at h
  obtain rfl := Option.some.inj h
  clear h
  obtain ⟨cap, C, n, hC, hconv⟩ : ∃ (cap : Nat) (C : Array Value) (n : Nat), Aside0 (∀ j, j < a0.size → C[j]? = some (.int .u8 (bt a0 (j : Int))) ∧ j < n) ∧
      (convert 9 149 (.string a0)).run Try.prog w = .ok (.slice (some ⟨w.heap.size, 0, none⟩) a0.size cap) (w.drew.alloc (.cells C 5 (n, n + 1))) := by
    refine ⟨_, _, _, ⟨fun j hj => ?_⟩, run_bytes_of_string w 9 149 5 a0 Try.underlying9 Try.underlying149 Try.underlying5⟩
    refine ⟨?_, ?_⟩
    · rw [bytesRow_at a0 _ j hj]
      have e : bt a0 (j : Int) = ((a0[j]'hj).toNat : Int) := by simp [bt, hj]
      rw [e]; rfl
    · simp [bytesRow]; 
      have : a0.data.size = a0.size := rfl
      omega
  go_enter Try.func127, Try.ntmps127
  go_wp2
  clear hconv
  go_loopg [4, 5, 10] a0.size (fun gg _ _ i wr => ∃ (k : Nat) (X : Array Value), k ≤ a0.size ∧ a0.size - k ≤ gg ∧ i = .int .i64 k ∧ Aside0 (wr.heap[w.heap.size]? = some (.cells X 5 (n, n + 1)) ∧ ∀ j, j < a0.size → X[j]? = some (.int .u8 (if j < k then lowB (bt a0 (j : Int)) else bt a0 (j : Int)))) ∧ Below w.heap.size w wr)
  case atStart => exact ⟨0, C, Nat.zero_le _, by omega, rfl, ⟨(heap_alloc_new w _ : (w.alloc (.cells C 5 (n, n + 1))).heap[w.heap.size]? = _), fun j hj => by rw [if_neg (by omega)]; exact (hC.out j hj).1⟩, ((Below.refl _ _).alloc (Nat.le_refl _) _).drew⟩
  case round =>
    obtain ⟨k, X, hk, hgg, rfl, HX, HB⟩ := hrel
    by_cases hlt : k < a0.size
    · have hcell : wr.cell? ⟨w.heap.size, k, none⟩ = some (.int .u8 (bt a0 (k : Int))) := by
        rw [cell_of_row wr w.heap.size k X _ _ HX.out.1, HX.out.2 k hlt, if_neg (by omega)]
      have hfr : wr.frozen? ⟨w.heap.size, k, none⟩ = false := by
        have := (hC.out k hlt).2
        simp [World.frozen?, HX.out.1]
        omega
      have hlow := Aside0.mk (lowB_f (bt a0 (k : Int)))
      have HS := Aside0.mk hs
      go_wp2_with (go_at_call 160; refine (octet_lower.calls _ _ _ hlow.out).mono ?_; rintro e w' ⟨rfl, ⟨nd, rfl⟩⟩)
      go_roundg (gk - 1)
      case measure => omega
      case rel =>
        refine ⟨k + 1, _, by omega, by omega, by go_num, ⟨blkf_set (show (wr.drewN nd).heap[w.heap.size]? = _ from HX.out.1) k _, fun j hj => ?_⟩, ?_⟩
        · rw [Array.getElem?_setIfInBounds]
          by_cases e : k = j
          · subst e
            have hsz : k < X.size := by
              have := HX.out.2 k hlt
              exact (Array.getElem?_eq_some_iff.1 this).1
            rw [if_pos rfl, if_pos hsz, if_pos (by omega)]
          · rw [if_neg e, HX.out.2 j hj]
            by_cases hjk : j < k
            · rw [if_pos hjk, if_pos (by omega)]
            · rw [if_neg hjk, if_neg (by omega)]
        · exact (pw_below_drewN HB nd).setCell (Nat.le_refl _) _
    · have HS := Aside0.mk hs
      have hback : (convert 149 9 (.slice (some ⟨w.heap.size, 0, none⟩) a0.size cap)).run Try.prog wr = .ok (.string (lowerS a0)) wr := by
        refine run_convert_bytes_arg wr 149 5 Try.underlying149 Try.underlying5 w.heap.size 0 a0.size cap ((bytesOf a0).map lowB) (by rw [List.length_map, bytesOf_length]) (fun i hi => ?_) 9 Try.underlying9
        rw [Nat.zero_add, cell_of_row wr w.heap.size i X _ _ HX.out.1, HX.out.2 i hi, if_pos (by omega)]
        have := bytesOf_get a0 i hi
        rw [List.getD_eq_getElem?_getD, List.getElem?_map, this]
        rfl
      go_wp2
      go_ret
      exact ⟨rfl, HB⟩
end Go.Proofs.Ytjnhghplfdiijaa.Q

namespace Go.Proofs.Ytjnhghplfdiijaa.Q
open Go.RowKit Go.Proofs.YtjnhghplfdiijaaW.PrintWords Go.Proofs.YtjnhghplfdiijaaW.PrintLast Go.Proofs.YtjnhghplfdiijaaW.PrintMore
attribute [local go_sem] max2_int min2_int max_two min_two max_three min_three max_four min_four
set_option linter.unusedVariables false
set_option linter.unusedSimpArgs false
mutual
def abutmentref01_Tchar.j0 : Nat → Int → Bool → Option (Bool)
  | 0, _, _ => none
  | k + 1, x0, x26 => if x26 = true then (some true) else (abutmentref01_Tchar.l0 k x0 (⟨#[33, 35, 36, 37, 38, 39, 42, 43, 45, 46, 94, 95, 96, 124, 126]⟩ : ByteArray) 0)
def abutmentref01_Tchar.l0 : Nat → Int → ByteArray → Int → Option (Bool)
  | 0, _, _, _ => none
  | k + 1, x0, x3, x4 => if x4 < (x3.size : Int) then (if 0 ≤ x4 then (if (bt x3 x4) = x0 then (some true) else (abutmentref01_Tchar.l0 k x0 x3 (wrap64 (x4 + 1)))) else (none)) else (some false)
end
def abutmentref01_Tchar.f (k : Nat) (a0 : Int) : Option (Bool) := if a0 ≥ 48 then (if a0 ≤ 57 then (abutmentref01_Tchar.j0 k a0 true) else (if a0 ≥ 65 then (if a0 ≤ 90 then (abutmentref01_Tchar.j0 k a0 true) else (if a0 ≥ 97 then (abutmentref01_Tchar.j0 k a0 (decide (a0 ≤ 122))) else (abutmentref01_Tchar.j0 k a0 false))) else (if a0 ≥ 97 then (abutmentref01_Tchar.j0 k a0 (decide (a0 ≤ 122))) else (abutmentref01_Tchar.j0 k a0 false)))) else (if a0 ≥ 65 then (if a0 ≤ 90 then (abutmentref01_Tchar.j0 k a0 true) else (if a0 ≥ 97 then (abutmentref01_Tchar.j0 k a0 (decide (a0 ≤ 122))) else (abutmentref01_Tchar.j0 k a0 false))) else (if a0 ≥ 97 then (abutmentref01_Tchar.j0 k a0 (decide (a0 ≤ 122))) else (abutmentref01_Tchar.j0 k a0 false)))
theorem abutmentref01_Tchar.mono_l : ∀ k, (∀ y0 y1, LeO (abutmentref01_Tchar.j0 k y0 y1) (abutmentref01_Tchar.j0 (k + 1) y0 y1)) ∧ (∀ y0 y1 y2, LeO (abutmentref01_Tchar.l0 k y0 y1 y2) (abutmentref01_Tchar.l0 (k + 1) y0 y1 y2))
  | 0 => ⟨fun _ _ r h => by simp [abutmentref01_Tchar.j0] at h, fun _ _ _ r h => by simp [abutmentref01_Tchar.l0] at h⟩
  | k + 1 => by
    obtain ⟨ih0, ih1⟩ := abutmentref01_Tchar.mono_l k
    refine ⟨?_, ?_⟩
    · intro y0 y1
      unfold abutmentref01_Tchar.j0
      repeat' first
      | (with_reducible exact ih0 _ _)
      | (with_reducible exact ih1 _ _ _)
      | (with_reducible exact LeO.refl _)
      | (with_reducible exact LeO.none _)
      | (with_reducible refine LeO.ite ?_ ?_)
      | (with_reducible refine LeO.bind ?_ (fun _ => ?_))
      | exact ih0 _ _
      | exact ih1 _ _ _
      | exact LeO.none _
      | refine LeO.ite ?_ ?_
      | refine LeO.bind ?_ (fun _ => ?_)
    · intro y0 y1 y2
      unfold abutmentref01_Tchar.l0
      repeat' first
      | (with_reducible exact ih0 _ _)
      | (with_reducible exact ih1 _ _ _)
      | (with_reducible exact LeO.refl _)
      | (with_reducible exact LeO.none _)
      | (with_reducible refine LeO.ite ?_ ?_)
      | (with_reducible refine LeO.bind ?_ (fun _ => ?_))
      | exact ih0 _ _
      | exact ih1 _ _ _
      | exact LeO.none _
      | refine LeO.ite ?_ ?_
      | refine LeO.bind ?_ (fun _ => ?_)
theorem abutmentref01_Tchar.mono : ∀ a0 k, LeO (abutmentref01_Tchar.f k a0) (abutmentref01_Tchar.f (k + 1) a0) := by
  intro a0 k
  obtain ⟨ih0, ih1⟩ := abutmentref01_Tchar.mono_l k
  unfold abutmentref01_Tchar.f
  repeat' first
      | (with_reducible exact ih0 _ _)
      | (with_reducible exact ih1 _ _ _)
      | (with_reducible exact LeO.refl _)
      | (with_reducible exact LeO.none _)
      | (with_reducible refine LeO.ite ?_ ?_)
      | (with_reducible refine LeO.bind ?_ (fun _ => ?_))
      | exact ih0 _ _
      | exact ih1 _ _ _
      | exact LeO.none _
      | refine LeO.ite ?_ ?_
      | refine LeO.bind ?_ (fun _ => ?_)
set_option maxHeartbeats 8000000 in
set_option maxRecDepth 100000 in
theorem abutmentref01_Tchar.calls (k : Nat) (a0 : Int) (r : Bool) (w : World) (h : abutmentref01_Tchar.f k a0 = some r) :
    Calls Try.prog 145 #[.int .u8 a0] w fun e w' => e = .returned (.bool r) ∧ Drawn0 w w' := by
  have H : (if a0 ≥ 48 then (if a0 ≤ 57 then (abutmentref01_Tchar.j0 k a0 true) else (if a0 ≥ 65 then (if a0 ≤ 90 then (abutmentref01_Tchar.j0 k a0 true) else (if a0 ≥ 97 then (abutmentref01_Tchar.j0 k a0 (decide (a0 ≤ 122))) else (abutmentref01_Tchar.j0 k a0 false))) else (if a0 ≥ 97 then (abutmentref01_Tchar.j0 k a0 (decide (a0 ≤ 122))) else (abutmentref01_Tchar.j0 k a0 false)))) else (if a0 ≥ 65 then (if a0 ≤ 90 then (abutmentref01_Tchar.j0 k a0 true) else (if a0 ≥ 97 then (abutmentref01_Tchar.j0 k a0 (decide (a0 ≤ 122))) else (abutmentref01_Tchar.j0 k a0 false))) else (if a0 ≥ 97 then (abutmentref01_Tchar.j0 k a0 (decide (a0 ≤ 122))) else (abutmentref01_Tchar.j0 k a0 false)))) = some r := h
  clear h
  have HC2 := Aside0.mk H
  clear H
  go_enter Try.func145, Try.ntmps145
  go_upto_region 1 with (fail)
  go_cut [26] (fun v26 wc => ∃ (kq : Nat) (x26_1 : Bool), v26 = .bool x26_1 ∧ Aside0 (abutmentref01_Tchar.j0 kq a0 x26_1 = some r) ∧ Aside0 (kq ≤ k) ∧ Drawn0 w wc)
  case first =>
    have H := HC2.out
    clear HC2
    by_cases c3 : a0 ≥ 48
    · rw [if_pos c3] at H
      have c3b0 : decide (48 ≤ a0) = true := decide_eq_true c3
      clear c3
      (first | rw [c3b0] | (simp only [i64_w, i32_w]; rw [c3b0]) | skip)
      by_cases c4 : a0 ≤ 57
      · rw [if_pos c4] at H
        have c4b0 : decide (a0 ≤ 57) = true := decide_eq_true c4
        clear c4
        have H' := Aside0.mk H
        clear H
        go_wp2
        go_meet
        case rel => exact ⟨_, (true), (by first | rfl | (simp; done) | (simp [*]; done)), H', ⟨by first | omega | exact Nat.le_refl _⟩, by repeat (first | exact Drawn0.refl _ | apply Drawn0.step)⟩
      · rw [if_neg c4] at H
        have c4b0 : decide (a0 ≤ 57) = false := decide_eq_false c4
        clear c4
        by_cases c5 : a0 ≥ 65
        · rw [if_pos c5] at H
          have c5b0 : decide (65 ≤ a0) = true := decide_eq_true c5
          clear c5
          by_cases c6 : a0 ≤ 90
          · rw [if_pos c6] at H
            have c6b0 : decide (a0 ≤ 90) = true := decide_eq_true c6
            clear c6
            have H' := Aside0.mk H
            clear H
            go_wp2
            go_meet
            case rel => exact ⟨_, (true), (by first | rfl | (simp; done) | (simp [*]; done)), H', ⟨by first | omega | exact Nat.le_refl _⟩, by repeat (first | exact Drawn0.refl _ | apply Drawn0.step)⟩
          · rw [if_neg c6] at H
            have c6b0 : decide (a0 ≤ 90) = false := decide_eq_false c6
            clear c6
            by_cases c7 : a0 ≥ 97
            · rw [if_pos c7] at H
              have c7b0 : decide (97 ≤ a0) = true := decide_eq_true c7
              clear c7
              have H' := Aside0.mk H
              clear H
              go_wp2
              go_meet
              case rel => exact ⟨_, (decide (a0 ≤ 122)), (by first | rfl | (simp; done) | (simp [*]; done)), H', ⟨by first | omega | exact Nat.le_refl _⟩, by repeat (first | exact Drawn0.refl _ | apply Drawn0.step)⟩
            · rw [if_neg c7] at H
              have c7b0 : decide (97 ≤ a0) = false := decide_eq_false c7
              clear c7
              have H' := Aside0.mk H
              clear H
              go_wp2
              go_meet
              case rel => exact ⟨_, (false), (by first | rfl | (simp; done) | (simp [*]; done)), H', ⟨by first | omega | exact Nat.le_refl _⟩, by repeat (first | exact Drawn0.refl _ | apply Drawn0.step)⟩
        · rw [if_neg c5] at H
          have c5b0 : decide (65 ≤ a0) = false := decide_eq_false c5
          clear c5
          by_cases c8 : a0 ≥ 97
          · rw [if_pos c8] at H
            have c8b0 : decide (97 ≤ a0) = true := decide_eq_true c8
            clear c8
            have H' := Aside0.mk H
            clear H
            go_wp2
            go_meet
            case rel => exact ⟨_, (decide (a0 ≤ 122)), (by first | rfl | (simp; done) | (simp [*]; done)), H', ⟨by first | omega | exact Nat.le_refl _⟩, by repeat (first | exact Drawn0.refl _ | apply Drawn0.step)⟩
          · rw [if_neg c8] at H
            have c8b0 : decide (97 ≤ a0) = false := decide_eq_false c8
            clear c8
            have H' := Aside0.mk H
            clear H
            go_wp2
            go_meet
            case rel => exact ⟨_, (false), (by first | rfl | (simp; done) | (simp [*]; done)), H', ⟨by first | omega | exact Nat.le_refl _⟩, by repeat (first | exact Drawn0.refl _ | apply Drawn0.step)⟩
    · rw [if_neg c3] at H
      have c3b0 : decide (48 ≤ a0) = false := decide_eq_false c3
      clear c3
      (first | rw [c3b0] | (simp only [i64_w, i32_w]; rw [c3b0]) | skip)
      by_cases c9 : a0 ≥ 65
      · rw [if_pos c9] at H
        have c9b0 : decide (65 ≤ a0) = true := decide_eq_true c9
        clear c9
        by_cases c10 : a0 ≤ 90
        · rw [if_pos c10] at H
          have c10b0 : decide (a0 ≤ 90) = true := decide_eq_true c10
          clear c10
          have H' := Aside0.mk H
          clear H
          go_wp2
          go_meet
          case rel => exact ⟨_, (true), (by first | rfl | (simp; done) | (simp [*]; done)), H', ⟨by first | omega | exact Nat.le_refl _⟩, by repeat (first | exact Drawn0.refl _ | apply Drawn0.step)⟩
        · rw [if_neg c10] at H
          have c10b0 : decide (a0 ≤ 90) = false := decide_eq_false c10
          clear c10
          by_cases c11 : a0 ≥ 97
          · rw [if_pos c11] at H
            have c11b0 : decide (97 ≤ a0) = true := decide_eq_true c11
            clear c11
            have H' := Aside0.mk H
            clear H
            go_wp2
            go_meet
            case rel => exact ⟨_, (decide (a0 ≤ 122)), (by first | rfl | (simp; done) | (simp [*]; done)), H', ⟨by first | omega | exact Nat.le_refl _⟩, by repeat (first | exact Drawn0.refl _ | apply Drawn0.step)⟩
          · rw [if_neg c11] at H
            have c11b0 : decide (97 ≤ a0) = false := decide_eq_false c11
            clear c11
            have H' := Aside0.mk H
            clear H
            go_wp2
            go_meet
            case rel => exact ⟨_, (false), (by first | rfl | (simp; done) | (simp [*]; done)), H', ⟨by first | omega | exact Nat.le_refl _⟩, by repeat (first | exact Drawn0.refl _ | apply Drawn0.step)⟩
      · rw [if_neg c9] at H
        have c9b0 : decide (65 ≤ a0) = false := decide_eq_false c9
        clear c9
        by_cases c12 : a0 ≥ 97
        · rw [if_pos c12] at H
          have c12b0 : decide (97 ≤ a0) = true := decide_eq_true c12
          clear c12
          have H' := Aside0.mk H
          clear H
          go_wp2
          go_meet
          case rel => exact ⟨_, (decide (a0 ≤ 122)), (by first | rfl | (simp; done) | (simp [*]; done)), H', ⟨by first | omega | exact Nat.le_refl _⟩, by repeat (first | exact Drawn0.refl _ | apply Drawn0.step)⟩
        · rw [if_neg c12] at H
          have c12b0 : decide (97 ≤ a0) = false := decide_eq_false c12
          clear c12
          have H' := Aside0.mk H
          clear H
          go_wp2
          go_meet
          case rel => exact ⟨_, (false), (by first | rfl | (simp; done) | (simp [*]; done)), H', ⟨by first | omega | exact Nat.le_refl _⟩, by repeat (first | exact Drawn0.refl _ | apply Drawn0.step)⟩
  case rest =>
    clear HC2
    try clear c1
    try clear p2
    try clear c3
    try clear c3b0
    try clear c4
    try clear c4b0
    try clear c5
    try clear c5b0
    try clear c6
    try clear c6b0
    try clear c7
    try clear c7b0
    try clear c8
    try clear c8b0
    try clear c9
    try clear c9b0
    try clear c10
    try clear c10b0
    try clear c11
    try clear c11b0
    try clear c12
    try clear c12b0
    obtain ⟨kq, x26_1, rfl, HA, HJ1, ⟨mc1, rfl⟩⟩ := hcut
    cases kq with
    | zero => exact absurd HA.out (by simp [abutmentref01_Tchar.j0])
    | succ kj1 =>
      have H := HA.out
      clear HA
      simp only [abutmentref01_Tchar.j0] at H
      by_cases c13 : x26_1 = true
      · subst c13
        have H1 : (some true) = some r := by rw [if_pos rfl] at H; exact H
        clear H
        have H := H1
        clear H1
        obtain rfl := Option.some.inj H
        go_wp2
        go_ret
        exact ⟨by first | rfl | (simp; done) | (simp [*]; done), by repeat (first | exact Drawn0.refl _ | apply Drawn0.step)⟩
      · replace c13 := Bool.eq_false_iff.mpr c13
        subst c13
        have H1 : (abutmentref01_Tchar.l0 kj1 a0 (⟨#[33, 35, 36, 37, 38, 39, 42, 43, 45, 46, 94, 95, 96, 124, 126]⟩ : ByteArray) 0) = some r := by rw [if_neg (show ¬ (false = true) by decide)] at H; exact H
        clear H
        have H := H1
        clear H1
        have H' := Aside0.mk H
        clear H
        go_wp2
        go_loopg [4] kj1 (fun kq v4 w' => ∃ (x4_2 : Int), v4 = .int .i64 x4_2 ∧ Aside0 (abutmentref01_Tchar.l0 kq a0 (⟨#[33, 35, 36, 37, 38, 39, 42, 43, 45, 46, 94, 95, 96, 124, 126]⟩ : ByteArray) x4_2 = some r) ∧ Aside0 (kq ≤ kj1) ∧ Drawn0 w w')
        case atStart => exact ⟨(0), (by first | rfl | (simp; done) | (simp [*]; done)), H', ⟨Nat.le_refl _⟩, by repeat (first | exact Drawn0.refl _ | apply Drawn0.step)⟩
        case round =>
          clear H'
          try clear c1
          try clear p2
          try clear c3
          try clear c3b0
          try clear c4
          try clear c4b0
          try clear c5
          try clear c5b0
          try clear c6
          try clear c6b0
          try clear c7
          try clear c7b0
          try clear c8
          try clear c8b0
          try clear c9
          try clear c9b0
          try clear c10
          try clear c10b0
          try clear c11
          try clear c11b0
          try clear c12
          try clear c12b0
          try clear c13
          try clear p2
          obtain ⟨x4_2, rfl, HA, HK2, ⟨m2, rfl⟩⟩ := hrel
          cases gk with
          | zero => exact absurd HA.out (by simp [abutmentref01_Tchar.l0])
          | succ k2 =>
            have H := HA.out
            clear HA
            simp only [abutmentref01_Tchar.l0] at H
            by_cases c14 : x4_2 < ((⟨#[33, 35, 36, 37, 38, 39, 42, 43, 45, 46, 94, 95, 96, 124, 126]⟩ : ByteArray).size : Int)
            · rw [if_pos c14] at H
              have c14b0 : decide (x4_2 < ((⟨#[33, 35, 36, 37, 38, 39, 42, 43, 45, 46, 94, 95, 96, 124, 126]⟩ : ByteArray).size : Int)) = true := decide_eq_true c14
              have c14b0l : decide (x4_2 < (15 : Int)) = true := c14b0
              clear c14
              by_cases c15 : 0 ≤ x4_2
              · rw [if_pos c15] at H
                have c15b0 : decide (0 ≤ x4_2) = true := decide_eq_true c15
                clear c15
                by_cases c17 : (bt (⟨#[33, 35, 36, 37, 38, 39, 42, 43, 45, 46, 94, 95, 96, 124, 126]⟩ : ByteArray) x4_2) = a0
                · rw [if_pos c17] at H
                  have c17b0 : ((bt (⟨#[33, 35, 36, 37, 38, 39, 42, 43, 45, 46, 94, 95, 96, 124, 126]⟩ : ByteArray) x4_2) == a0) = true := beq_iff_eq.mpr c17
                  have c17b1 : ((bt (⟨#[33, 35, 36, 37, 38, 39, 42, 43, 45, 46, 94, 95, 96, 124, 126]⟩ : ByteArray) x4_2) != a0) = false := bne_eq_false_iff_eq.mpr c17
                  clear c17
                  obtain rfl := Option.some.inj H
                  have p16 : 0 ≤ (x4_2 : Int) := of_decide_eq_true (by first | (with_reducible assumption) | assumption)
                  have q16 : x4_2 < (15 : Int) := of_decide_eq_true (by first | (with_reducible assumption) | assumption)
                  have hx16 := bt_at (⟨#[33, 35, 36, 37, 38, 39, 42, 43, 45, 46, 94, 95, 96, 124, 126]⟩ : ByteArray) x4_2
                  replace p16 := eq_true p16
                  replace q16 := eq_true q16
                  go_wp2
                  go_ret
                  exact ⟨by first | rfl | (simp; done) | (simp [*]; done), by repeat (first | exact Drawn0.refl _ | apply Drawn0.step)⟩
                · rw [if_neg c17] at H
                  have c17b0 : ((bt (⟨#[33, 35, 36, 37, 38, 39, 42, 43, 45, 46, 94, 95, 96, 124, 126]⟩ : ByteArray) x4_2) == a0) = false := beq_eq_false_iff_ne.mpr c17
                  have c17b1 : ((bt (⟨#[33, 35, 36, 37, 38, 39, 42, 43, 45, 46, 94, 95, 96, 124, 126]⟩ : ByteArray) x4_2) != a0) = true := bne_iff_ne.mpr c17
                  have H' := Aside0.mk H
                  clear H
                  have p16 : 0 ≤ (x4_2 : Int) := of_decide_eq_true (by first | (with_reducible assumption) | assumption)
                  have q16 : x4_2 < (15 : Int) := of_decide_eq_true (by first | (with_reducible assumption) | assumption)
                  have hx16 := bt_at (⟨#[33, 35, 36, 37, 38, 39, 42, 43, 45, 46, 94, 95, 96, 124, 126]⟩ : ByteArray) x4_2
                  replace p16 := eq_true p16
                  replace q16 := eq_true q16
                  go_wp2
                  go_roundg k2
                  case measure => have := HJ1.out; have := HK2.out; omega
                  case rel => exact ⟨(wrap64 (x4_2 + 1)), (by first | rfl | (simp; done) | (simp [*]; done)), H', ⟨by have := HJ1.out; have := HK2.out; omega⟩, by repeat (first | exact Drawn0.refl _ | apply Drawn0.step)⟩
              · rw [if_neg c15] at H
                exact absurd H (by simp)
            · rw [if_neg c14] at H
              have c14b0 : decide (x4_2 < ((⟨#[33, 35, 36, 37, 38, 39, 42, 43, 45, 46, 94, 95, 96, 124, 126]⟩ : ByteArray).size : Int)) = false := decide_eq_false c14
              have c14b0l : decide (x4_2 < (15 : Int)) = false := c14b0
              clear c14
              obtain rfl := Option.some.inj H
              go_wp2
              go_ret
              exact ⟨by first | rfl | (simp; done) | (simp [*]; done), by repeat (first | exact Drawn0.refl _ | apply Drawn0.step)⟩
end Go.Proofs.Ytjnhghplfdiijaa.Q

namespace Go.Proofs.Ytjnhghplfdiijaa.Q
open Go.RowKit Go.Proofs.YtjnhghplfdiijaaW.PrintWords Go.Proofs.YtjnhghplfdiijaaW.PrintLast Go.Proofs.YtjnhghplfdiijaaW.PrintMore
attribute [local go_sem] max2_int min2_int max_two min_two max_three min_three max_four min_four
set_option linter.unusedVariables false
set_option linter.unusedSimpArgs false
def abutmentref01_Value.l0 : Nat → ByteArray → Int → Option (Bool)
  | 0, _, _ => none
  | k + 1, x0, x3 => if x3 < (x0.size : Int) then (if 0 ≤ x3 then (if (bt x0 x3) = 9 then (if (bt x0 x3) = 127 then (some false) else (abutmentref01_Value.l0 k x0 (wrap64 (x3 + 1)))) else (if (bt x0 x3) < 32 then (some false) else (if (bt x0 x3) = 127 then (some false) else (abutmentref01_Value.l0 k x0 (wrap64 (x3 + 1)))))) else (none)) else (some true)
def abutmentref01_Value.f (k : Nat) (a0 : ByteArray) : Option (Bool) := abutmentref01_Value.l0 k a0 0
set_option maxHeartbeats 8000000 in
set_option maxRecDepth 100000 in
theorem abutmentref01_Value.calls (k : Nat) (a0 : ByteArray) (r : Bool) (w : World) (h : abutmentref01_Value.f k a0 = some r) :
    Calls Try.prog 144 #[.string a0] w fun e w' => e = .returned (.bool r) ∧ Drawn0 w w' := by
  have H : (abutmentref01_Value.l0 k a0 0) = some r := h
  clear h
  have H' := Aside0.mk H
  clear H
  go_enter Try.func144, Try.ntmps144
  go_wp2
  go_loopg [3] k (fun kq v3 w' => ∃ (x3_1 : Int), v3 = .int .i64 x3_1 ∧ Aside0 (abutmentref01_Value.l0 kq a0 x3_1 = some r) ∧ Aside0 (kq ≤ k) ∧ Drawn0 w w')
  case atStart => exact ⟨(0), (by first | rfl | (simp; done) | (simp [*]; done)), H', ⟨Nat.le_refl _⟩, by repeat (first | exact Drawn0.refl _ | apply Drawn0.step)⟩
  case round =>
    clear H'
    try clear c1
    obtain ⟨x3_1, rfl, HA, HK1, ⟨m1, rfl⟩⟩ := hrel
    cases gk with
    | zero => exact absurd HA.out (by simp [abutmentref01_Value.l0])
    | succ k1 =>
      have H := HA.out
      clear HA
      simp only [abutmentref01_Value.l0] at H
      by_cases c2 : x3_1 < (a0.size : Int)
      · rw [if_pos c2] at H
        have c2b0 : decide (x3_1 < (a0.size : Int)) = true := decide_eq_true c2
        clear c2
        by_cases c3 : 0 ≤ x3_1
        · rw [if_pos c3] at H
          have c3b0 : decide (0 ≤ x3_1) = true := decide_eq_true c3
          clear c3
          by_cases c5 : (bt a0 x3_1) = 9
          · rw [if_pos c5] at H
            have c5b0 : ((bt a0 x3_1) == 9) = true := beq_iff_eq.mpr c5
            have c5b1 : ((bt a0 x3_1) != 9) = false := bne_eq_false_iff_eq.mpr c5
            clear c5
            by_cases c7 : (bt a0 x3_1) = 127
            · rw [if_pos c7] at H
              have c7b0 : ((bt a0 x3_1) == 127) = true := beq_iff_eq.mpr c7
              have c7b1 : ((bt a0 x3_1) != 127) = false := bne_eq_false_iff_eq.mpr c7
              clear c7
              obtain rfl := Option.some.inj H
              have p4 : 0 ≤ (x3_1 : Int) := of_decide_eq_true (by first | (with_reducible assumption) | assumption)
              have q4 : x3_1 < (a0.size : Int) := of_decide_eq_true (by first | (with_reducible assumption) | assumption)
              have hx4 := bt_at a0 x3_1
              replace p4 := eq_true p4
              replace q4 := eq_true q4
              have p6 : 0 ≤ (x3_1 : Int) := of_decide_eq_true (by first | (with_reducible assumption) | assumption)
              have q6 : x3_1 < (a0.size : Int) := of_decide_eq_true (by first | (with_reducible assumption) | assumption)
              have hx6 := bt_at a0 x3_1
              replace p6 := eq_true p6
              replace q6 := eq_true q6
              go_wp2
              go_ret
              exact ⟨by first | rfl | (simp; done) | (simp [*]; done), by repeat (first | exact Drawn0.refl _ | apply Drawn0.step)⟩
            · rw [if_neg c7] at H
              have c7b0 : ((bt a0 x3_1) == 127) = false := beq_eq_false_iff_ne.mpr c7
              have c7b1 : ((bt a0 x3_1) != 127) = true := bne_iff_ne.mpr c7
              have H' := Aside0.mk H
              clear H
              have p4 : 0 ≤ (x3_1 : Int) := of_decide_eq_true (by first | (with_reducible assumption) | assumption)
              have q4 : x3_1 < (a0.size : Int) := of_decide_eq_true (by first | (with_reducible assumption) | assumption)
              have hx4 := bt_at a0 x3_1
              replace p4 := eq_true p4
              replace q4 := eq_true q4
              have p6 : 0 ≤ (x3_1 : Int) := of_decide_eq_true (by first | (with_reducible assumption) | assumption)
              have q6 : x3_1 < (a0.size : Int) := of_decide_eq_true (by first | (with_reducible assumption) | assumption)
              have hx6 := bt_at a0 x3_1
              replace p6 := eq_true p6
              replace q6 := eq_true q6
              go_wp2
              go_roundg k1
              case measure => have := HK1.out; omega
              case rel => exact ⟨(wrap64 (x3_1 + 1)), (by first | rfl | (simp; done) | (simp [*]; done)), H', ⟨by have := HK1.out; omega⟩, by repeat (first | exact Drawn0.refl _ | apply Drawn0.step)⟩
          · rw [if_neg c5] at H
            have c5b0 : ((bt a0 x3_1) == 9) = false := beq_eq_false_iff_ne.mpr c5
            have c5b1 : ((bt a0 x3_1) != 9) = true := bne_iff_ne.mpr c5
            by_cases c9 : (bt a0 x3_1) < 32
            · rw [if_pos c9] at H
              have c9b0 : decide ((bt a0 x3_1) < 32) = true := decide_eq_true c9
              clear c9
              obtain rfl := Option.some.inj H
              have p4 : 0 ≤ (x3_1 : Int) := of_decide_eq_true (by first | (with_reducible assumption) | assumption)
              have q4 : x3_1 < (a0.size : Int) := of_decide_eq_true (by first | (with_reducible assumption) | assumption)
              have hx4 := bt_at a0 x3_1
              replace p4 := eq_true p4
              replace q4 := eq_true q4
              have p8 : 0 ≤ (x3_1 : Int) := of_decide_eq_true (by first | (with_reducible assumption) | assumption)
              have q8 : x3_1 < (a0.size : Int) := of_decide_eq_true (by first | (with_reducible assumption) | assumption)
              have hx8 := bt_at a0 x3_1
              replace p8 := eq_true p8
              replace q8 := eq_true q8
              go_wp2
              go_ret
              exact ⟨by first | rfl | (simp; done) | (simp [*]; done), by repeat (first | exact Drawn0.refl _ | apply Drawn0.step)⟩
            · rw [if_neg c9] at H
              have c9b0 : decide ((bt a0 x3_1) < 32) = false := decide_eq_false c9
              clear c9
              by_cases c11 : (bt a0 x3_1) = 127
              · rw [if_pos c11] at H
                have c11b0 : ((bt a0 x3_1) == 127) = true := beq_iff_eq.mpr c11
                have c11b1 : ((bt a0 x3_1) != 127) = false := bne_eq_false_iff_eq.mpr c11
                clear c11
                obtain rfl := Option.some.inj H
                have p4 : 0 ≤ (x3_1 : Int) := of_decide_eq_true (by first | (with_reducible assumption) | assumption)
                have q4 : x3_1 < (a0.size : Int) := of_decide_eq_true (by first | (with_reducible assumption) | assumption)
                have hx4 := bt_at a0 x3_1
                replace p4 := eq_true p4
                replace q4 := eq_true q4
                have p8 : 0 ≤ (x3_1 : Int) := of_decide_eq_true (by first | (with_reducible assumption) | assumption)
                have q8 : x3_1 < (a0.size : Int) := of_decide_eq_true (by first | (with_reducible assumption) | assumption)
                have hx8 := bt_at a0 x3_1
                replace p8 := eq_true p8
                replace q8 := eq_true q8
                have p10 : 0 ≤ (x3_1 : Int) := of_decide_eq_true (by first | (with_reducible assumption) | assumption)
                have q10 : x3_1 < (a0.size : Int) := of_decide_eq_true (by first | (with_reducible assumption) | assumption)
                have hx10 := bt_at a0 x3_1
                replace p10 := eq_true p10
                replace q10 := eq_true q10
                go_wp2
                go_ret
                exact ⟨by first | rfl | (simp; done) | (simp [*]; done), by repeat (first | exact Drawn0.refl _ | apply Drawn0.step)⟩
              · rw [if_neg c11] at H
                have c11b0 : ((bt a0 x3_1) == 127) = false := beq_eq_false_iff_ne.mpr c11
                have c11b1 : ((bt a0 x3_1) != 127) = true := bne_iff_ne.mpr c11
                have H' := Aside0.mk H
                clear H
                have p4 : 0 ≤ (x3_1 : Int) := of_decide_eq_true (by first | (with_reducible assumption) | assumption)
                have q4 : x3_1 < (a0.size : Int) := of_decide_eq_true (by first | (with_reducible assumption) | assumption)
                have hx4 := bt_at a0 x3_1
                replace p4 := eq_true p4
                replace q4 := eq_true q4
                have p8 : 0 ≤ (x3_1 : Int) := of_decide_eq_true (by first | (with_reducible assumption) | assumption)
                have q8 : x3_1 < (a0.size : Int) := of_decide_eq_true (by first | (with_reducible assumption) | assumption)
                have hx8 := bt_at a0 x3_1
                replace p8 := eq_true p8
                replace q8 := eq_true q8
                have p10 : 0 ≤ (x3_1 : Int) := of_decide_eq_true (by first | (with_reducible assumption) | assumption)
                have q10 : x3_1 < (a0.size : Int) := of_decide_eq_true (by first | (with_reducible assumption) | assumption)
                have hx10 := bt_at a0 x3_1
                replace p10 := eq_true p10
                replace q10 := eq_true q10
                go_wp2
                go_roundg k1
                case measure => have := HK1.out; omega
                case rel => exact ⟨(wrap64 (x3_1 + 1)), (by first | rfl | (simp; done) | (simp [*]; done)), H', ⟨by have := HK1.out; omega⟩, by repeat (first | exact Drawn0.refl _ | apply Drawn0.step)⟩
        · rw [if_neg c3] at H
          exact absurd H (by simp)
      · rw [if_neg c2] at H
        have c2b0 : decide (x3_1 < (a0.size : Int)) = false := decide_eq_false c2
        clear c2
        obtain rfl := Option.some.inj H
        go_wp2
        go_ret
        exact ⟨by first | rfl | (simp; done) | (simp [*]; done), by repeat (first | exact Drawn0.refl _ | apply Drawn0.step)⟩
end Go.Proofs.Ytjnhghplfdiijaa.Q

namespace Go.Proofs.Ytjnhghplfdiijaa.Q
open Go.RowKit Go.Proofs.YtjnhghplfdiijaaW.PrintWords Go.Proofs.YtjnhghplfdiijaaW.PrintLast Go.Proofs.YtjnhghplfdiijaaW.PrintMore
attribute [local go_sem] max2_int min2_int max_two min_two max_three min_three max_four min_four
set_option linter.unusedVariables false
set_option linter.unusedSimpArgs false
def abutmentref01_Lower.l0 : Nat → ByteArray → List Int → Int → Option (ByteArray)
  | 0, _, _, _ => none
  | k + 1, x0, x3, x4 => if x4 < (x0.size : Int) then (if 0 ≤ x4 then (if (bt x0 x4) ≥ 65 then (if (bt x0 x4) ≤ 90 then (if x3.length < 140737488355328 then (abutmentref01_Lower.l0 k x0 (x3 ++ [((bt x0 x4) + 32) % 256]) (wrap64 (x4 + 1))) else (none)) else (if x3.length < 140737488355328 then (abutmentref01_Lower.l0 k x0 (x3 ++ [bt x0 x4]) (wrap64 (x4 + 1))) else (none))) else (if x3.length < 140737488355328 then (abutmentref01_Lower.l0 k x0 (x3 ++ [bt x0 x4]) (wrap64 (x4 + 1))) else (none))) else (none)) else (some (strOfNums x3))
def abutmentref01_Lower.f (k : Nat) (a0 : ByteArray) : Option (ByteArray) := abutmentref01_Lower.l0 k a0 (([] : List Int)) 0
set_option maxHeartbeats 8000000 in
set_option maxRecDepth 100000 in
theorem abutmentref01_Lower.calls (k : Nat) (a0 : ByteArray) (r : ByteArray) (w : World) (h : abutmentref01_Lower.f k a0 = some r) :
    Calls Try.prog 83 #[.string a0] w fun e w' => e = .returned (.string r) ∧ Below w.heap.size w w' := by
  have HB := Aside0.mk (Below.refl w.heap.size w)
  have H : (abutmentref01_Lower.l0 k a0 (([] : List Int)) 0) = some r := h
  clear h
  obtain ⟨y101, hy101⟩ : ∃ y_ : List Int, y_ = (([] : List Int)) := ⟨_, rfl⟩
  replace H : (abutmentref01_Lower.l0 k a0 y101 0) = some r := by first | (rw [hy101]; with_reducible exact H) | (have H2_ := (Option.bind_some _ _).symm.trans H; rw [hy101]; with_reducible exact H2_) | (have H2_ := (Option.bind_some _ _).symm.trans H; with_reducible exact H2_) | with_reducible exact H | (rw [hy101]; exact H) | exact H
  have Ny101 := Aside0.mk hy101
  clear hy101
  have H' := Aside0.mk H
  clear H
  go_enter Try.func83, Try.ntmps83
  go_wp2_with (first | ((with_reducible refine gate_dst (N := 6) rfl ?_); refine Kd.R_lit (Kd.int .u8) _ 5 ?hg (N := 6) ?hd (xs := ([] : List Int)) (inner := []) (ok := fun _ => True) (okp := fun _ => True) ?hr ?hp (fun _ hk => hk) trivial (Below.refl _ _) (Nat.le_refl _) (by simp) ?_; (case hd => rfl); (case hg => rfl); (case hr => first | (go_simp; done) | (go_simp; rfl)); (case hp => exact (Reps.none _ _)); intro v102 w2 ho3 hb hg_ hnew_; clear hg_ hnew_; (first | rw [← Ny101.out] at ho3 | (simp only [Int.reduceToNat] at ho3; rw [← Ny101.out] at ho3)); have n0_ := Aside0.mk (Kd.R_lower ho3 (below_size (by repeat (first | (with_reducible first | exact HB.out | apply below_alloc | apply pw_below_drewN | apply below_drew1) | exact HB.out)))); have n1_ := Aside0.mk (below_step (by repeat (first | (with_reducible first | exact HB.out | apply below_alloc | apply pw_below_drewN | apply below_drew1) | exact HB.out)) hb); clear HB; have HO103 := n0_; have HB := n1_; clear n0_ n1_; clear hb ho3))
  go_loopg [3, 4] k (fun kq v3 v4 w' => ∃ (x3_1 : List Int) (x4_1 : Int), v4 = .int .i64 x4_1 ∧ Aside0 (abutmentref01_Lower.l0 kq a0 x3_1 x4_1 = some r) ∧ Aside0 (kq ≤ k) ∧ Aside0 (Kd.R (Kd.int .u8) 5 w' w.heap.size (fun _ => True) v3 x3_1) ∧ Aside0 (Below w.heap.size w w'))
  case atStart => exact ⟨(y101), (0), (by first | rfl | (simp; done) | (simp [*]; done)), H', ⟨Nat.le_refl _⟩, ⟨by (with_reducible repeat (first | apply Kd.R_alloc | apply Kd.R_drewN | apply Kd.R_drew)); exact HO103.out⟩, ⟨by repeat (first | (with_reducible first | exact HB.out | apply below_alloc | apply pw_below_drewN | apply below_drew1) | exact HB.out)⟩⟩
  case round =>
    clear H'
    try clear p2
    obtain ⟨x3_1, x4_1, rfl, HA, HK1, HO_3, HB⟩ := hrel
    cases gk with
    | zero => exact absurd HA.out (by simp [abutmentref01_Lower.l0])
    | succ k1 =>
      have H := HA.out
      clear HA
      simp only [abutmentref01_Lower.l0] at H
      by_cases c4 : x4_1 < (a0.size : Int)
      · rw [if_pos c4] at H
        have c4b0 : decide (x4_1 < (a0.size : Int)) = true := decide_eq_true c4
        clear c4
        by_cases c5 : 0 ≤ x4_1
        · rw [if_pos c5] at H
          have c5b0 : decide (0 ≤ x4_1) = true := decide_eq_true c5
          clear c5
          by_cases c7 : (bt a0 x4_1) ≥ 65
          · rw [if_pos c7] at H
            have c7b0 : decide (65 ≤ (bt a0 x4_1)) = true := decide_eq_true c7
            clear c7
            by_cases c8 : (bt a0 x4_1) ≤ 90
            · rw [if_pos c8] at H
              have c8b0 : decide ((bt a0 x4_1) ≤ 90) = true := decide_eq_true c8
              clear c8
              by_cases c9 : x3_1.length < 140737488355328
              · rw [if_pos c9] at H
                have LMc9 := Aside0.mk c9
                clear c9
                obtain ⟨y104, hy104⟩ : ∃ y_ : List Int, y_ = (x3_1 ++ [((bt a0 x4_1) + 32) % 256]) := ⟨_, rfl⟩
                replace H : (abutmentref01_Lower.l0 k1 a0 y104 (wrap64 (x4_1 + 1))) = some r := by first | (rw [hy104]; with_reducible exact H) | (have H2_ := (Option.bind_some _ _).symm.trans H; rw [hy104]; with_reducible exact H2_) | (have H2_ := (Option.bind_some _ _).symm.trans H; with_reducible exact H2_) | with_reducible exact H | (rw [hy104]; exact H) | exact H
                have Ny104 := Aside0.mk hy104
                clear hy104
                have H' := Aside0.mk H
                clear H
                have p6 : 0 ≤ (x4_1 : Int) := of_decide_eq_true (by first | (with_reducible assumption) | assumption)
                have q6 : x4_1 < (a0.size : Int) := of_decide_eq_true (by first | (with_reducible assumption) | assumption)
                have hx6 := bt_at a0 x4_1
                replace p6 := eq_true p6
                replace q6 := eq_true q6
                go_wp2_with (first | ((with_reducible refine gate_builtin (b := .append) (xs := #[.tmp 24, .tmp 26]) rfl ?_); at_builtin; refine Kd.R_append (Kd.int .u8) (w0 := w) w.heap.size rfl (.tmp 24) (.tmp 26) 149 5 (.int .u8 0) 1 rfl Try.underlying149 info5 rfl (by decide) (by omega) u3 x3_1 (((bt a0 x4_1) + 32) % 256) [.int .u8 (((bt a0 x4_1) + 32) % 256)] (fun _ => True) (fun _ => False) rfl rfl ?aP (fun _ hk => hk.elim) ?aF ?aO ?aB ?aS ?aL ?_; (case aP => exact rfl); (case aB => exact (by repeat (first | (with_reducible first | exact HB.out | apply below_alloc | apply pw_below_drewN | apply below_drew1) | exact HB.out))); (case aF => exact (fun _ _ => trivial)); (case aO => exact (by (with_reducible repeat (first | apply Kd.R_alloc | apply Kd.R_drewN | apply Kd.R_drew)); exact HO_3.out)); (case aS => exact (below_size (by repeat (first | (with_reducible first | exact HB.out | apply below_alloc | apply pw_below_drewN | apply below_drew1) | exact HB.out)))); (case aL => have := LMc9.out; omega); intro v105 w10 ho hb hg hat; rw [← Ny104.out] at ho; have n0_ := Aside0.mk (hb); have n1_ := Aside0.mk (ho); clear HB; clear HO_3; have HB := n0_; have HO106 := n1_; clear n0_ n1_; clear ho hb hg hat))
                go_roundg k1
                case measure => have := HK1.out; omega
                case rel => exact ⟨(y104), (wrap64 (x4_1 + 1)), (by first | rfl | (simp; done) | (simp [*]; done)), H', ⟨by have := HK1.out; omega⟩, ⟨by (with_reducible repeat (first | apply Kd.R_alloc | apply Kd.R_drewN | apply Kd.R_drew)); exact HO106.out⟩, ⟨by repeat (first | (with_reducible first | exact HB.out | apply below_alloc | apply pw_below_drewN | apply below_drew1) | exact HB.out)⟩⟩
              · rw [if_neg c9] at H
                exact absurd H (by simp)
            · rw [if_neg c8] at H
              have c8b0 : decide ((bt a0 x4_1) ≤ 90) = false := decide_eq_false c8
              clear c8
              by_cases c11 : x3_1.length < 140737488355328
              · rw [if_pos c11] at H
                have LMc11 := Aside0.mk c11
                clear c11
                obtain ⟨y107, hy107⟩ : ∃ y_ : List Int, y_ = (x3_1 ++ [bt a0 x4_1]) := ⟨_, rfl⟩
                replace H : (abutmentref01_Lower.l0 k1 a0 y107 (wrap64 (x4_1 + 1))) = some r := by first | (rw [hy107]; with_reducible exact H) | (have H2_ := (Option.bind_some _ _).symm.trans H; rw [hy107]; with_reducible exact H2_) | (have H2_ := (Option.bind_some _ _).symm.trans H; with_reducible exact H2_) | with_reducible exact H | (rw [hy107]; exact H) | exact H
                have Ny107 := Aside0.mk hy107
                clear hy107
                have H' := Aside0.mk H
                clear H
                have p6 : 0 ≤ (x4_1 : Int) := of_decide_eq_true (by first | (with_reducible assumption) | assumption)
                have q6 : x4_1 < (a0.size : Int) := of_decide_eq_true (by first | (with_reducible assumption) | assumption)
                have hx6 := bt_at a0 x4_1
                replace p6 := eq_true p6
                replace q6 := eq_true q6
                go_wp2_with (first | ((with_reducible refine gate_builtin (b := .append) (xs := #[.tmp 24, .tmp 26]) rfl ?_); at_builtin; refine Kd.R_append (Kd.int .u8) (w0 := w) w.heap.size rfl (.tmp 24) (.tmp 26) 149 5 (.int .u8 0) 1 rfl Try.underlying149 info5 rfl (by decide) (by omega) u3 x3_1 (bt a0 x4_1) [.int .u8 (bt a0 x4_1)] (fun _ => True) (fun _ => False) rfl rfl ?aP (fun _ hk => hk.elim) ?aF ?aO ?aB ?aS ?aL ?_; (case aP => exact rfl); (case aB => exact (by repeat (first | (with_reducible first | exact HB.out | apply below_alloc | apply pw_below_drewN | apply below_drew1) | exact HB.out))); (case aF => exact (fun _ _ => trivial)); (case aO => exact (by (with_reducible repeat (first | apply Kd.R_alloc | apply Kd.R_drewN | apply Kd.R_drew)); exact HO_3.out)); (case aS => exact (below_size (by repeat (first | (with_reducible first | exact HB.out | apply below_alloc | apply pw_below_drewN | apply below_drew1) | exact HB.out)))); (case aL => have := LMc11.out; omega); intro v108 w12 ho hb hg hat; rw [← Ny107.out] at ho; have n0_ := Aside0.mk (hb); have n1_ := Aside0.mk (ho); clear HB; clear HO_3; have HB := n0_; have HO109 := n1_; clear n0_ n1_; clear ho hb hg hat))
                go_roundg k1
                case measure => have := HK1.out; omega
                case rel => exact ⟨(y107), (wrap64 (x4_1 + 1)), (by first | rfl | (simp; done) | (simp [*]; done)), H', ⟨by have := HK1.out; omega⟩, ⟨by (with_reducible repeat (first | apply Kd.R_alloc | apply Kd.R_drewN | apply Kd.R_drew)); exact HO109.out⟩, ⟨by repeat (first | (with_reducible first | exact HB.out | apply below_alloc | apply pw_below_drewN | apply below_drew1) | exact HB.out)⟩⟩
              · rw [if_neg c11] at H
                exact absurd H (by simp)
          · rw [if_neg c7] at H
            have c7b0 : decide (65 ≤ (bt a0 x4_1)) = false := decide_eq_false c7
            clear c7
            by_cases c13 : x3_1.length < 140737488355328
            · rw [if_pos c13] at H
              have LMc13 := Aside0.mk c13
              clear c13
              obtain ⟨y110, hy110⟩ : ∃ y_ : List Int, y_ = (x3_1 ++ [bt a0 x4_1]) := ⟨_, rfl⟩
              replace H : (abutmentref01_Lower.l0 k1 a0 y110 (wrap64 (x4_1 + 1))) = some r := by first | (rw [hy110]; with_reducible exact H) | (have H2_ := (Option.bind_some _ _).symm.trans H; rw [hy110]; with_reducible exact H2_) | (have H2_ := (Option.bind_some _ _).symm.trans H; with_reducible exact H2_) | with_reducible exact H | (rw [hy110]; exact H) | exact H
              have Ny110 := Aside0.mk hy110
              clear hy110
              have H' := Aside0.mk H
              clear H
              have p6 : 0 ≤ (x4_1 : Int) := of_decide_eq_true (by first | (with_reducible assumption) | assumption)
              have q6 : x4_1 < (a0.size : Int) := of_decide_eq_true (by first | (with_reducible assumption) | assumption)
              have hx6 := bt_at a0 x4_1
              replace p6 := eq_true p6
              replace q6 := eq_true q6
              go_wp2_with (first | ((with_reducible refine gate_builtin (b := .append) (xs := #[.tmp 24, .tmp 26]) rfl ?_); at_builtin; refine Kd.R_append (Kd.int .u8) (w0 := w) w.heap.size rfl (.tmp 24) (.tmp 26) 149 5 (.int .u8 0) 1 rfl Try.underlying149 info5 rfl (by decide) (by omega) u3 x3_1 (bt a0 x4_1) [.int .u8 (bt a0 x4_1)] (fun _ => True) (fun _ => False) rfl rfl ?aP (fun _ hk => hk.elim) ?aF ?aO ?aB ?aS ?aL ?_; (case aP => exact rfl); (case aB => exact (by repeat (first | (with_reducible first | exact HB.out | apply below_alloc | apply pw_below_drewN | apply below_drew1) | exact HB.out))); (case aF => exact (fun _ _ => trivial)); (case aO => exact (by (with_reducible repeat (first | apply Kd.R_alloc | apply Kd.R_drewN | apply Kd.R_drew)); exact HO_3.out)); (case aS => exact (below_size (by repeat (first | (with_reducible first | exact HB.out | apply below_alloc | apply pw_below_drewN | apply below_drew1) | exact HB.out)))); (case aL => have := LMc13.out; omega); intro v111 w14 ho hb hg hat; rw [← Ny110.out] at ho; have n0_ := Aside0.mk (hb); have n1_ := Aside0.mk (ho); clear HB; clear HO_3; have HB := n0_; have HO112 := n1_; clear n0_ n1_; clear ho hb hg hat))
              go_roundg k1
              case measure => have := HK1.out; omega
              case rel => exact ⟨(y110), (wrap64 (x4_1 + 1)), (by first | rfl | (simp; done) | (simp [*]; done)), H', ⟨by have := HK1.out; omega⟩, ⟨by (with_reducible repeat (first | apply Kd.R_alloc | apply Kd.R_drewN | apply Kd.R_drew)); exact HO112.out⟩, ⟨by repeat (first | (with_reducible first | exact HB.out | apply below_alloc | apply pw_below_drewN | apply below_drew1) | exact HB.out)⟩⟩
            · rw [if_neg c13] at H
              exact absurd H (by simp)
        · rw [if_neg c5] at H
          exact absurd H (by simp)
      · rw [if_neg c4] at H
        have c4b0 : decide (x4_1 < (a0.size : Int)) = false := decide_eq_false c4
        clear c4
        obtain rfl := Option.some.inj H
        have hcv15 := own_string (P := Try.prog) Try.underlying149 Try.underlying5 Try.underlying9 (Kd.own_of_R HO_3.out)
        go_wp2
        go_ret
        exact ⟨by first | rfl | (simp [errW_none, errW_some] <;> rfl) | (simp [*, errW_none, errW_some] <;> rfl), by repeat (first | (with_reducible first | exact HB.out | apply below_alloc | apply pw_below_drewN | apply below_drew1) | exact HB.out)⟩
end Go.Proofs.Ytjnhghplfdiijaa.Q

namespace Go.Proofs.Ytjnhghplfdiijaa.Q
open Go.RowKit Go.Proofs.YtjnhghplfdiijaaW.PrintWords Go.Proofs.YtjnhghplfdiijaaW.PrintLast Go.Proofs.YtjnhghplfdiijaaW.PrintMore
attribute [local go_sem] max2_int min2_int max_two min_two max_three min_three max_four min_four
set_option linter.unusedVariables false
set_option linter.unusedSimpArgs false
mutual
def abutmentref01_Trim.j1 : Nat → ByteArray → Option (ByteArray)
  | 0, _ => none
  | k + 1, x0 => abutmentref01_Trim.l1 k x0
def abutmentref01_Trim.l1 : Nat → ByteArray → Option (ByteArray)
  | 0, _ => none
  | k + 1, x0 => if (x0.size : Int) > 0 then (if 0 ≤ (wrap64 ((x0.size : Int) - 1)) then (if (wrap64 ((x0.size : Int) - 1)) < (x0.size : Int) then (if (bt x0 (wrap64 ((x0.size : Int) - 1))) = 32 then (if (wrap64 ((x0.size : Int) - 1)) ≤ (x0.size : Int) then (abutmentref01_Trim.l1 k (x0.extract 0 ((wrap64 ((x0.size : Int) - 1)) : Int).toNat)) else (none)) else (if (bt x0 (wrap64 ((x0.size : Int) - 1))) = 9 then (if (wrap64 ((x0.size : Int) - 1)) ≤ (x0.size : Int) then (abutmentref01_Trim.l1 k (x0.extract 0 ((wrap64 ((x0.size : Int) - 1)) : Int).toNat)) else (none)) else (some x0))) else (none)) else (none)) else (some x0)
def abutmentref01_Trim.l0 : Nat → ByteArray → Option (ByteArray)
  | 0, _ => none
  | k + 1, x0 => if (x0.size : Int) > 0 then (if 0 < (x0.size : Int) then (if (bt x0 0) = 32 then (if 1 ≤ (x0.size : Int) then (abutmentref01_Trim.l0 k (x0.extract 1 x0.size)) else (none)) else (if (bt x0 0) = 9 then (if 1 ≤ (x0.size : Int) then (abutmentref01_Trim.l0 k (x0.extract 1 x0.size)) else (none)) else (abutmentref01_Trim.j1 k x0))) else (none)) else (abutmentref01_Trim.j1 k x0)
end
def abutmentref01_Trim.f (k : Nat) (a0 : ByteArray) : Option (ByteArray) := abutmentref01_Trim.l0 k a0
set_option maxHeartbeats 8000000 in
set_option maxRecDepth 100000 in
theorem abutmentref01_Trim.calls (k : Nat) (a0 : ByteArray) (r : ByteArray) (w : World) (h : abutmentref01_Trim.f k a0 = some r) :
    Calls Try.prog 123 #[.string a0] w fun e w' => e = .returned (.string r) ∧ Drawn0 w w' := by
  have H : (abutmentref01_Trim.l0 k a0) = some r := h
  clear h
  have HC2 := Aside0.mk H
  clear H
  go_enter Try.func123, Try.ntmps123
  go_upto_block 0 with (fail)
  go_cut [0] (fun v0 wc => ∃ (kq : Nat) (x0_1 : ByteArray), v0 = .string x0_1 ∧ Aside0 (abutmentref01_Trim.j1 kq x0_1 = some r) ∧ Aside0 (kq ≤ k) ∧ Drawn0 w wc)
  case first =>
    have H := HC2.out
    clear HC2
    have H' := Aside0.mk H
    clear H
    go_wp2
    go_loopg [0] k (fun kq v0 w' => ∃ (x0_1 : ByteArray), v0 = .string x0_1 ∧ Aside0 (abutmentref01_Trim.l0 kq x0_1 = some r) ∧ Aside0 (kq ≤ k) ∧ Drawn0 w w')
    case atStart => exact ⟨(a0), (by first | rfl | (simp; done) | (simp [*]; done)), H', ⟨Nat.le_refl _⟩, by repeat (first | exact Drawn0.refl _ | apply Drawn0.step)⟩
    case round =>
      clear H'
      try clear c1
      try clear p2
      obtain ⟨x0_1, rfl, HA, HK1, ⟨m1, rfl⟩⟩ := hrel
      cases gk with
      | zero => exact absurd HA.out (by simp [abutmentref01_Trim.l0])
      | succ k1 =>
        have H := HA.out
        clear HA
        simp only [abutmentref01_Trim.l0] at H
        by_cases c3 : (x0_1.size : Int) > 0
        · rw [if_pos c3] at H
          have c3b0 : decide (0 < (x0_1.size : Int)) = true := decide_eq_true c3
          have c3b1 : decide (0 < x0_1.size) = true := decide_eq_true (by omega)
          clear c3
          (first | rw [c3b0] | (simp only [i64_w, i32_w]; rw [c3b0]) | skip)
          by_cases c4 : 0 < (x0_1.size : Int)
          · rw [if_pos c4] at H
            have c4b0 : decide (0 < (x0_1.size : Int)) = true := decide_eq_true c4
            have c4b1 : decide (0 < x0_1.size) = true := decide_eq_true (by omega)
            clear c4
            by_cases c6 : (bt x0_1 0) = 32
            · rw [if_pos c6] at H
              have c6b0 : ((bt x0_1 0) == 32) = true := beq_iff_eq.mpr c6
              have c6b1 : ((bt x0_1 0) != 32) = false := bne_eq_false_iff_eq.mpr c6
              clear c6
              by_cases c7 : 1 ≤ (x0_1.size : Int)
              · rw [if_pos c7] at H
                have c7b0 := eq_true c7
                have c7b1 : decide (1 ≤ (x0_1.size : Int)) = true := decide_eq_true c7
                clear c7
                have H' := Aside0.mk H
                clear H
                have p5 : 0 ≤ (0 : Int) := (by omega)
                have q5 : 0 < x0_1.size := (by have : (0 : Int) < (x0_1.size : Int) := of_decide_eq_true (by first | (with_reducible assumption) | assumption); omega)
                have hx5 : ∀ h : 0 < x0_1.size, ((x0_1[0]'h).toNat : Int) = bt x0_1 0 := bt_at x0_1 0
                clear p5
                have qi5 : (0 < (x0_1.size : Int)) = True := eq_true (of_decide_eq_true (by first | (with_reducible assumption) | assumption))
                replace q5 := eq_true q5
                go_wp2
                go_roundg k1
                case measure => have := HK1.out; omega
                case rel => exact ⟨(x0_1.extract 1 x0_1.size), (by first | rfl | (simp; done) | (simp [*]; done)), H', ⟨by have := HK1.out; omega⟩, by repeat (first | exact Drawn0.refl _ | apply Drawn0.step)⟩
              · rw [if_neg c7] at H
                exact absurd H (by simp)
            · rw [if_neg c6] at H
              have c6b0 : ((bt x0_1 0) == 32) = false := beq_eq_false_iff_ne.mpr c6
              have c6b1 : ((bt x0_1 0) != 32) = true := bne_iff_ne.mpr c6
              by_cases c9 : (bt x0_1 0) = 9
              · rw [if_pos c9] at H
                have c9b0 : ((bt x0_1 0) == 9) = true := beq_iff_eq.mpr c9
                have c9b1 : ((bt x0_1 0) != 9) = false := bne_eq_false_iff_eq.mpr c9
                clear c9
                by_cases c10 : 1 ≤ (x0_1.size : Int)
                · rw [if_pos c10] at H
                  have c10b0 := eq_true c10
                  have c10b1 : decide (1 ≤ (x0_1.size : Int)) = true := decide_eq_true c10
                  clear c10
                  have H' := Aside0.mk H
                  clear H
                  have p5 : 0 ≤ (0 : Int) := (by omega)
                  have q5 : 0 < x0_1.size := (by have : (0 : Int) < (x0_1.size : Int) := of_decide_eq_true (by first | (with_reducible assumption) | assumption); omega)
                  have hx5 : ∀ h : 0 < x0_1.size, ((x0_1[0]'h).toNat : Int) = bt x0_1 0 := bt_at x0_1 0
                  clear p5
                  have qi5 : (0 < (x0_1.size : Int)) = True := eq_true (of_decide_eq_true (by first | (with_reducible assumption) | assumption))
                  replace q5 := eq_true q5
                  have p8 : 0 ≤ (0 : Int) := (by omega)
                  have q8 : 0 < x0_1.size := (by have : (0 : Int) < (x0_1.size : Int) := of_decide_eq_true (by first | (with_reducible assumption) | assumption); omega)
                  have hx8 : ∀ h : 0 < x0_1.size, ((x0_1[0]'h).toNat : Int) = bt x0_1 0 := bt_at x0_1 0
                  clear p8
                  have qi8 : (0 < (x0_1.size : Int)) = True := eq_true (of_decide_eq_true (by first | (with_reducible assumption) | assumption))
                  replace q8 := eq_true q8
                  go_wp2
                  go_roundg k1
                  case measure => have := HK1.out; omega
                  case rel => exact ⟨(x0_1.extract 1 x0_1.size), (by first | rfl | (simp; done) | (simp [*]; done)), H', ⟨by have := HK1.out; omega⟩, by repeat (first | exact Drawn0.refl _ | apply Drawn0.step)⟩
                · rw [if_neg c10] at H
                  exact absurd H (by simp)
              · rw [if_neg c9] at H
                have c9b0 : ((bt x0_1 0) == 9) = false := beq_eq_false_iff_ne.mpr c9
                have c9b1 : ((bt x0_1 0) != 9) = true := bne_iff_ne.mpr c9
                have H' := Aside0.mk H
                clear H
                have p5 : 0 ≤ (0 : Int) := (by omega)
                have q5 : 0 < x0_1.size := (by have : (0 : Int) < (x0_1.size : Int) := of_decide_eq_true (by first | (with_reducible assumption) | assumption); omega)
                have hx5 : ∀ h : 0 < x0_1.size, ((x0_1[0]'h).toNat : Int) = bt x0_1 0 := bt_at x0_1 0
                clear p5
                have qi5 : (0 < (x0_1.size : Int)) = True := eq_true (of_decide_eq_true (by first | (with_reducible assumption) | assumption))
                replace q5 := eq_true q5
                have p8 : 0 ≤ (0 : Int) := (by omega)
                have q8 : 0 < x0_1.size := (by have : (0 : Int) < (x0_1.size : Int) := of_decide_eq_true (by first | (with_reducible assumption) | assumption); omega)
                have hx8 : ∀ h : 0 < x0_1.size, ((x0_1[0]'h).toNat : Int) = bt x0_1 0 := bt_at x0_1 0
                clear p8
                have qi8 : (0 < (x0_1.size : Int)) = True := eq_true (of_decide_eq_true (by first | (with_reducible assumption) | assumption))
                replace q8 := eq_true q8
                go_wp2
                go_meet
                case rel => exact ⟨_, (x0_1), (by first | rfl | (simp; done) | (simp [*]; done)), H', ⟨by have := HK1.out; first | omega | exact Nat.le_refl _⟩, by repeat (first | exact Drawn0.refl _ | apply Drawn0.step)⟩
          · rw [if_neg c4] at H
            exact absurd H (by simp)
        · rw [if_neg c3] at H
          have c3b0 : decide (0 < (x0_1.size : Int)) = false := decide_eq_false c3
          have c3b1 : decide (0 < x0_1.size) = false := decide_eq_false (by omega)
          clear c3
          (first | rw [c3b0] | (simp only [i64_w, i32_w]; rw [c3b0]) | skip)
          have H' := Aside0.mk H
          clear H
          go_wp2
          go_meet
          case rel => exact ⟨_, (x0_1), (by first | rfl | (simp; done) | (simp [*]; done)), H', ⟨by have := HK1.out; first | omega | exact Nat.le_refl _⟩, by repeat (first | exact Drawn0.refl _ | apply Drawn0.step)⟩
  case rest =>
    clear HC2
    try clear c1
    try clear p2
    try clear c3
    try clear c3b0
    try clear c3b1
    try clear c4
    try clear c4b0
    try clear c4b1
    try clear p5
    try clear q5
    try clear hx5
    try clear qi5
    try clear c6
    try clear c6b0
    try clear c6b1
    try clear c7
    try clear c7b0
    try clear c7b1
    try clear p8
    try clear q8
    try clear hx8
    try clear qi8
    try clear c9
    try clear c9b0
    try clear c9b1
    try clear c10
    try clear c10b0
    try clear c10b1
    try clear p2
    try clear p5
    try clear p8
    try clear q5
    try clear q8
    obtain ⟨kq, x0_1, rfl, HA, HJ1, ⟨mc1, rfl⟩⟩ := hcut
    cases kq with
    | zero => exact absurd HA.out (by simp [abutmentref01_Trim.j1])
    | succ kj1 =>
      have H := HA.out
      clear HA
      simp only [abutmentref01_Trim.j1] at H
      have H' := Aside0.mk H
      clear H
      go_wp2
      go_loopg [0] kj1 (fun kq v0 w' => ∃ (x0_2 : ByteArray), v0 = .string x0_2 ∧ Aside0 (abutmentref01_Trim.l1 kq x0_2 = some r) ∧ Aside0 (kq ≤ kj1) ∧ Drawn0 w w')
      case atStart => exact ⟨(x0_1), (by first | rfl | (simp; done) | (simp [*]; done)), H', ⟨Nat.le_refl _⟩, by repeat (first | exact Drawn0.refl _ | apply Drawn0.step)⟩
      case round =>
        clear H'
        try clear c1
        try clear p2
        try clear c3
        try clear c3b0
        try clear c3b1
        try clear c4
        try clear c4b0
        try clear c4b1
        try clear p5
        try clear q5
        try clear hx5
        try clear qi5
        try clear c6
        try clear c6b0
        try clear c6b1
        try clear c7
        try clear c7b0
        try clear c7b1
        try clear p8
        try clear q8
        try clear hx8
        try clear qi8
        try clear c9
        try clear c9b0
        try clear c9b1
        try clear c10
        try clear c10b0
        try clear c10b1
        try clear p2
        try clear p5
        try clear p8
        try clear q5
        try clear q8
        obtain ⟨x0_2, rfl, HA, HK2, ⟨m2, rfl⟩⟩ := hrel
        cases gk with
        | zero => exact absurd HA.out (by simp [abutmentref01_Trim.l1])
        | succ k2 =>
          have H := HA.out
          clear HA
          simp only [abutmentref01_Trim.l1] at H
          by_cases c11 : (x0_2.size : Int) > 0
          · rw [if_pos c11] at H
            have c11b0 : decide (0 < (x0_2.size : Int)) = true := decide_eq_true c11
            have c11b1 : decide (0 < x0_2.size) = true := decide_eq_true (by omega)
            clear c11
            obtain ⟨ji12, hji12⟩ : ∃ j_ : Int, (wrap64 ((x0_2.size : Int) - 1)) = j_ := ⟨_, rfl⟩
            replace H : (if 0 ≤ (ji12) then (if (ji12) < (x0_2.size : Int) then (if (bt x0_2 (ji12)) = 32 then (if (ji12) ≤ (x0_2.size : Int) then (abutmentref01_Trim.l1 k2 (x0_2.extract 0 ((ji12) : Int).toNat)) else (none)) else (if (bt x0_2 (ji12)) = 9 then (if (ji12) ≤ (x0_2.size : Int) then (abutmentref01_Trim.l1 k2 (x0_2.extract 0 ((ji12) : Int).toNat)) else (none)) else (some x0_2))) else (none)) else (none)) = some r := by first | (rw [hji12] at H; exact H) | (simp only [hji12] at H ⊢; exact H)
            have hji12w : (IntKind.i64.wrap ((x0_2.size : Int) - 1)) = ji12 := (i64_w _).trans hji12
            by_cases c13 : 0 ≤ (ji12)
            · rw [if_pos c13] at H
              have c13b0 : decide (0 ≤ (ji12)) = true := decide_eq_true c13
              clear c13
              by_cases c14 : (ji12) < (x0_2.size : Int)
              · rw [if_pos c14] at H
                have c14b0 : decide ((ji12) < (x0_2.size : Int)) = true := decide_eq_true c14
                clear c14
                by_cases c16 : (bt x0_2 (ji12)) = 32
                · rw [if_pos c16] at H
                  have c16b0 : ((bt x0_2 (ji12)) == 32) = true := beq_iff_eq.mpr c16
                  have c16b1 : ((bt x0_2 (ji12)) != 32) = false := bne_eq_false_iff_eq.mpr c16
                  clear c16
                  have c17b0 := eq_true (of_decide_eq_true (by first | (with_reducible assumption) | assumption) : 0 ≤ (ji12))
                  by_cases c18 : (ji12) ≤ (x0_2.size : Int)
                  · rw [if_pos c18] at H
                    have c18b0 := eq_true c18
                    have c18b1 : decide ((ji12) ≤ (x0_2.size : Int)) = true := decide_eq_true c18
                    clear c18
                    have H' := Aside0.mk H
                    clear H
                    have p15 : 0 ≤ ((ji12) : Int) := of_decide_eq_true (by first | (with_reducible assumption) | assumption)
                    have q15 : (ji12) < (x0_2.size : Int) := of_decide_eq_true (by first | (with_reducible assumption) | assumption)
                    have hx15 := bt_at x0_2 (ji12)
                    replace p15 := eq_true p15
                    replace q15 := eq_true q15
                    go_wp2
                    go_roundg k2
                    case measure => have := HJ1.out; have := HK2.out; omega
                    case rel => exact ⟨(x0_2.extract 0 ((ji12) : Int).toNat), (by first | rfl | (simp; done) | (simp only [← hji12] <;> (first | rfl | simp)) | (simp [*]; done)), H', ⟨by have := HJ1.out; have := HK2.out; omega⟩, by repeat (first | exact Drawn0.refl _ | apply Drawn0.step)⟩
                  · rw [if_neg c18] at H
                    exact absurd H (by simp)
                · rw [if_neg c16] at H
                  have c16b0 : ((bt x0_2 (ji12)) == 32) = false := beq_eq_false_iff_ne.mpr c16
                  have c16b1 : ((bt x0_2 (ji12)) != 32) = true := bne_iff_ne.mpr c16
                  by_cases c20 : (bt x0_2 (ji12)) = 9
                  · rw [if_pos c20] at H
                    have c20b0 : ((bt x0_2 (ji12)) == 9) = true := beq_iff_eq.mpr c20
                    have c20b1 : ((bt x0_2 (ji12)) != 9) = false := bne_eq_false_iff_eq.mpr c20
                    clear c20
                    have c21b0 := eq_true (of_decide_eq_true (by first | (with_reducible assumption) | assumption) : 0 ≤ (ji12))
                    by_cases c22 : (ji12) ≤ (x0_2.size : Int)
                    · rw [if_pos c22] at H
                      have c22b0 := eq_true c22
                      have c22b1 : decide ((ji12) ≤ (x0_2.size : Int)) = true := decide_eq_true c22
                      clear c22
                      have H' := Aside0.mk H
                      clear H
                      have p15 : 0 ≤ ((ji12) : Int) := of_decide_eq_true (by first | (with_reducible assumption) | assumption)
                      have q15 : (ji12) < (x0_2.size : Int) := of_decide_eq_true (by first | (with_reducible assumption) | assumption)
                      have hx15 := bt_at x0_2 (ji12)
                      replace p15 := eq_true p15
                      replace q15 := eq_true q15
                      have p19 : 0 ≤ ((ji12) : Int) := of_decide_eq_true (by first | (with_reducible assumption) | assumption)
                      have q19 : (ji12) < (x0_2.size : Int) := of_decide_eq_true (by first | (with_reducible assumption) | assumption)
                      have hx19 := bt_at x0_2 (ji12)
                      replace p19 := eq_true p19
                      replace q19 := eq_true q19
                      go_wp2
                      go_roundg k2
                      case measure => have := HJ1.out; have := HK2.out; omega
                      case rel => exact ⟨(x0_2.extract 0 ((ji12) : Int).toNat), (by first | rfl | (simp; done) | (simp only [← hji12] <;> (first | rfl | simp)) | (simp [*]; done)), H', ⟨by have := HJ1.out; have := HK2.out; omega⟩, by repeat (first | exact Drawn0.refl _ | apply Drawn0.step)⟩
                    · rw [if_neg c22] at H
                      exact absurd H (by simp)
                  · rw [if_neg c20] at H
                    have c20b0 : ((bt x0_2 (ji12)) == 9) = false := beq_eq_false_iff_ne.mpr c20
                    have c20b1 : ((bt x0_2 (ji12)) != 9) = true := bne_iff_ne.mpr c20
                    obtain rfl := Option.some.inj H
                    have p15 : 0 ≤ ((ji12) : Int) := of_decide_eq_true (by first | (with_reducible assumption) | assumption)
                    have q15 : (ji12) < (x0_2.size : Int) := of_decide_eq_true (by first | (with_reducible assumption) | assumption)
                    have hx15 := bt_at x0_2 (ji12)
                    replace p15 := eq_true p15
                    replace q15 := eq_true q15
                    have p19 : 0 ≤ ((ji12) : Int) := of_decide_eq_true (by first | (with_reducible assumption) | assumption)
                    have q19 : (ji12) < (x0_2.size : Int) := of_decide_eq_true (by first | (with_reducible assumption) | assumption)
                    have hx19 := bt_at x0_2 (ji12)
                    replace p19 := eq_true p19
                    replace q19 := eq_true q19
                    go_wp2
                    go_ret
                    exact ⟨by first | rfl | (simp; done) | (simp only [← hji12] <;> (first | rfl | simp)) | (simp [*]; done), by repeat (first | exact Drawn0.refl _ | apply Drawn0.step)⟩
              · rw [if_neg c14] at H
                exact absurd H (by simp)
            · rw [if_neg c13] at H
              exact absurd H (by simp)
          · rw [if_neg c11] at H
            have c11b0 : decide (0 < (x0_2.size : Int)) = false := decide_eq_false c11
            have c11b1 : decide (0 < x0_2.size) = false := decide_eq_false (by omega)
            clear c11
            obtain rfl := Option.some.inj H
            go_wp2
            go_ret
            exact ⟨by first | rfl | (simp; done) | (simp [*]; done), by repeat (first | exact Drawn0.refl _ | apply Drawn0.step)⟩
end Go.Proofs.Ytjnhghplfdiijaa.Q

namespace Go.Proofs.Ytjnhghplfdiijaa.Q
open Go.RowKit Go.Proofs.YtjnhghplfdiijaaW.PrintWords Go.Proofs.YtjnhghplfdiijaaW.PrintLast Go.Proofs.YtjnhghplfdiijaaW.PrintMore
attribute [local go_sem] max2_int min2_int max_two min_two max_three min_three max_four min_four
set_option linter.unusedVariables false
set_option linter.unusedSimpArgs false
def abutmentref04_Token.l0 : Nat → ByteArray → Int → Option (Int)
  | 0, _, _ => none
  | k + 1, x0, x3 => if x3 < (x0.size : Int) then (if 0 ≤ x3 then ((abutmentref01_Tchar.f k (bt x0 x3)).bind fun t101 => (if t101 = true then (abutmentref04_Token.l0 k x0 (wrap64 (x3 + 1))) else (some x3))) else (none)) else (some x3)
def abutmentref04_Token.f (k : Nat) (a0 : ByteArray) : Option (Int) := abutmentref04_Token.l0 k a0 0
set_option maxHeartbeats 8000000 in
set_option maxRecDepth 100000 in
theorem abutmentref04_Token.calls (k : Nat) (a0 : ByteArray) (r : Int) (w : World) (h : abutmentref04_Token.f k a0 = some r) :
    Calls Try.prog 124 #[.string a0] w fun e w' => e = .returned (.int .i64 r) ∧ Drawn0 w w' := by
  have H : (abutmentref04_Token.l0 k a0 0) = some r := h
  clear h
  have H' := Aside0.mk H
  clear H
  go_enter Try.func124, Try.ntmps124
  go_wp2
  go_loopg [3] k (fun kq v3 w' => ∃ (x3_1 : Int), v3 = .int .i64 x3_1 ∧ Aside0 (abutmentref04_Token.l0 kq a0 x3_1 = some r) ∧ Aside0 (kq ≤ k) ∧ Drawn0 w w')
  case atStart => exact ⟨(0), (by first | rfl | (simp; done) | (simp [*]; done)), H', ⟨Nat.le_refl _⟩, by repeat (first | exact Drawn0.refl _ | apply Drawn0.step)⟩
  case round =>
    clear H'
    try clear c1
    obtain ⟨x3_1, rfl, HA, HK1, ⟨m1, rfl⟩⟩ := hrel
    cases gk with
    | zero => exact absurd HA.out (by simp [abutmentref04_Token.l0])
    | succ k1 =>
      have H := HA.out
      clear HA
      simp only [abutmentref04_Token.l0] at H
      by_cases c2 : x3_1 < (a0.size : Int)
      · rw [if_pos c2] at H
        have c2b0 : decide (x3_1 < (a0.size : Int)) = true := decide_eq_true c2
        clear c2
        by_cases c3 : 0 ≤ x3_1
        · rw [if_pos c3] at H
          have c3b0 : decide (0 ≤ x3_1) = true := decide_eq_true c3
          clear c3
          replace H := Option.bind_eq_some_iff.mp H
          obtain ⟨t101, A50, H⟩ := H
          (try dsimp only at H)
          have A5 := Aside0.mk A50
          clear A50
          by_cases c6 : t101 = true
          · subst c6
            have H1 : (abutmentref04_Token.l0 k1 a0 (wrap64 (x3_1 + 1))) = some r := by rw [if_pos rfl] at H; exact H
            clear H
            have H := H1
            clear H1
            have H' := Aside0.mk H
            clear H
            have p4 : 0 ≤ (x3_1 : Int) := of_decide_eq_true (by first | (with_reducible assumption) | assumption)
            have q4 : x3_1 < (a0.size : Int) := of_decide_eq_true (by first | (with_reducible assumption) | assumption)
            have hx4 := bt_at a0 x3_1
            replace p4 := eq_true p4
            replace q4 := eq_true q4
            go_wp2_with (first | (go_at_call 145; (with_reducible refine (abutmentref01_Tchar.calls k1 (bt a0 x3_1) true _ A5.out).mono ?_); rintro e w' ⟨rfl, ⟨nd, rfl⟩⟩))
            go_roundg k1
            case measure => have := HK1.out; omega
            case rel => exact ⟨(wrap64 (x3_1 + 1)), (by first | rfl | (simp; done) | (simp [*]; done)), H', ⟨by have := HK1.out; omega⟩, by repeat (first | exact Drawn0.refl _ | apply Drawn0.step)⟩
          · replace c6 := Bool.eq_false_iff.mpr c6
            subst c6
            have H1 : (some x3_1) = some r := by rw [if_neg (show ¬ (false = true) by decide)] at H; exact H
            clear H
            have H := H1
            clear H1
            obtain rfl := Option.some.inj H
            have p4 : 0 ≤ (x3_1 : Int) := of_decide_eq_true (by first | (with_reducible assumption) | assumption)
            have q4 : x3_1 < (a0.size : Int) := of_decide_eq_true (by first | (with_reducible assumption) | assumption)
            have hx4 := bt_at a0 x3_1
            replace p4 := eq_true p4
            replace q4 := eq_true q4
            go_wp2_with (first | (go_at_call 145; (with_reducible refine (abutmentref01_Tchar.calls k1 (bt a0 x3_1) false _ A5.out).mono ?_); rintro e w' ⟨rfl, ⟨nd, rfl⟩⟩))
            go_ret
            exact ⟨by first | rfl | (simp; done) | (simp [*]; done), by repeat (first | exact Drawn0.refl _ | apply Drawn0.step)⟩
        · rw [if_neg c3] at H
          exact absurd H (by simp)
      · rw [if_neg c2] at H
        have c2b0 : decide (x3_1 < (a0.size : Int)) = false := decide_eq_false c2
        clear c2
        obtain rfl := Option.some.inj H
        go_wp2
        go_ret
        exact ⟨by first | rfl | (simp; done) | (simp [*]; done), by repeat (first | exact Drawn0.refl _ | apply Drawn0.step)⟩
end Go.Proofs.Ytjnhghplfdiijaa.Q

namespace Go.Proofs.Ytjnhghplfdiijaa.Q
open Go.RowKit Go.Proofs.YtjnhghplfdiijaaW.PrintWords Go.Proofs.YtjnhghplfdiijaaW.PrintLast Go.Proofs.YtjnhghplfdiijaaW.PrintMore
set_option linter.unusedVariables false
set_option linter.unusedSimpArgs false
theorem at_cons {s : ByteArray} {i : Nat} {c : UInt8} {r : List UInt8} (h : (tl s).drop i = c :: r) : i < s.size ∧ bt s (i : Int) = (c.toNat : Int) ∧ (tl s).drop (i + 1) = r ∧ (tl s)[i]? = some c := by
  have hlt : i < (tl s).length := by
    rcases Nat.lt_or_ge i (tl s).length with h1 | h1
    · exact h1
    · rw [List.drop_eq_nil_of_le h1] at h; cases h
  have e := List.drop_eq_getElem_cons hlt
  rw [h] at e
  injection e with e1 e2
  have hg : (tl s)[i]? = some c := by rw [List.getElem?_eq_getElem hlt, e1]
  exact ⟨by rwa [tl_length] at hlt, bt_of hg, e2.symm, hg⟩
theorem at_nil {s : ByteArray} {i : Nat} (h : (tl s).drop i = []) : s.size ≤ i := by
  rw [← tl_length]
  rcases Nat.lt_or_ge i (tl s).length with h1 | h1
  · rw [List.drop_eq_getElem_cons h1] at h; cases h
  · exact h1
theorem wrap_succ {i n : Nat} (h : i < n) (hn : n ≤ 9223372036854775807) : wrap64 ((i : Int) + 1) = ((i + 1 : Nat) : Int) := by
  rw [wrap_small (by omega) (by omega)]; omega
theorem ev_tchar (c : UInt8) : Ev (fun k => abutmentref01_Tchar.f k (c.toNat : Int)) (tcharI (c.toNat : Int)) := by
  have h : ∀ x : Fin 256, abutmentref01_Tchar.f 20 ((x.val : Nat) : Int) = some (tcharI ((x.val : Nat) : Int)) := by decide +kernel
  exact Ev.of (fun k => abutmentref01_Tchar.mono _ k) (h ⟨c.toNat, c.toNat_lt⟩)
theorem all8_tl (q : Int → Bool) (s : ByteArray) : all8 q s = (tl s).all fun c => q (c.toNat : Int) := rfl
def valC (c : UInt8) : Bool := byteP valueI true (c.toNat : Int)
theorem valC_iff (c : UInt8) : valC c = true ↔ ((c.toNat : Int) = 9 ∨ 32 ≤ (c.toNat : Int)) ∧ (c.toNat : Int) ≠ 127 := by
  unfold valC byteP valueI
  split
  · simp; omega
  · simp; omega
theorem ev_value_loop (s : ByteArray) (hs : s.size ≤ 9223372036854775807) : ∀ (r : List UInt8) (i : Nat), (tl s).drop i = r → Ev (fun k => abutmentref01_Value.l0 k s (i : Int)) (r.all valC)
  | [], i, h => by
    have h1 := at_nil h
    exact Ev.step (f := fun _ => some true) (fun k => by simp only [abutmentref01_Value.l0]; rw [if_neg (by omega)]) (Ev.now _)
  | c :: r, i, h => by
    obtain ⟨h1, h2, h3, _⟩ := at_cons h
    have ih := ev_value_loop s hs r (i + 1) h3
    have hv := valC_iff c
    cases hc : valC c with
    | true =>
      simp only [List.all_cons, hc, Bool.true_and]
      rw [hc] at hv
      obtain ⟨q1, q2⟩ := hv.1 rfl
      refine Ev.step (f := fun k => abutmentref01_Value.l0 k s ((i + 1 : Nat) : Int)) (fun k => ?_) ih
      simp only [abutmentref01_Value.l0]
      rw [if_pos (by omega), if_pos (by omega), h2, wrap_succ h1 hs]
      by_cases e : (c.toNat : Int) = 9
      · rw [if_pos e, if_neg q2]
      · rw [if_neg e, if_neg (by omega), if_neg q2]
    | false =>
      simp only [List.all_cons, hc, Bool.false_and]
      rw [hc] at hv
      have q : ¬(((c.toNat : Int) = 9 ∨ 32 ≤ (c.toNat : Int)) ∧ (c.toNat : Int) ≠ 127) := fun h => by have := hv.2 h; cases this
      refine Ev.step (f := fun _ => some false) (fun k => ?_) (Ev.now _)
      simp only [abutmentref01_Value.l0]
      rw [if_pos (by omega), if_pos (by omega), h2]
      by_cases e : (c.toNat : Int) = 9
      · omega
      · rw [if_neg e]
        by_cases e2 : (c.toNat : Int) < 32
        · rw [if_pos e2]
        · rw [if_neg e2, if_pos (by omega)]
theorem ev_value (s : ByteArray) (hs : s.size ≤ 9223372036854775807) : Ev (fun k => abutmentref01_Value.f k s) (all8 (byteP valueI true) s) := ev_value_loop s hs (tl s) 0 rfl
/-- A small letter for a capital one. -/
def lowC (c : UInt8) : UInt8 := UInt8.ofNat (lowB (c.toNat : Int)).toNat
theorem lowB_range (c : UInt8) : 0 ≤ lowB (c.toNat : Int) ∧ lowB (c.toNat : Int) ≤ 255 := by
  have := c.toNat_lt
  unfold lowB
  split <;> omega
theorem lowerS_tl (s : ByteArray) : lowerS s = ofl ((tl s).map lowC) := by
  unfold lowerS strOfNums bytesOf ofl
  rw [List.map_map, List.map_map]
  rfl
theorem lower_loop (s : ByteArray) (hs : s.size ≤ 1000000000) : ∀ (r : List UInt8) (i : Nat) (acc : List Int), (tl s).drop i = r → acc.length + r.length ≤ 1000000000 → Ev (fun k => abutmentref01_Lower.l0 k s acc (i : Int)) (strOfNums (acc ++ r.map fun c => lowB (c.toNat : Int)))
  | [], i, acc, h, ha => by
    have h1 := at_nil h
    rw [List.map_nil, List.append_nil]
    exact Ev.step (f := fun _ => some (strOfNums acc)) (fun k => by simp only [abutmentref01_Lower.l0]; rw [if_neg (by omega)]) (Ev.now _)
  | c :: r, i, acc, h, ha => by
    obtain ⟨h1, h2, h3, _⟩ := at_cons h
    have ih := lower_loop s hs r (i + 1) (acc ++ [lowB (c.toNat : Int)]) h3 (by simp at ha ⊢; omega)
    rw [List.append_assoc] at ih
    refine Ev.step (f := fun k => abutmentref01_Lower.l0 k s (acc ++ [lowB (c.toNat : Int)]) ((i + 1 : Nat) : Int)) (fun k => ?_) ih
    have hl : acc.length < 140737488355328 := by simp at ha; omega
    simp only [abutmentref01_Lower.l0]
    rw [if_pos (by omega), if_pos (by omega), h2, wrap_succ h1 (by omega)]
    simp only [if_pos hl]
    unfold lowB
    by_cases a : (c.toNat : Int) ≥ 65
    · rw [if_pos a]
      by_cases b : (c.toNat : Int) ≤ 90
      · rw [if_pos b, if_pos ⟨a, b⟩, show ((c.toNat : Int) + 32) % 256 = (c.toNat : Int) + 32 by omega]
      · rw [if_neg b, if_neg (by omega)]
    · rw [if_neg a, if_neg (by omega)]
theorem ev_lower (s : ByteArray) (hs : s.size ≤ 1000000000) : Ev (fun k => abutmentref01_Lower.f k s) (lowerS s) := by
  have h := lower_loop s hs (tl s) 0 [] rfl (by rw [tl_length]; simpa using hs)
  have e : lowerS s = strOfNums ([] ++ (tl s).map fun c => lowB (c.toNat : Int)) := by
    unfold lowerS bytesOf tl
    rw [List.map_map]; rfl
  rw [e]
  exact h
theorem trim1_loop : ∀ (n : Nat) (s : ByteArray), s.size = n → n ≤ 9223372036854775807 → Ev (fun k => abutmentref01_Trim.l1 k s) (ofl (trimR (tl s)))
  | 0, s, h, hn => by
    have e : tl s = [] := List.eq_nil_of_length_eq_zero (by rw [tl_length]; exact h)
    refine Ev.step (f := fun _ => some s) (fun k => by simp only [abutmentref01_Trim.l1]; rw [if_neg (by omega)]) ?_
    rw [e]
    have : s = ofl (trimR []) := by rw [← ofl_tl s, e]; rfl
    rw [← this]
    exact Ev.now _
  | n + 1, s, h, hn => by
    obtain ⟨c, hc⟩ := get_lt (s := s) (i := n) (by omega)
    have hw : wrap64 ((s.size : Int) - 1) = (n : Int) := by rw [wrap_small (by omega) (by omega)]; omega
    have ht : tl s = tl (s.extract 0 n) ++ [c] := by
      rw [tl_extract, List.drop_zero, Nat.sub_zero]
      have := List.take_add_one (l := tl s) (i := n)
      rw [hc, List.take_of_length_le (by rw [tl_length]; omega)] at this
      exact this
    have ih := trim1_loop n (s.extract 0 n) (by simp; omega) (by omega)
    have hb := bt_of hc
    rw [ht, trimR_snoc]
    cases hk : blk c with
    | true =>
      rw [if_pos rfl]
      rw [blk_int] at hk
      refine Ev.step (f := fun k => abutmentref01_Trim.l1 k (s.extract 0 n)) (fun k => ?_) ih
      simp only [abutmentref01_Trim.l1]
      rw [if_pos (by omega), hw, if_pos (by omega), if_pos (by omega), hb, Int.toNat_natCast]
      by_cases e : (c.toNat : Int) = 32
      · rw [if_pos e, if_pos (by omega)]
      · rw [if_neg e, if_pos (by simpa [e] using hk), if_pos (by omega)]
    | false =>
      rw [if_neg (by simp), ← ht, ofl_tl]
      rw [blk_int] at hk
      simp only [Bool.or_eq_false_iff, decide_eq_false_iff_not] at hk
      refine Ev.step (f := fun _ => some s) (fun k => ?_) (Ev.now _)
      simp only [abutmentref01_Trim.l1]
      rw [if_pos (by omega), hw, if_pos (by omega), if_pos (by omega), hb, if_neg hk.1, if_neg hk.2]
theorem trim0_loop : ∀ (n : Nat) (s : ByteArray), s.size = n → n ≤ 9223372036854775807 → Ev (fun k => abutmentref01_Trim.l0 k s) (trimB s)
  | 0, s, h, hn => by
    have e : tl s = [] := List.eq_nil_of_length_eq_zero (by rw [tl_length]; exact h)
    have h1 := trim1_loop 0 s h hn
    have e2 : trimB s = ofl (trimR (tl s)) := by unfold trimB trimL; rw [e]; rfl
    rw [e2]
    refine Ev.step (f := fun k => abutmentref01_Trim.j1 k s) (fun k => by simp only [abutmentref01_Trim.l0]; rw [if_neg (by omega)]) ?_
    exact Ev.step (f := fun k => abutmentref01_Trim.l1 k s) (fun k => by simp only [abutmentref01_Trim.j1]) h1
  | n + 1, s, h, hn => by
    obtain ⟨c, hc⟩ := get_lt (s := s) (i := 0) (by omega)
    have hb := bt_of hc
    have ht : tl s = c :: tl (s.extract 1 s.size) := by
      rw [tl_extract, List.take_of_length_le (by rw [List.length_drop, tl_length]; omega)]
      exact drop_of hc
    have ih := trim0_loop n (s.extract 1 s.size) (by simp; omega) (by omega)
    unfold trimB trimL at ih ⊢
    rw [ht, List.dropWhile_cons]
    cases hk : blk c with
    | true =>
      rw [if_pos rfl]
      rw [blk_int] at hk
      refine Ev.step (f := fun k => abutmentref01_Trim.l0 k (s.extract 1 s.size)) (fun k => ?_) ih
      simp only [abutmentref01_Trim.l0]
      rw [if_pos (by omega), if_pos (by omega), show bt s 0 = _ from hb]
      by_cases e : (c.toNat : Int) = 32
      · rw [if_pos e, if_pos (by omega)]
      · rw [if_neg e, if_pos (by simpa [e] using hk), if_pos (by omega)]
    | false =>
      rw [if_neg (by simp), ← ht]
      rw [blk_int] at hk
      simp only [Bool.or_eq_false_iff, decide_eq_false_iff_not] at hk
      refine Ev.step (f := fun k => abutmentref01_Trim.j1 k s) (fun k => ?_) (Ev.step (f := fun k => abutmentref01_Trim.l1 k s) (fun k => by simp only [abutmentref01_Trim.j1]) (trim1_loop (n + 1) s h hn))
      simp only [abutmentref01_Trim.l0]
      rw [if_pos (by omega), if_pos (by omega), show bt s 0 = _ from hb, if_neg hk.1, if_neg hk.2]
theorem ev_trim (s : ByteArray) (hs : s.size ≤ 9223372036854775807) : Ev (fun k => abutmentref01_Trim.f k s) (trimB s) := trim0_loop s.size s rfl hs
theorem ev_tok_loop (s : ByteArray) (hs : s.size ≤ 9223372036854775807) : ∀ (r : List UInt8) (i : Nat), (tl s).drop i = r → Ev (fun k => abutmentref04_Token.l0 k s (i : Int)) ((i + (r.takeWhile fun c => tcharI (c.toNat : Int)).length : Nat) : Int)
  | [], i, h => by
    have h1 := at_nil h
    exact Ev.step (f := fun _ => some (i : Int)) (fun k => by simp only [abutmentref04_Token.l0]; rw [if_neg (by omega)]) (Ev.now _)
  | c :: r, i, h => by
    obtain ⟨h1, h2, h3, _⟩ := at_cons h
    refine Ev.step (f := fun k => (abutmentref01_Tchar.f k (c.toNat : Int)).bind fun t => if t = true then abutmentref04_Token.l0 k s ((i + 1 : Nat) : Int) else some (i : Int)) (fun k => by
      simp only [abutmentref04_Token.l0]; rw [if_pos (by omega), if_pos (by omega), h2, wrap_succ h1 hs]) ?_
    refine Ev.bind (ev_tchar c) ?_
    rw [List.takeWhile_cons]
    cases hc : tcharI (c.toNat : Int) with
    | true =>
      have ih := ev_tok_loop s hs r (i + 1) h3
      simp only [if_true, List.length_cons]
      rw [show i + ((r.takeWhile fun c => tcharI (c.toNat : Int)).length + 1) = i + 1 + (r.takeWhile fun c => tcharI (c.toNat : Int)).length by omega]
      exact ih
    | false => exact Ev.now _
theorem ev_tok (s : ByteArray) (hs : s.size ≤ 9223372036854775807) : Ev (fun k => abutmentref04_Token.f k s) (spanN tcharI s : Nat) := by
  have h := ev_tok_loop s hs (tl s) 0 rfl
  rw [Nat.zero_add] at h
  exact h
end Go.Proofs.Ytjnhghplfdiijaa.Q

namespace Go.Proofs.Ytjnhghplfdiijaa.Q
open Go.RowKit Go.Proofs.YtjnhghplfdiijaaW.PrintWords Go.Proofs.YtjnhghplfdiijaaW.PrintLast Go.Proofs.YtjnhghplfdiijaaW.PrintMore
attribute [local go_sem] max2_int min2_int max_two min_two max_three min_three max_four min_four
set_option linter.unusedVariables false
set_option linter.unusedSimpArgs false
mutual
def abutmentref04_Quoted.j0 : Nat → ByteArray → Bool → Option (ByteArray × Int)
  | 0, _, _ => none
  | k + 1, x0, x13 => if x13 = true then (some ((⟨#[]⟩ : ByteArray), 0)) else (abutmentref04_Quoted.l0 k x0 (⟨#[]⟩ : ByteArray) 1)
def abutmentref04_Quoted.l0 : Nat → ByteArray → ByteArray → Int → Option (ByteArray × Int)
  | 0, _, _, _ => none
  | k + 1, x0, x4, x5 => if x5 < (x0.size : Int) then (if 0 ≤ x5 then (if (bt x0 x5) = 34 then (some (x4, wrap64 (x5 + 1))) else (if (bt x0 x5) = 92 then (if (wrap64 (x5 + 1)) ≥ (x0.size : Int) then (some ((⟨#[]⟩ : ByteArray), 0)) else (if 0 ≤ (wrap64 (x5 + 1)) then (if (wrap64 (x5 + 1)) ≤ (wrap64 ((wrap64 (x5 + 1)) + 1)) then (if (wrap64 ((wrap64 (x5 + 1)) + 1)) ≤ (x0.size : Int) then ((abutmentref01_Value.f k (x0.extract ((wrap64 (x5 + 1)) : Int).toNat ((wrap64 ((wrap64 (x5 + 1)) + 1)) : Int).toNat)).bind fun t101 => (if t101 = true then (if x4.size + (x0.extract ((wrap64 (x5 + 1)) : Int).toNat ((wrap64 ((wrap64 (x5 + 1)) + 1)) : Int).toNat).size ≤ 9223372036854775807 then (abutmentref04_Quoted.l0 k x0 (x4 ++ (x0.extract ((wrap64 (x5 + 1)) : Int).toNat ((wrap64 ((wrap64 (x5 + 1)) + 1)) : Int).toNat)) (wrap64 ((wrap64 (x5 + 1)) + 1))) else (none)) else (some ((⟨#[]⟩ : ByteArray), 0)))) else (none)) else (none)) else (none))) else (if x5 ≥ (x0.size : Int) then (some ((⟨#[]⟩ : ByteArray), 0)) else (if x5 ≤ (wrap64 (x5 + 1)) then (if (wrap64 (x5 + 1)) ≤ (x0.size : Int) then ((abutmentref01_Value.f k (x0.extract (x5 : Int).toNat ((wrap64 (x5 + 1)) : Int).toNat)).bind fun t102 => (if t102 = true then (if x4.size + (x0.extract (x5 : Int).toNat ((wrap64 (x5 + 1)) : Int).toNat).size ≤ 9223372036854775807 then (abutmentref04_Quoted.l0 k x0 (x4 ++ (x0.extract (x5 : Int).toNat ((wrap64 (x5 + 1)) : Int).toNat)) (wrap64 (x5 + 1))) else (none)) else (some ((⟨#[]⟩ : ByteArray), 0)))) else (none)) else (none))))) else (none)) else (some ((⟨#[]⟩ : ByteArray), 0))
end
def abutmentref04_Quoted.f (k : Nat) (a0 : ByteArray) : Option (ByteArray × Int) := if (a0.size : Int) = 0 then (abutmentref04_Quoted.j0 k a0 true) else (if 0 < (a0.size : Int) then (abutmentref04_Quoted.j0 k a0 ((bt a0 0) != 34)) else (none))
set_option maxHeartbeats 8000000 in
set_option maxRecDepth 100000 in
theorem abutmentref04_Quoted.calls (k : Nat) (a0 : ByteArray) (r1 : ByteArray) (r2 : Int) (w : World) (h : abutmentref04_Quoted.f k a0 = some (r1, r2)) :
    Calls Try.prog 138 #[.string a0] w fun e w' => e = .returned (.tuple #[.string r1, .int .i64 r2]) ∧ Drawn0 w w' := by
  have H : (if (a0.size : Int) = 0 then (abutmentref04_Quoted.j0 k a0 true) else (if 0 < (a0.size : Int) then (abutmentref04_Quoted.j0 k a0 ((bt a0 0) != 34)) else (none))) = some (r1, r2) := h
  clear h
  have HC2 := Aside0.mk H
  clear H
  go_enter Try.func138, Try.ntmps138
  go_upto_region 1 with (fail)
  go_cut [13] (fun v13 wc => ∃ (kq : Nat) (x13_1 : Bool), v13 = .bool x13_1 ∧ Aside0 (abutmentref04_Quoted.j0 kq a0 x13_1 = some (r1, r2)) ∧ Aside0 (kq ≤ k) ∧ Drawn0 w wc)
  case first =>
    have H := HC2.out
    clear HC2
    by_cases c3 : (a0.size : Int) = 0
    · rw [if_pos c3] at H
      have c3b0 : ((a0.size : Int) == 0) = true := beq_iff_eq.mpr c3
      have c3b1 : ((a0.size : Int) != 0) = false := bne_eq_false_iff_eq.mpr c3
      clear c3
      (first | rw [c3b0] | (simp only [i64_w, i32_w]; rw [c3b0]) | skip)
      have H' := Aside0.mk H
      clear H
      go_wp2
      go_meet
      case rel => exact ⟨_, (true), (by first | rfl | (simp; done) | (simp [*]; done)), H', ⟨by first | omega | exact Nat.le_refl _⟩, by repeat (first | exact Drawn0.refl _ | apply Drawn0.step)⟩
    · rw [if_neg c3] at H
      have c3b0 : ((a0.size : Int) == 0) = false := beq_eq_false_iff_ne.mpr c3
      have c3b1 : ((a0.size : Int) != 0) = true := bne_iff_ne.mpr c3
      (first | rw [c3b0] | (simp only [i64_w, i32_w]; rw [c3b0]) | skip)
      by_cases c4 : 0 < (a0.size : Int)
      · rw [if_pos c4] at H
        have c4b0 : decide (0 < (a0.size : Int)) = true := decide_eq_true c4
        have c4b1 : decide (0 < a0.size) = true := decide_eq_true (by omega)
        clear c4
        have H' := Aside0.mk H
        clear H
        have p5 : 0 ≤ (0 : Int) := (by omega)
        have q5 : 0 < a0.size := (by have : (0 : Int) < (a0.size : Int) := of_decide_eq_true (by first | (with_reducible assumption) | assumption); omega)
        have hx5 : ∀ h : 0 < a0.size, ((a0[0]'h).toNat : Int) = bt a0 0 := bt_at a0 0
        clear p5
        have qi5 : (0 < (a0.size : Int)) = True := eq_true (of_decide_eq_true (by first | (with_reducible assumption) | assumption))
        replace q5 := eq_true q5
        go_wp2
        go_meet
        case rel => exact ⟨_, (((bt a0 0) != 34)), (by first | rfl | (simp; done) | (simp [*]; done)), H', ⟨by first | omega | exact Nat.le_refl _⟩, by repeat (first | exact Drawn0.refl _ | apply Drawn0.step)⟩
      · rw [if_neg c4] at H
        exact absurd H (by simp)
  case rest =>
    clear HC2
    try clear c1
    try clear p2
    try clear c3
    try clear c3b0
    try clear c3b1
    try clear c4
    try clear c4b0
    try clear c4b1
    try clear p5
    try clear q5
    try clear hx5
    try clear qi5
    try clear p5
    try clear q5
    obtain ⟨kq, x13_1, rfl, HA, HJ1, ⟨mc1, rfl⟩⟩ := hcut
    cases kq with
    | zero => exact absurd HA.out (by simp [abutmentref04_Quoted.j0])
    | succ kj1 =>
      have H := HA.out
      clear HA
      simp only [abutmentref04_Quoted.j0] at H
      by_cases c6 : x13_1 = true
      · subst c6
        have H1 : (some ((⟨#[]⟩ : ByteArray), 0)) = some (r1, r2) := by rw [if_pos rfl] at H; exact H
        clear H
        have H := H1
        clear H1
        simp only [Option.some.injEq, Prod.mk.injEq] at H
        obtain ⟨rfl, rfl⟩ := H
        go_wp2
        go_ret2
        exact ⟨by first | rfl | (simp; done) | (simp [*]; done), by repeat (first | exact Drawn0.refl _ | apply Drawn0.step)⟩
      · replace c6 := Bool.eq_false_iff.mpr c6
        subst c6
        have H1 : (abutmentref04_Quoted.l0 kj1 a0 (⟨#[]⟩ : ByteArray) 1) = some (r1, r2) := by rw [if_neg (show ¬ (false = true) by decide)] at H; exact H
        clear H
        have H := H1
        clear H1
        have H' := Aside0.mk H
        clear H
        go_wp2
        go_loopg [4, 5] kj1 (fun kq v4 v5 w' => ∃ (x4_2 : ByteArray) (x5_2 : Int), v4 = .string x4_2 ∧ v5 = .int .i64 x5_2 ∧ Aside0 (abutmentref04_Quoted.l0 kq a0 x4_2 x5_2 = some (r1, r2)) ∧ Aside0 (kq ≤ kj1) ∧ Drawn0 w w')
        case atStart => exact ⟨((⟨#[]⟩ : ByteArray)), (1), (by first | rfl | (simp; done) | (simp [*]; done)), (by first | rfl | (simp; done) | (simp [*]; done)), H', ⟨Nat.le_refl _⟩, by repeat (first | exact Drawn0.refl _ | apply Drawn0.step)⟩
        case round =>
          clear H'
          try clear c1
          try clear p2
          try clear c3
          try clear c3b0
          try clear c3b1
          try clear c4
          try clear c4b0
          try clear c4b1
          try clear p5
          try clear q5
          try clear hx5
          try clear qi5
          try clear c6
          try clear p2
          try clear p5
          try clear q5
          obtain ⟨x4_2, x5_2, rfl, rfl, HA, HK2, ⟨m2, rfl⟩⟩ := hrel
          cases gk with
          | zero => exact absurd HA.out (by simp [abutmentref04_Quoted.l0])
          | succ k2 =>
            have H := HA.out
            clear HA
            simp only [abutmentref04_Quoted.l0] at H
            by_cases c7 : x5_2 < (a0.size : Int)
            · rw [if_pos c7] at H
              have c7b0 : decide (x5_2 < (a0.size : Int)) = true := decide_eq_true c7
              clear c7
              by_cases c8 : 0 ≤ x5_2
              · rw [if_pos c8] at H
                have c8b0 : decide (0 ≤ x5_2) = true := decide_eq_true c8
                clear c8
                by_cases c10 : (bt a0 x5_2) = 34
                · rw [if_pos c10] at H
                  have c10b0 : ((bt a0 x5_2) == 34) = true := beq_iff_eq.mpr c10
                  have c10b1 : ((bt a0 x5_2) != 34) = false := bne_eq_false_iff_eq.mpr c10
                  clear c10
                  simp only [Option.some.injEq, Prod.mk.injEq] at H
                  obtain ⟨rfl, rfl⟩ := H
                  have p9 : 0 ≤ (x5_2 : Int) := of_decide_eq_true (by first | (with_reducible assumption) | assumption)
                  have q9 : x5_2 < (a0.size : Int) := of_decide_eq_true (by first | (with_reducible assumption) | assumption)
                  have hx9 := bt_at a0 x5_2
                  replace p9 := eq_true p9
                  replace q9 := eq_true q9
                  go_wp2
                  go_ret2
                  exact ⟨by first | rfl | (simp; done) | (simp [*]; done), by repeat (first | exact Drawn0.refl _ | apply Drawn0.step)⟩
                · rw [if_neg c10] at H
                  have c10b0 : ((bt a0 x5_2) == 34) = false := beq_eq_false_iff_ne.mpr c10
                  have c10b1 : ((bt a0 x5_2) != 34) = true := bne_iff_ne.mpr c10
                  by_cases c12 : (bt a0 x5_2) = 92
                  · rw [if_pos c12] at H
                    have c12b0 : ((bt a0 x5_2) == 92) = true := beq_iff_eq.mpr c12
                    have c12b1 : ((bt a0 x5_2) != 92) = false := bne_eq_false_iff_eq.mpr c12
                    clear c12
                    by_cases c13 : (wrap64 (x5_2 + 1)) ≥ (a0.size : Int)
                    · rw [if_pos c13] at H
                      have c13b0 : decide ((a0.size : Int) ≤ (wrap64 (x5_2 + 1))) = true := decide_eq_true c13
                      clear c13
                      simp only [Option.some.injEq, Prod.mk.injEq] at H
                      obtain ⟨rfl, rfl⟩ := H
                      have p9 : 0 ≤ (x5_2 : Int) := of_decide_eq_true (by first | (with_reducible assumption) | assumption)
                      have q9 : x5_2 < (a0.size : Int) := of_decide_eq_true (by first | (with_reducible assumption) | assumption)
                      have hx9 := bt_at a0 x5_2
                      replace p9 := eq_true p9
                      replace q9 := eq_true q9
                      have p11 : 0 ≤ (x5_2 : Int) := of_decide_eq_true (by first | (with_reducible assumption) | assumption)
                      have q11 : x5_2 < (a0.size : Int) := of_decide_eq_true (by first | (with_reducible assumption) | assumption)
                      have hx11 := bt_at a0 x5_2
                      replace p11 := eq_true p11
                      replace q11 := eq_true q11
                      go_wp2
                      go_ret2
                      exact ⟨by first | rfl | (simp; done) | (simp [*]; done), by repeat (first | exact Drawn0.refl _ | apply Drawn0.step)⟩
                    · rw [if_neg c13] at H
                      have c13b0 : decide ((a0.size : Int) ≤ (wrap64 (x5_2 + 1))) = false := decide_eq_false c13
                      clear c13
                      obtain ⟨ji14, hji14⟩ : ∃ j_ : Int, (wrap64 (x5_2 + 1)) = j_ := ⟨_, rfl⟩
                      replace H : (if 0 ≤ (ji14) then (if (ji14) ≤ (wrap64 ((ji14) + 1)) then (if (wrap64 ((ji14) + 1)) ≤ (a0.size : Int) then ((abutmentref01_Value.f k2 (a0.extract ((ji14) : Int).toNat ((wrap64 ((ji14) + 1)) : Int).toNat)).bind fun t101 => (if t101 = true then (if x4_2.size + (a0.extract ((ji14) : Int).toNat ((wrap64 ((ji14) + 1)) : Int).toNat).size ≤ 9223372036854775807 then (abutmentref04_Quoted.l0 k2 a0 (x4_2 ++ (a0.extract ((ji14) : Int).toNat ((wrap64 ((ji14) + 1)) : Int).toNat)) (wrap64 ((ji14) + 1))) else (none)) else (some ((⟨#[]⟩ : ByteArray), 0)))) else (none)) else (none)) else (none)) = some (r1, r2) := by first | (rw [hji14] at H; exact H) | (simp only [hji14] at H ⊢; exact H)
                      (try rw [hji14] at c13b0)
                      have hji14w : (IntKind.i64.wrap (x5_2 + 1)) = ji14 := (i64_w _).trans hji14
                      by_cases c15 : 0 ≤ (ji14)
                      · rw [if_pos c15] at H
                        have c15b0 := eq_true c15
                        have c15b1 : decide (0 ≤ (ji14)) = true := decide_eq_true c15
                        clear c15
                        by_cases c16 : (ji14) ≤ (wrap64 ((ji14) + 1))
                        · rw [if_pos c16] at H
                          have c16b0 := eq_true c16
                          have c16b1 : decide ((ji14) ≤ (wrap64 ((ji14) + 1))) = true := decide_eq_true c16
                          by_cases c17 : (wrap64 ((ji14) + 1)) ≤ (a0.size : Int)
                          · rw [if_pos c17] at H
                            have c17b0 := eq_true c17
                            have c17b1 : decide ((wrap64 ((ji14) + 1)) ≤ (a0.size : Int)) = true := decide_eq_true c17
                            replace H := Option.bind_eq_some_iff.mp H
                            obtain ⟨t101, A180, H⟩ := H
                            (try dsimp only at H)
                            have A18 := Aside0.mk A180
                            clear A180
                            by_cases c19 : t101 = true
                            · subst c19
                              have H1 : (if x4_2.size + (a0.extract ((ji14) : Int).toNat ((wrap64 ((ji14) + 1)) : Int).toNat).size ≤ 9223372036854775807 then (abutmentref04_Quoted.l0 k2 a0 (x4_2 ++ (a0.extract ((ji14) : Int).toNat ((wrap64 ((ji14) + 1)) : Int).toNat)) (wrap64 ((ji14) + 1))) else (none)) = some (r1, r2) := by rw [if_pos rfl] at H; exact H
                              clear H
                              have H := H1
                              clear H1
                              have c20b0 := eq_true (of_decide_eq_true (by first | (with_reducible assumption) | assumption) : 0 ≤ (ji14))
                              have c21b0 := eq_true (of_decide_eq_true (by first | (with_reducible assumption) | assumption) : (ji14) ≤ (wrap64 ((ji14) + 1)))
                              have c22b0 := eq_true (of_decide_eq_true (by first | (with_reducible assumption) | assumption) : (wrap64 ((ji14) + 1)) ≤ (a0.size : Int))
                              by_cases c23 : x4_2.size + (a0.extract ((ji14) : Int).toNat ((wrap64 ((ji14) + 1)) : Int).toNat).size ≤ 9223372036854775807
                              · rw [if_pos c23] at H
                                have c23b0 := eq_true c23
                                have c23b1 : decide (x4_2.size + (a0.extract ((ji14) : Int).toNat ((wrap64 ((ji14) + 1)) : Int).toNat).size ≤ 9223372036854775807) = true := decide_eq_true c23
                                try have c23b2 : (9223372036854775807 < x4_2.size + (a0.extract ((ji14) : Int).toNat ((wrap64 ((ji14) + 1)) : Int).toNat).size) = False := eq_false (Nat.not_lt.2 c23)
                                have H' := Aside0.mk H
                                clear H
                                have p9 : 0 ≤ (x5_2 : Int) := of_decide_eq_true (by first | (with_reducible assumption) | assumption)
                                have q9 : x5_2 < (a0.size : Int) := of_decide_eq_true (by first | (with_reducible assumption) | assumption)
                                have hx9 := bt_at a0 x5_2
                                replace p9 := eq_true p9
                                replace q9 := eq_true q9
                                have p11 : 0 ≤ (x5_2 : Int) := of_decide_eq_true (by first | (with_reducible assumption) | assumption)
                                have q11 : x5_2 < (a0.size : Int) := of_decide_eq_true (by first | (with_reducible assumption) | assumption)
                                have hx11 := bt_at a0 x5_2
                                replace p11 := eq_true p11
                                replace q11 := eq_true q11
                                go_wp2_with (first | (go_at_call 144; (with_reducible refine (abutmentref01_Value.calls k2 (a0.extract ((ji14) : Int).toNat ((wrap64 ((ji14) + 1)) : Int).toNat) true _ A18.out).mono ?_); rintro e w' ⟨rfl, ⟨nd, rfl⟩⟩))
                                go_roundg k2
                                case measure => have := HJ1.out; have := HK2.out; omega
                                case rel => exact ⟨(x4_2 ++ (a0.extract ((ji14) : Int).toNat ((wrap64 ((ji14) + 1)) : Int).toNat)), (wrap64 ((ji14) + 1)), (by first | rfl | (simp; done) | (simp only [← hji14] <;> (first | rfl | simp)) | (simp [*]; done)), (by first | rfl | (simp; done) | (simp only [← hji14] <;> (first | rfl | simp)) | (simp [*]; done)), H', ⟨by have := HJ1.out; have := HK2.out; omega⟩, by repeat (first | exact Drawn0.refl _ | apply Drawn0.step)⟩
                              · rw [if_neg c23] at H
                                exact absurd H (by simp)
                            · replace c19 := Bool.eq_false_iff.mpr c19
                              subst c19
                              have H1 : (some ((⟨#[]⟩ : ByteArray), 0)) = some (r1, r2) := by rw [if_neg (show ¬ (false = true) by decide)] at H; exact H
                              clear H
                              have H := H1
                              clear H1
                              simp only [Option.some.injEq, Prod.mk.injEq] at H
                              obtain ⟨rfl, rfl⟩ := H
                              have p9 : 0 ≤ (x5_2 : Int) := of_decide_eq_true (by first | (with_reducible assumption) | assumption)
                              have q9 : x5_2 < (a0.size : Int) := of_decide_eq_true (by first | (with_reducible assumption) | assumption)
                              have hx9 := bt_at a0 x5_2
                              replace p9 := eq_true p9
                              replace q9 := eq_true q9
                              have p11 : 0 ≤ (x5_2 : Int) := of_decide_eq_true (by first | (with_reducible assumption) | assumption)
                              have q11 : x5_2 < (a0.size : Int) := of_decide_eq_true (by first | (with_reducible assumption) | assumption)
                              have hx11 := bt_at a0 x5_2
                              replace p11 := eq_true p11
                              replace q11 := eq_true q11
                              go_wp2_with (first | (go_at_call 144; (with_reducible refine (abutmentref01_Value.calls k2 (a0.extract ((ji14) : Int).toNat ((wrap64 ((ji14) + 1)) : Int).toNat) false _ A18.out).mono ?_); rintro e w' ⟨rfl, ⟨nd, rfl⟩⟩))
                              go_ret2
                              exact ⟨by first | rfl | (simp; done) | (simp only [← hji14] <;> (first | rfl | simp)) | (simp [*]; done), by repeat (first | exact Drawn0.refl _ | apply Drawn0.step)⟩
                          · rw [if_neg c17] at H
                            exact absurd H (by simp)
                        · rw [if_neg c16] at H
                          exact absurd H (by simp)
                      · rw [if_neg c15] at H
                        exact absurd H (by simp)
                  · rw [if_neg c12] at H
                    have c12b0 : ((bt a0 x5_2) == 92) = false := beq_eq_false_iff_ne.mpr c12
                    have c12b1 : ((bt a0 x5_2) != 92) = true := bne_iff_ne.mpr c12
                    by_cases c24 : x5_2 ≥ (a0.size : Int)
                    · rw [if_pos c24] at H
                      have c24b0 : decide ((a0.size : Int) ≤ x5_2) = true := decide_eq_true c24
                      clear c24
                      simp only [Option.some.injEq, Prod.mk.injEq] at H
                      obtain ⟨rfl, rfl⟩ := H
                      have p9 : 0 ≤ (x5_2 : Int) := of_decide_eq_true (by first | (with_reducible assumption) | assumption)
                      have q9 : x5_2 < (a0.size : Int) := of_decide_eq_true (by first | (with_reducible assumption) | assumption)
                      have hx9 := bt_at a0 x5_2
                      replace p9 := eq_true p9
                      replace q9 := eq_true q9
                      have p11 : 0 ≤ (x5_2 : Int) := of_decide_eq_true (by first | (with_reducible assumption) | assumption)
                      have q11 : x5_2 < (a0.size : Int) := of_decide_eq_true (by first | (with_reducible assumption) | assumption)
                      have hx11 := bt_at a0 x5_2
                      replace p11 := eq_true p11
                      replace q11 := eq_true q11
                      go_wp2
                      go_ret2
                      exact ⟨by first | rfl | (simp; done) | (simp [*]; done), by repeat (first | exact Drawn0.refl _ | apply Drawn0.step)⟩
                    · rw [if_neg c24] at H
                      have c24b0 : decide ((a0.size : Int) ≤ x5_2) = false := decide_eq_false c24
                      clear c24
                      have c25b0 := eq_true (of_decide_eq_true (by first | (with_reducible assumption) | assumption) : 0 ≤ x5_2)
                      by_cases c26 : x5_2 ≤ (wrap64 (x5_2 + 1))
                      · rw [if_pos c26] at H
                        have c26b0 := eq_true c26
                        have c26b1 : decide (x5_2 ≤ (wrap64 (x5_2 + 1))) = true := decide_eq_true c26
                        by_cases c27 : (wrap64 (x5_2 + 1)) ≤ (a0.size : Int)
                        · rw [if_pos c27] at H
                          have c27b0 := eq_true c27
                          have c27b1 : decide ((wrap64 (x5_2 + 1)) ≤ (a0.size : Int)) = true := decide_eq_true c27
                          replace H := Option.bind_eq_some_iff.mp H
                          obtain ⟨t102, A280, H⟩ := H
                          (try dsimp only at H)
                          have A28 := Aside0.mk A280
                          clear A280
                          by_cases c29 : t102 = true
                          · subst c29
                            have H1 : (if x4_2.size + (a0.extract (x5_2 : Int).toNat ((wrap64 (x5_2 + 1)) : Int).toNat).size ≤ 9223372036854775807 then (abutmentref04_Quoted.l0 k2 a0 (x4_2 ++ (a0.extract (x5_2 : Int).toNat ((wrap64 (x5_2 + 1)) : Int).toNat)) (wrap64 (x5_2 + 1))) else (none)) = some (r1, r2) := by rw [if_pos rfl] at H; exact H
                            clear H
                            have H := H1
                            clear H1
                            have c30b0 := eq_true (of_decide_eq_true (by first | (with_reducible assumption) | assumption) : 0 ≤ x5_2)
                            have c31b0 := eq_true (of_decide_eq_true (by first | (with_reducible assumption) | assumption) : x5_2 ≤ (wrap64 (x5_2 + 1)))
                            have c32b0 := eq_true (of_decide_eq_true (by first | (with_reducible assumption) | assumption) : (wrap64 (x5_2 + 1)) ≤ (a0.size : Int))
                            by_cases c33 : x4_2.size + (a0.extract (x5_2 : Int).toNat ((wrap64 (x5_2 + 1)) : Int).toNat).size ≤ 9223372036854775807
                            · rw [if_pos c33] at H
                              have c33b0 := eq_true c33
                              have c33b1 : decide (x4_2.size + (a0.extract (x5_2 : Int).toNat ((wrap64 (x5_2 + 1)) : Int).toNat).size ≤ 9223372036854775807) = true := decide_eq_true c33
                              try have c33b2 : (9223372036854775807 < x4_2.size + (a0.extract (x5_2 : Int).toNat ((wrap64 (x5_2 + 1)) : Int).toNat).size) = False := eq_false (Nat.not_lt.2 c33)
                              have H' := Aside0.mk H
                              clear H
                              have p9 : 0 ≤ (x5_2 : Int) := of_decide_eq_true (by first | (with_reducible assumption) | assumption)
                              have q9 : x5_2 < (a0.size : Int) := of_decide_eq_true (by first | (with_reducible assumption) | assumption)
                              have hx9 := bt_at a0 x5_2
                              replace p9 := eq_true p9
                              replace q9 := eq_true q9
                              have p11 : 0 ≤ (x5_2 : Int) := of_decide_eq_true (by first | (with_reducible assumption) | assumption)
                              have q11 : x5_2 < (a0.size : Int) := of_decide_eq_true (by first | (with_reducible assumption) | assumption)
                              have hx11 := bt_at a0 x5_2
                              replace p11 := eq_true p11
                              replace q11 := eq_true q11
                              go_wp2_with (first | (go_at_call 144; (with_reducible refine (abutmentref01_Value.calls k2 (a0.extract (x5_2 : Int).toNat ((wrap64 (x5_2 + 1)) : Int).toNat) true _ A28.out).mono ?_); rintro e w' ⟨rfl, ⟨nd, rfl⟩⟩))
                              go_roundg k2
                              case measure => have := HJ1.out; have := HK2.out; omega
                              case rel => exact ⟨(x4_2 ++ (a0.extract (x5_2 : Int).toNat ((wrap64 (x5_2 + 1)) : Int).toNat)), (wrap64 (x5_2 + 1)), (by first | rfl | (simp; done) | (simp [*]; done)), (by first | rfl | (simp; done) | (simp [*]; done)), H', ⟨by have := HJ1.out; have := HK2.out; omega⟩, by repeat (first | exact Drawn0.refl _ | apply Drawn0.step)⟩
                            · rw [if_neg c33] at H
                              exact absurd H (by simp)
                          · replace c29 := Bool.eq_false_iff.mpr c29
                            subst c29
                            have H1 : (some ((⟨#[]⟩ : ByteArray), 0)) = some (r1, r2) := by rw [if_neg (show ¬ (false = true) by decide)] at H; exact H
                            clear H
                            have H := H1
                            clear H1
                            simp only [Option.some.injEq, Prod.mk.injEq] at H
                            obtain ⟨rfl, rfl⟩ := H
                            have p9 : 0 ≤ (x5_2 : Int) := of_decide_eq_true (by first | (with_reducible assumption) | assumption)
                            have q9 : x5_2 < (a0.size : Int) := of_decide_eq_true (by first | (with_reducible assumption) | assumption)
                            have hx9 := bt_at a0 x5_2
                            replace p9 := eq_true p9
                            replace q9 := eq_true q9
                            have p11 : 0 ≤ (x5_2 : Int) := of_decide_eq_true (by first | (with_reducible assumption) | assumption)
                            have q11 : x5_2 < (a0.size : Int) := of_decide_eq_true (by first | (with_reducible assumption) | assumption)
                            have hx11 := bt_at a0 x5_2
                            replace p11 := eq_true p11
                            replace q11 := eq_true q11
                            go_wp2_with (first | (go_at_call 144; (with_reducible refine (abutmentref01_Value.calls k2 (a0.extract (x5_2 : Int).toNat ((wrap64 (x5_2 + 1)) : Int).toNat) false _ A28.out).mono ?_); rintro e w' ⟨rfl, ⟨nd, rfl⟩⟩))
                            go_ret2
                            exact ⟨by first | rfl | (simp; done) | (simp [*]; done), by repeat (first | exact Drawn0.refl _ | apply Drawn0.step)⟩
                        · rw [if_neg c27] at H
                          exact absurd H (by simp)
                      · rw [if_neg c26] at H
                        exact absurd H (by simp)
              · rw [if_neg c8] at H
                exact absurd H (by simp)
            · rw [if_neg c7] at H
              have c7b0 : decide (x5_2 < (a0.size : Int)) = false := decide_eq_false c7
              clear c7
              simp only [Option.some.injEq, Prod.mk.injEq] at H
              obtain ⟨rfl, rfl⟩ := H
              go_wp2
              go_ret2
              exact ⟨by first | rfl | (simp; done) | (simp [*]; done), by repeat (first | exact Drawn0.refl _ | apply Drawn0.step)⟩
end Go.Proofs.Ytjnhghplfdiijaa.Q
