/- Back, part 1: contracts of functions and plain laws, one behind the other (joined by wip/merge.py out of: QB Hpure Q165 Q119 Htrim QS176 Hoctet Hcursor Q160 Hlower Q145 Q92 Q144 Q123 Hpre1 Q136 Hpre2 Hone Q115 Hfuncs Hheader Shelf Hjoin Q72 Q93 Hpre4 Q133 Q135 Q137 Hnext Hparam). -/
import Derived.Test.YtjnhghplfdiijaaMBack0
import Derived.Test.YtjnhghplfdiijaaProg
import Derived.Below
import Derived.Deep.Draws
import Derived.Deep.AppendLies
import Derived.Maps.AppendAt
import Derived.OwnWalk
import Derived.Laws.BytesArg
import Derived.Laws.MakeOwn
import Derived.Laws.OwnMore
import Derived.Deep.OwnRows
import Derived.Tactics
import Derived.Lib.ConvBytes
import Derived.Laws.Slices
import Derived.WalkKit
import Derived.KernelRfl
import Derived.RowKit3
import Derived.Deep.LoopGhost
import Derived.Deep.QuietTactic
import Derived.BigQuiet
import Derived.WideLaws
import Derived.Deep.DeepCutAuto
import Derived.Deep.CutBlock
import Derived.Deep.RegionHeld3
import Derived.Laws.Rows
import Derived.Lib.AppendStr
import Derived.ArgAppend
import Derived.Laws.IdiomCopy
import Derived.OrdersHeld
import Derived.Laws.BitsLemmas
import Derived.RowKit
import Derived.Laws.RangeAny
import Derived.Lib.OthersKept
import Derived.Shelf.Abstract
import Derived.Laws.IdiomStrings
import Derived.IntWalk
import Derived.Shelf.Strings.Builder1
import Derived.Shelf.Strings.Builder2
import Derived.Shelf.Strings.OnBuilder
import Derived.Shelf.Strings.BuilderF
import Derived.Shelf.Strings.BuilderK
import Derived.Shelf.Strings.Builder2Cap
import Derived.Shelf.Strings.Prefix
import Derived.Shelf.Bits.Mul64
import Derived.Shelf.Strings.Repeat
import Derived.Shelf.Strings.BuilderCap
namespace Go.Proofs.Ytjnhghplfdiijaa.Q
open Go.RowKit Go.Proofs.YtjnhghplfdiijaaW.PrintWords Go.Proofs.YtjnhghplfdiijaaW.PrintLast Go.Proofs.YtjnhghplfdiijaaW.PrintMore
attribute [local go_sem] max2_int min2_int max_two min_two max_three min_three max_four min_four
set_option linter.unusedVariables false
set_option linter.unusedSimpArgs false
def errW : Option Int → Value
  | none => .nilIface
  | some c => .iface 0 (.int .i64 c)
theorem errW_none : errW none = .nilIface := rfl
theorem errW_some (c : Int) : errW (some c) = .iface 0 (.int .i64 c) := rfl
theorem info5 : (Try.prog.info? 5).map (fun i => (i.zero, i.size, i.bytes)) = some (some (.int .u8 0), 1, 1) := by kernel_rfl
theorem info9 : (Try.prog.info? 9).map (fun i => (i.zero, i.size, i.bytes)) = some (some (.string ⟨#[]⟩), 1, 16) := by kernel_rfl
theorem info51 : (Try.prog.info? 51).map (fun i => (i.zero, i.size, i.bytes)) = some (some (.agg #[(.string ⟨#[]⟩), (.string ⟨#[]⟩), (.bool false)]), 3, 40) := by kernel_rfl
structure S60 where
  f0 : ByteArray
  f1 : ByteArray
def z60 : S60 := ⟨(⟨#[]⟩ : ByteArray), (⟨#[]⟩ : ByteArray)⟩
def k60 : Kd S60 := Kd.iso (Kd.pair Kd.string Kd.string) (fun x : S60 => (x.f0, x.f1))
theorem k60_open {w : World} {x : S60} {cs : List Value} (h : k60.K w x cs) : cs = [.string x.f0, .string x.f1] := by
  obtain ⟨_, _, rfl, rfl, rfl⟩ := h
  exact rfl
theorem k60_mkM (w : World) (base : Nat) (ok : Nat → Prop) (x : S60)  : k60.M w base ok x [.string x.f0, .string x.f1] := ⟨[.string x.f0], [.string x.f1], rfl, rfl, rfl⟩
def rd_T60 (xs : List S60) (i : Int) : S60 := xs.getD i.toNat z60
theorem at_T60 {w : World} {A : Option Addr} {n : Nat} {xs : List S60} (h : Kd.C k60 w A n xs) (i : Int) (h0 : 0 ≤ i) (h1 : i < n) : ∃ ad , A = some ad ∧ w.cell? (ad.add (i.toNat * 2)) = some (.string (rd_T60 xs i).f0) ∧ w.cell? ⟨(ad.add (i.toNat * 2)).block, (ad.add (i.toNat * 2)).off + 1, none⟩ = some (.string (rd_T60 xs i).f1) := by
  obtain ⟨ad, c, e, _, hK, hc0⟩ := Kd.C_get h z60 i h0 h1
  have hc : ∀ j u, c[j]? = some u → w.cell? (ad.add (i.toNat * 2 + j)) = some u := hc0
  obtain rfl := k60_open hK
  exact ⟨ad, e, hc 0 _ rfl, by rw [← add_field _ _ 1 (by omega)]; exact hc 1 _ rfl⟩
structure S141 where
  f0 : ByteArray
  f1 : ByteArray
def k141 : Kd S141 := Kd.iso (Kd.pair Kd.string Kd.string) (fun x : S141 => (x.f0, x.f1))
structure S51 where
  f0 : ByteArray
  f1 : ByteArray
  f2 : Bool
def z51 : S51 := ⟨(⟨#[]⟩ : ByteArray), (⟨#[]⟩ : ByteArray), false⟩
def k51 : Kd S51 := Kd.iso (Kd.pair Kd.string (Kd.pair Kd.string Kd.bool)) (fun x : S51 => (x.f0, x.f1, x.f2))
theorem k51_open {w : World} {x : S51} {cs : List Value} (h : k51.K w x cs) : cs = [.string x.f0, .string x.f1, .bool x.f2] := by
  obtain ⟨_, _, rfl, rfl, ⟨_, _, rfl, rfl, rfl⟩⟩ := h
  exact rfl
theorem k51_mkM (w : World) (base : Nat) (ok : Nat → Prop) (x : S51)  : k51.M w base ok x [.string x.f0, .string x.f1, .bool x.f2] := ⟨[.string x.f0], [.string x.f1, .bool x.f2], rfl, rfl, ⟨[.string x.f1], [.bool x.f2], rfl, rfl, rfl⟩⟩
def rd_T51 (xs : List S51) (i : Int) : S51 := xs.getD i.toNat z51
theorem at_T51 {w : World} {A : Option Addr} {n : Nat} {xs : List S51} (h : Kd.C k51 w A n xs) (i : Int) (h0 : 0 ≤ i) (h1 : i < n) : ∃ ad , A = some ad ∧ w.cell? (ad.add (i.toNat * 3)) = some (.string (rd_T51 xs i).f0) ∧ w.cell? ⟨(ad.add (i.toNat * 3)).block, (ad.add (i.toNat * 3)).off + 1, none⟩ = some (.string (rd_T51 xs i).f1) ∧ w.cell? ⟨(ad.add (i.toNat * 3)).block, (ad.add (i.toNat * 3)).off + 2, none⟩ = some (.bool (rd_T51 xs i).f2) := by
  obtain ⟨ad, c, e, _, hK, hc0⟩ := Kd.C_get h z51 i h0 h1
  have hc : ∀ j u, c[j]? = some u → w.cell? (ad.add (i.toNat * 3 + j)) = some u := hc0
  obtain rfl := k51_open hK
  exact ⟨ad, e, hc 0 _ rfl, by rw [← add_field _ _ 1 (by omega)]; exact hc 1 _ rfl, by rw [← add_field _ _ 2 (by omega)]; exact hc 2 _ rfl⟩
structure S75 where
  f0 : Int
  f1 : Int
  f2 : Int
  f3 : Int
  f4 : Int
  f5 : Int
def z75 : S75 := ⟨(0 : Int), (0 : Int), (0 : Int), (0 : Int), (0 : Int), (0 : Int)⟩
end Go.Proofs.Ytjnhghplfdiijaa.Q

namespace Go.Proofs.Ytjnhghplfdiijaa.Q
open Go.RowKit Go.Proofs.YtjnhghplfdiijaaW.PrintWords Go.Proofs.YtjnhghplfdiijaaW.PrintLast Go.Proofs.YtjnhghplfdiijaaW.PrintMore
set_option linter.unusedVariables false
set_option linter.unusedSimpArgs false
/-- A text's octets. -/
def tl (s : ByteArray) : List UInt8 := s.data.toList
def ofl (l : List UInt8) : ByteArray := ⟨l.toArray⟩
theorem tl_ofl (l : List UInt8) : tl (ofl l) = l := rfl
theorem ofl_tl (s : ByteArray) : ofl (tl s) = s := by cases s; simp [ofl, tl]
theorem tl_inj {a b : ByteArray} (h : tl a = tl b) : a = b := by rw [← ofl_tl a, ← ofl_tl b, h]
theorem tl_length (s : ByteArray) : (tl s).length = s.size := by unfold tl; rw [Array.length_toList]; rfl
theorem ofl_size (l : List UInt8) : (ofl l).size = l.length := by simp [ofl, ByteArray.size]
theorem tl_extract (s : ByteArray) (a b : Nat) : tl (s.extract a b) = ((tl s).drop a).take (b - a) := by
  simp [tl, ByteArray.data_extract, List.drop_take]
theorem tl_append (a b : ByteArray) : tl (a ++ b) = tl a ++ tl b := by simp [tl, ByteArray.data_append]
theorem bt_nat (s : ByteArray) (i : Nat) : bt s (i : Int) = match (tl s)[i]? with | some c => (c.toNat : Int) | none => 0 := by
  unfold bt
  by_cases h : i < s.size
  · have h2 : i < (tl s).length := by rw [tl_length]; exact h
    rw [dif_pos (by simpa using h), List.getElem?_eq_getElem h2]
    rfl
  · have h2 : ¬ i < (tl s).length := by rw [tl_length]; exact h
    rw [dif_neg (by simpa using h), List.getElem?_eq_none (by omega)]
theorem bt_of {s : ByteArray} {i : Nat} {c : UInt8} (h : (tl s)[i]? = some c) : bt s (i : Int) = (c.toNat : Int) := by rw [bt_nat, h]
theorem get_lt {s : ByteArray} {i : Nat} (h : i < s.size) : ∃ c, (tl s)[i]? = some c := ⟨_, List.getElem?_eq_getElem (by rw [tl_length]; exact h)⟩
theorem drop_of {l : List UInt8} {i : Nat} {c : UInt8} (h : l[i]? = some c) : l.drop i = c :: l.drop (i + 1) := by
  obtain ⟨hlt, rfl⟩ := List.getElem?_eq_some_iff.1 h
  exact List.drop_eq_getElem_cons hlt
theorem wrap_small {x : Int} (h0 : -9223372036854775808 ≤ x) (h1 : x ≤ 9223372036854775807) : wrap64 x = x := by unfold wrap64; omega
theorem u8_int {c : UInt8} {n : Nat} (h : n < 256) : (c.toNat : Int) = (n : Int) ↔ c = UInt8.ofNat n := by
  constructor
  · intro e
    have e2 : c.toNat = n := by omega
    rw [← e2]; simp
  · rintro rfl
    simp [Nat.mod_eq_of_lt h]
theorem emp_cases (s : ByteArray) : ((s.toList == ([] : List UInt8)) = true ∧ (s.toList != ([] : List UInt8)) = false ∧ s.toList.isEmpty = true) ∨ ((s.toList == ([] : List UInt8)) = false ∧ (s.toList != ([] : List UInt8)) = true ∧ s.toList.isEmpty = false) := by
  cases s.toList with
  | nil => left; exact ⟨rfl, rfl, rfl⟩
  | cons a b => right; exact ⟨rfl, rfl, rfl⟩
/-- Is an octet a blank or a tab? -/
def blk (c : UInt8) : Bool := c == 32 || c == 9
theorem blk_int (c : UInt8) : blk c = (decide ((c.toNat : Int) = 32) || decide ((c.toNat : Int) = 9)) := by
  unfold blk
  have h1 : (c == 32) = decide ((c.toNat : Int) = 32) := by
    rw [Bool.eq_iff_iff]; simp only [beq_iff_eq, decide_eq_true_eq]
    exact (u8_int (c := c) (n := 32) (by omega)).symm
  have h2 : (c == 9) = decide ((c.toNat : Int) = 9) := by
    rw [Bool.eq_iff_iff]; simp only [beq_iff_eq, decide_eq_true_eq]
    exact (u8_int (c := c) (n := 9) (by omega)).symm
  rw [h1, h2]
/-- Blanks and tabs taken off the end. -/
def trimR (l : List UInt8) : List UInt8 := (l.reverse.dropWhile blk).reverse
def trimL (l : List UInt8) : List UInt8 := trimR (l.dropWhile blk)
def trimB (s : ByteArray) : ByteArray := ofl (trimL (tl s))
theorem trimR_nil : trimR [] = [] := rfl
theorem trimR_snoc (l : List UInt8) (c : UInt8) : trimR (l ++ [c]) = if blk c = true then trimR l else l ++ [c] := by
  unfold trimR
  rw [List.reverse_append, List.reverse_singleton, List.singleton_append, List.dropWhile_cons]
  split
  · rfl
  · simp
theorem trimR_length (l : List UInt8) : (trimR l).length ≤ l.length := by
  unfold trimR
  rw [List.length_reverse]
  have := (List.dropWhile_sublist (l := l.reverse) (p := blk)).length_le
  simpa using this
theorem trimL_length (l : List UInt8) : (trimL l).length ≤ l.length := by
  unfold trimL
  exact Nat.le_trans (trimR_length _) (List.dropWhile_sublist _).length_le
theorem trimB_size (s : ByteArray) : (trimB s).size ≤ s.size := by
  unfold trimB
  rw [ofl_size, ← tl_length]
  exact trimL_length _
end Go.Proofs.Ytjnhghplfdiijaa.Q

namespace Go.Proofs.Ytjnhghplfdiijaa.Q
open Go.RowKit Go.Proofs.YtjnhghplfdiijaaW.PrintWords Go.Proofs.YtjnhghplfdiijaaW.PrintLast Go.Proofs.YtjnhghplfdiijaaW.PrintMore
attribute [local go_sem] max2_int min2_int max_two min_two max_three min_three max_four min_four
set_option linter.unusedVariables false
set_option linter.unusedSimpArgs false
def octet_blank.f (a0 : Int) : Option (Bool) := if a0 = 32 then (some true) else (some (a0 == 9))
set_option maxHeartbeats 8000000 in
set_option maxRecDepth 100000 in
theorem octet_blank.calls (a0 : Int) (r : Bool) (w : World) (h : octet_blank.f a0 = some r) :
    Calls Try.prog 165 #[.int .u8 a0] w fun e w' => e = .returned (.bool r) ∧ Drawn0 w w' := by
  have H : (if a0 = 32 then (some true) else (some (a0 == 9))) = some r := h
  clear h
  by_cases c2 : a0 = 32
  · rw [if_pos c2] at H
    have c2b0 : (a0 == 32) = true := beq_iff_eq.mpr c2
    have c2b1 : (a0 != 32) = false := bne_eq_false_iff_eq.mpr c2
    clear c2
    obtain rfl := Option.some.inj H
    go_enter Try.func165, Try.ntmps165
    go_wp2
    go_ret
    exact ⟨by first | rfl | (simp; done) | (simp [*]; done), by repeat (first | exact Drawn0.refl _ | apply Drawn0.step)⟩
  · rw [if_neg c2] at H
    have c2b0 : (a0 == 32) = false := beq_eq_false_iff_ne.mpr c2
    have c2b1 : (a0 != 32) = true := bne_iff_ne.mpr c2
    obtain rfl := Option.some.inj H
    go_enter Try.func165, Try.ntmps165
    go_wp2
    go_ret
    exact ⟨by first | rfl | (simp; done) | (simp [*]; done), by repeat (first | exact Drawn0.refl _ | apply Drawn0.step)⟩
end Go.Proofs.Ytjnhghplfdiijaa.Q

namespace Go.Proofs.Ytjnhghplfdiijaa.Q
open Go.RowKit Go.Proofs.YtjnhghplfdiijaaW.PrintWords Go.Proofs.YtjnhghplfdiijaaW.PrintLast Go.Proofs.YtjnhghplfdiijaaW.PrintMore
attribute [local go_sem] max2_int min2_int max_two min_two max_three min_three max_four min_four
set_option linter.unusedVariables false
set_option linter.unusedSimpArgs false
mutual
def octet_Trim.j1 : Nat → ByteArray → Int → Int → Option (ByteArray)
  | 0, _, _, _ => none
  | k + 1, x0, x3, x4 => octet_Trim.l1 k x0 x3 x4
def octet_Trim.l1 : Nat → ByteArray → Int → Int → Option (ByteArray)
  | 0, _, _, _ => none
  | k + 1, x0, x3, x4 => if x3 < x4 then (if 0 ≤ (wrap64 (x4 - 1)) then (if (wrap64 (x4 - 1)) < (x0.size : Int) then ((octet_blank.f (bt x0 (wrap64 (x4 - 1)))).bind fun t102 => (if t102 = true then (octet_Trim.l1 k x0 x3 (wrap64 (x4 - 1))) else (if 0 ≤ x3 then (if x3 ≤ x4 then (if x4 ≤ (x0.size : Int) then (some (x0.extract (x3 : Int).toNat (x4 : Int).toNat)) else (none)) else (none)) else (none)))) else (none)) else (none)) else (if 0 ≤ x3 then (if x3 ≤ x4 then (if x4 ≤ (x0.size : Int) then (some (x0.extract (x3 : Int).toNat (x4 : Int).toNat)) else (none)) else (none)) else (none))
def octet_Trim.l0 : Nat → ByteArray → Int → Int → Option (ByteArray)
  | 0, _, _, _ => none
  | k + 1, x0, x3, x4 => if x3 < x4 then (if 0 ≤ x3 then (if x3 < (x0.size : Int) then ((octet_blank.f (bt x0 x3)).bind fun t101 => (if t101 = true then (octet_Trim.l0 k x0 (wrap64 (x3 + 1)) x4) else (octet_Trim.j1 k x0 x3 x4))) else (none)) else (none)) else (octet_Trim.j1 k x0 x3 x4)
end
def octet_Trim.f (k : Nat) (a0 : ByteArray) : Option (ByteArray) := octet_Trim.l0 k a0 0 (a0.size : Int)
set_option maxHeartbeats 8000000 in
set_option maxRecDepth 100000 in
theorem octet_Trim.calls (k : Nat) (a0 : ByteArray) (r : ByteArray) (w : World) (h : octet_Trim.f k a0 = some r) :
    Calls Try.prog 119 #[.string a0] w fun e w' => e = .returned (.string r) ∧ Drawn0 w w' := by
  have H : (octet_Trim.l0 k a0 0 (a0.size : Int)) = some r := h
  clear h
  have HC2 := Aside0.mk H
  clear H
  go_enter Try.func119, Try.ntmps119
  go_upto_block 0 with (fail)
  go_cut [3] (fun v3 wc => ∃ (kq : Nat) (x3_1 : Int), v3 = .int .i64 x3_1 ∧ Aside0 (octet_Trim.j1 kq a0 x3_1 (a0.size : Int) = some r) ∧ Aside0 (kq ≤ k) ∧ Drawn0 w wc)
  case first =>
    have H := HC2.out
    clear HC2
    have H' := Aside0.mk H
    clear H
    go_wp2
    go_loopg [3] k (fun kq v3 w' => ∃ (x3_1 : Int), v3 = .int .i64 x3_1 ∧ Aside0 (octet_Trim.l0 kq a0 x3_1 (a0.size : Int) = some r) ∧ Aside0 (kq ≤ k) ∧ Drawn0 w w')
    case atStart => exact ⟨(0), (by first | rfl | (simp; done) | (simp [*]; done)), H', ⟨Nat.le_refl _⟩, by repeat (first | exact Drawn0.refl _ | apply Drawn0.step)⟩
    case round =>
      clear H'
      try clear c1
      try clear p2
      obtain ⟨x3_1, rfl, HA, HK1, ⟨m1, rfl⟩⟩ := hrel
      cases gk with
      | zero => exact absurd HA.out (by simp [octet_Trim.l0])
      | succ k1 =>
        have H := HA.out
        clear HA
        simp only [octet_Trim.l0] at H
        by_cases c3 : x3_1 < (a0.size : Int)
        · rw [if_pos c3] at H
          have c3b0 : decide (x3_1 < (a0.size : Int)) = true := decide_eq_true c3
          clear c3
          (first | rw [c3b0] | (simp only [i64_w, i32_w]; rw [c3b0]) | skip)
          by_cases c4 : 0 ≤ x3_1
          · rw [if_pos c4] at H
            have c4b0 : decide (0 ≤ x3_1) = true := decide_eq_true c4
            clear c4
            by_cases c5 : x3_1 < (a0.size : Int)
            · rw [if_pos c5] at H
              have c5b0 : decide (x3_1 < (a0.size : Int)) = true := decide_eq_true c5
              clear c5
              replace H := Option.bind_eq_some_iff.mp H
              obtain ⟨t101, A70, H⟩ := H
              (try dsimp only at H)
              have A7 := Aside0.mk A70
              clear A70
              by_cases c8 : t101 = true
              · subst c8
                have H1 : (octet_Trim.l0 k1 a0 (wrap64 (x3_1 + 1)) (a0.size : Int)) = some r := by rw [if_pos rfl] at H; exact H
                clear H
                have H := H1
                clear H1
                have H' := Aside0.mk H
                clear H
                have p6 : 0 ≤ (x3_1 : Int) := of_decide_eq_true (by first | (with_reducible assumption) | assumption)
                have q6 : x3_1 < (a0.size : Int) := of_decide_eq_true (by first | (with_reducible assumption) | assumption)
                have hx6 := bt_at a0 x3_1
                replace p6 := eq_true p6
                replace q6 := eq_true q6
                go_wp2_with (first | (go_at_call 165; (with_reducible refine (octet_blank.calls (bt a0 x3_1) true _ A7.out).mono ?_); rintro e w' ⟨rfl, ⟨nd, rfl⟩⟩))
                go_roundg k1
                case measure => have := HK1.out; omega
                case rel => exact ⟨(wrap64 (x3_1 + 1)), (by first | rfl | (simp; done) | (simp [*]; done)), H', ⟨by have := HK1.out; omega⟩, by repeat (first | exact Drawn0.refl _ | apply Drawn0.step)⟩
              · replace c8 := Bool.eq_false_iff.mpr c8
                subst c8
                have H1 : (octet_Trim.j1 k1 a0 x3_1 (a0.size : Int)) = some r := by rw [if_neg (show ¬ (false = true) by decide)] at H; exact H
                clear H
                have H := H1
                clear H1
                have H' := Aside0.mk H
                clear H
                have p6 : 0 ≤ (x3_1 : Int) := of_decide_eq_true (by first | (with_reducible assumption) | assumption)
                have q6 : x3_1 < (a0.size : Int) := of_decide_eq_true (by first | (with_reducible assumption) | assumption)
                have hx6 := bt_at a0 x3_1
                replace p6 := eq_true p6
                replace q6 := eq_true q6
                go_wp2_with (first | (go_at_call 165; (with_reducible refine (octet_blank.calls (bt a0 x3_1) false _ A7.out).mono ?_); rintro e w' ⟨rfl, ⟨nd, rfl⟩⟩))
                go_meet
                case rel => exact ⟨_, (x3_1), (by first | rfl | (simp; done) | (simp [*]; done)), H', ⟨by have := HK1.out; first | omega | exact Nat.le_refl _⟩, by repeat (first | exact Drawn0.refl _ | apply Drawn0.step)⟩
            · rw [if_neg c5] at H
              exact absurd H (by simp)
          · rw [if_neg c4] at H
            exact absurd H (by simp)
        · rw [if_neg c3] at H
          have c3b0 : decide (x3_1 < (a0.size : Int)) = false := decide_eq_false c3
          clear c3
          (first | rw [c3b0] | (simp only [i64_w, i32_w]; rw [c3b0]) | skip)
          have H' := Aside0.mk H
          clear H
          go_wp2
          go_meet
          case rel => exact ⟨_, (x3_1), (by first | rfl | (simp; done) | (simp [*]; done)), H', ⟨by have := HK1.out; first | omega | exact Nat.le_refl _⟩, by repeat (first | exact Drawn0.refl _ | apply Drawn0.step)⟩
  case rest =>
    clear HC2
    try clear c1
    try clear p2
    try clear c3
    try clear c3b0
    try clear c4
    try clear c4b0
    try clear c5
    try clear c5b0
    try clear p6
    try clear q6
    try clear hx6
    try clear c8
    try clear p2
    try clear p6
    try clear q6
    obtain ⟨kq, x3_1, rfl, HA, HJ1, ⟨mc1, rfl⟩⟩ := hcut
    cases kq with
    | zero => exact absurd HA.out (by simp [octet_Trim.j1])
    | succ kj1 =>
      have H := HA.out
      clear HA
      simp only [octet_Trim.j1] at H
      have H' := Aside0.mk H
      clear H
      go_wp2
      go_loopg [4] kj1 (fun kq v4 w' => ∃ (x4_2 : Int), v4 = .int .i64 x4_2 ∧ Aside0 (octet_Trim.l1 kq a0 x3_1 x4_2 = some r) ∧ Aside0 (kq ≤ kj1) ∧ Drawn0 w w')
      case atStart => exact ⟨((a0.size : Int)), (by first | rfl | (simp; done) | (simp [*]; done)), H', ⟨Nat.le_refl _⟩, by repeat (first | exact Drawn0.refl _ | apply Drawn0.step)⟩
      case round =>
        clear H'
        try clear c1
        try clear p2
        try clear c3
        try clear c3b0
        try clear c4
        try clear c4b0
        try clear c5
        try clear c5b0
        try clear p6
        try clear q6
        try clear hx6
        try clear c8
        try clear p2
        try clear p6
        try clear q6
        obtain ⟨x4_2, rfl, HA, HK2, ⟨m2, rfl⟩⟩ := hrel
        cases gk with
        | zero => exact absurd HA.out (by simp [octet_Trim.l1])
        | succ k2 =>
          have H := HA.out
          clear HA
          simp only [octet_Trim.l1] at H
          by_cases c9 : x3_1 < x4_2
          · rw [if_pos c9] at H
            have c9b0 : decide (x3_1 < x4_2) = true := decide_eq_true c9
            clear c9
            obtain ⟨ji10, hji10⟩ : ∃ j_ : Int, (wrap64 (x4_2 - 1)) = j_ := ⟨_, rfl⟩
            replace H : (if 0 ≤ (ji10) then (if (ji10) < (a0.size : Int) then ((octet_blank.f (bt a0 (ji10))).bind fun t102 => (if t102 = true then (octet_Trim.l1 k2 a0 x3_1 ji10) else (if 0 ≤ x3_1 then (if x3_1 ≤ x4_2 then (if x4_2 ≤ (a0.size : Int) then (some (a0.extract (x3_1 : Int).toNat (x4_2 : Int).toNat)) else (none)) else (none)) else (none)))) else (none)) else (none)) = some r := by first | (rw [hji10] at H; exact H) | (simp only [hji10] at H ⊢; exact H)
            have hji10w : (IntKind.i64.wrap (x4_2 - 1)) = ji10 := (i64_w _).trans hji10
            by_cases c11 : 0 ≤ (ji10)
            · rw [if_pos c11] at H
              have c11b0 : decide (0 ≤ (ji10)) = true := decide_eq_true c11
              clear c11
              by_cases c12 : (ji10) < (a0.size : Int)
              · rw [if_pos c12] at H
                have c12b0 : decide ((ji10) < (a0.size : Int)) = true := decide_eq_true c12
                clear c12
                replace H := Option.bind_eq_some_iff.mp H
                obtain ⟨t102, A140, H⟩ := H
                (try dsimp only at H)
                have A14 := Aside0.mk A140
                clear A140
                by_cases c15 : t102 = true
                · subst c15
                  have H1 : (octet_Trim.l1 k2 a0 x3_1 ji10) = some r := by rw [if_pos rfl] at H; exact H
                  clear H
                  have H := H1
                  clear H1
                  have H' := Aside0.mk H
                  clear H
                  have p13 : 0 ≤ ((ji10) : Int) := of_decide_eq_true (by first | (with_reducible assumption) | assumption)
                  have q13 : (ji10) < (a0.size : Int) := of_decide_eq_true (by first | (with_reducible assumption) | assumption)
                  have hx13 := bt_at a0 (ji10)
                  replace p13 := eq_true p13
                  replace q13 := eq_true q13
                  go_wp2_with (first | (go_at_call 165; (with_reducible refine (octet_blank.calls (bt a0 (ji10)) true _ A14.out).mono ?_); rintro e w' ⟨rfl, ⟨nd, rfl⟩⟩))
                  go_roundg k2
                  case measure => have := HJ1.out; have := HK2.out; omega
                  case rel => exact ⟨(ji10), (by first | rfl | (simp; done) | (simp only [← hji10] <;> (first | rfl | simp)) | (simp [*]; done)), H', ⟨by have := HJ1.out; have := HK2.out; omega⟩, by repeat (first | exact Drawn0.refl _ | apply Drawn0.step)⟩
                · replace c15 := Bool.eq_false_iff.mpr c15
                  subst c15
                  have H1 : (if 0 ≤ x3_1 then (if x3_1 ≤ x4_2 then (if x4_2 ≤ (a0.size : Int) then (some (a0.extract (x3_1 : Int).toNat (x4_2 : Int).toNat)) else (none)) else (none)) else (none)) = some r := by rw [if_neg (show ¬ (false = true) by decide)] at H; exact H
                  clear H
                  have H := H1
                  clear H1
                  by_cases c16 : 0 ≤ x3_1
                  · rw [if_pos c16] at H
                    have c16b0 := eq_true c16
                    have c16b1 : decide (0 ≤ x3_1) = true := decide_eq_true c16
                    clear c16
                    by_cases c17 : x3_1 ≤ x4_2
                    · rw [if_pos c17] at H
                      have c17b0 := eq_true c17
                      have c17b1 : decide (x3_1 ≤ x4_2) = true := decide_eq_true c17
                      clear c17
                      by_cases c18 : x4_2 ≤ (a0.size : Int)
                      · rw [if_pos c18] at H
                        have c18b0 := eq_true c18
                        have c18b1 : decide (x4_2 ≤ (a0.size : Int)) = true := decide_eq_true c18
                        clear c18
                        obtain rfl := Option.some.inj H
                        have p13 : 0 ≤ ((ji10) : Int) := of_decide_eq_true (by first | (with_reducible assumption) | assumption)
                        have q13 : (ji10) < (a0.size : Int) := of_decide_eq_true (by first | (with_reducible assumption) | assumption)
                        have hx13 := bt_at a0 (ji10)
                        replace p13 := eq_true p13
                        replace q13 := eq_true q13
                        go_wp2_with (first | (go_at_call 165; (with_reducible refine (octet_blank.calls (bt a0 (ji10)) false _ A14.out).mono ?_); rintro e w' ⟨rfl, ⟨nd, rfl⟩⟩))
                        go_ret
                        exact ⟨by first | rfl | (simp; done) | (simp only [← hji10] <;> (first | rfl | simp)) | (simp [*]; done), by repeat (first | exact Drawn0.refl _ | apply Drawn0.step)⟩
                      · rw [if_neg c18] at H
                        exact absurd H (by simp)
                    · rw [if_neg c17] at H
                      exact absurd H (by simp)
                  · rw [if_neg c16] at H
                    exact absurd H (by simp)
              · rw [if_neg c12] at H
                exact absurd H (by simp)
            · rw [if_neg c11] at H
              exact absurd H (by simp)
          · rw [if_neg c9] at H
            have c9b0 : decide (x3_1 < x4_2) = false := decide_eq_false c9
            clear c9
            by_cases c19 : 0 ≤ x3_1
            · rw [if_pos c19] at H
              have c19b0 := eq_true c19
              have c19b1 : decide (0 ≤ x3_1) = true := decide_eq_true c19
              clear c19
              by_cases c20 : x3_1 ≤ x4_2
              · rw [if_pos c20] at H
                have c20b0 := eq_true c20
                have c20b1 : decide (x3_1 ≤ x4_2) = true := decide_eq_true c20
                clear c20
                by_cases c21 : x4_2 ≤ (a0.size : Int)
                · rw [if_pos c21] at H
                  have c21b0 := eq_true c21
                  have c21b1 : decide (x4_2 ≤ (a0.size : Int)) = true := decide_eq_true c21
                  clear c21
                  obtain rfl := Option.some.inj H
                  go_wp2
                  go_ret
                  exact ⟨by first | rfl | (simp; done) | (simp [*]; done), by repeat (first | exact Drawn0.refl _ | apply Drawn0.step)⟩
                · rw [if_neg c21] at H
                  exact absurd H (by simp)
              · rw [if_neg c20] at H
                exact absurd H (by simp)
            · rw [if_neg c19] at H
              exact absurd H (by simp)
end Go.Proofs.Ytjnhghplfdiijaa.Q

namespace Go.Proofs.Ytjnhghplfdiijaa.Q
open Go.RowKit Go.Proofs.YtjnhghplfdiijaaW.PrintWords Go.Proofs.YtjnhghplfdiijaaW.PrintLast Go.Proofs.YtjnhghplfdiijaaW.PrintMore
set_option linter.unusedVariables false
set_option linter.unusedSimpArgs false
theorem octet_blank_of {s : ByteArray} {i : Nat} {c : UInt8} (h : (tl s)[i]? = some c) : octet_blank.f (bt s (i : Int)) = some (blk c) := by
  rw [bt_of h, blk_int]
  unfold octet_blank.f
  split
  · rename_i h; simp [h]
  · rename_i h
    rw [decide_eq_false h, Bool.false_or]
    congr 1
theorem trim_l1 (s : ByteArray) (hs : s.size ≤ 9223372036854775807) (a : Nat) : ∀ (d k : Nat), d < k → a + d ≤ s.size → octet_Trim.l1 k s (a : Int) ((a + d : Nat) : Int) = some (ofl (trimR (((tl s).drop a).take d)))
  | 0, k, hk, h2 => by
    obtain ⟨k, rfl⟩ : ∃ m, k = m + 1 := ⟨k - 1, by omega⟩
    simp only [octet_Trim.l1]
    rw [if_neg (by omega), if_pos (by omega), if_pos (by omega), if_pos (by omega)]
    congr 1
    apply tl_inj
    rw [tl_extract, tl_ofl]
    simp [trimR_nil]
  | d + 1, k, hk, h2 => by
    obtain ⟨k, rfl⟩ : ∃ m, k = m + 1 := ⟨k - 1, by omega⟩
    have hw : wrap64 (((a + (d + 1) : Nat) : Int) - 1) = ((a + d : Nat) : Int) := by rw [wrap_small (by omega) (by omega)]; omega
    obtain ⟨c, hc⟩ := get_lt (s := s) (i := a + d) (by omega)
    have ht : ((tl s).drop a).take (d + 1) = ((tl s).drop a).take d ++ [c] := by
      rw [List.take_add_one, List.getElem?_drop, hc]; rfl
    simp only [octet_Trim.l1]
    rw [if_pos (by omega), hw, if_pos (by omega), if_pos (by omega), octet_blank_of hc]
    simp only [Option.bind_some]
    rw [ht, trimR_snoc]
    split
    · exact trim_l1 s hs a d k (by omega) (by omega)
    · rw [if_pos (by omega), if_pos (by omega), if_pos (by omega)]
      congr 1
      apply tl_inj
      rw [tl_extract, tl_ofl, ← ht]
      congr 1
      omega
theorem trim_l0 (s : ByteArray) (hs : s.size ≤ 9223372036854775807) : ∀ (d k a : Nat), 2 * d + 3 < k → a + d = s.size → octet_Trim.l0 k s (a : Int) (s.size : Int) = some (ofl (trimL ((tl s).drop a)))
  | 0, k, a, hk, h2 => by
    obtain ⟨k, rfl⟩ : ∃ m, k = m + 1 := ⟨k - 1, by omega⟩
    obtain ⟨k, rfl⟩ : ∃ m, k = m + 1 := ⟨k - 1, by omega⟩
    simp only [octet_Trim.l0, octet_Trim.j1]
    rw [if_neg (by omega)]
    have := trim_l1 s hs a 0 k (by omega) (by omega)
    rw [show ((a + 0 : Nat) : Int) = (s.size : Int) by omega] at this
    rw [this, List.drop_eq_nil_of_le (by rw [tl_length]; omega)]
    simp [trimL]
  | d + 1, k, a, hk, h2 => by
    obtain ⟨k, rfl⟩ : ∃ m, k = m + 1 := ⟨k - 1, by omega⟩
    obtain ⟨c, hc⟩ := get_lt (s := s) (i := a) (by omega)
    have hw : wrap64 ((a : Int) + 1) = ((a + 1 : Nat) : Int) := by rw [wrap_small (by omega) (by omega)]; omega
    simp only [octet_Trim.l0]
    rw [if_pos (by omega), if_pos (by omega), if_pos (by omega), octet_blank_of hc]
    simp only [Option.bind_some]
    rw [drop_of hc]
    unfold trimL
    rw [List.dropWhile_cons]
    split
    · rw [hw]
      have := trim_l0 s hs d k (a + 1) (by omega) (by omega)
      unfold trimL at this
      exact this
    · obtain ⟨k, rfl⟩ : ∃ m, k = m + 1 := ⟨k - 1, by omega⟩
      simp only [octet_Trim.j1]
      have := trim_l1 s hs a (d + 1) k (by omega) (by omega)
      rw [h2] at this
      rw [this, ← drop_of hc, List.take_of_length_le (by rw [List.length_drop, tl_length]; omega)]
theorem trim_any (s : ByteArray) (hs : s.size ≤ 9223372036854775807) : ∃ k, octet_Trim.f k s = some (trimB s) := by
  refine ⟨2 * s.size + 4, ?_⟩
  unfold octet_Trim.f trimB
  exact trim_l0 s hs s.size _ 0 (by omega) (by omega)
end Go.Proofs.Ytjnhghplfdiijaa.Q

namespace Go.Proofs.Ytjnhghplfdiijaa.Q
open Go.RowKit Go.Proofs.YtjnhghplfdiijaaW.PrintWords Go.Proofs.YtjnhghplfdiijaaW.PrintLast Go.Proofs.YtjnhghplfdiijaaW.PrintMore
attribute [local go_sem] max2_int min2_int max_two min_two max_three min_three max_four min_four
set_option linter.unusedVariables false
set_option linter.unusedSimpArgs false
/-- A state of type 176 at block g of W; what its slices lead to came in by w0. -/
def IsS176 (w0 W : World) (g : Nat) (f0 : ByteArray) (f1 : Int) : Prop := W.heap[g]? = some (.cells #[.string f0, .int .i64 f1] 176 (0, 0)) ∧ w0.heap.size ≤ g
theorem IsS176.grown {w0 W : World} {g : Nat} {f0 : ByteArray} {f1 : Int} {W1 : World} {row : Option Nat} (h : IsS176 w0 W g f0 f1) (hw : W.grownBy W1 row) (hne : some g ≠ row) : IsS176 w0 W1 g f0 f1 := by
  obtain ⟨hb, hg⟩ := h
  exact ⟨blk_grown hb hw hne, hg⟩
theorem IsS176.kept {w0 W : World} {g : Nat} {f0 : ByteArray} {f1 : Int} {W1 : World} {S : Nat → Prop} (h : IsS176 w0 W g f0 f1) (hk : Kept W W1 S) (hne : ¬ S g) : IsS176 w0 W1 g f0 f1 := by
  obtain ⟨hb, hg⟩ := h
  exact ⟨blk_kept hb hk hne, hg⟩
theorem IsS176.below {w0 W : World} {g : Nat} {f0 : ByteArray} {f1 : Int} {W1 : World} (h : IsS176 w0 W g f0 f1) (hw : Below W.heap.size W W1) : IsS176 w0 W1 g f0 f1 := h.grown (grown_of_below hw none) (by simp)
theorem IsS176.alloc {w0 W : World} {g : Nat} {f0 : ByteArray} {f1 : Int} (h : IsS176 w0 W g f0 f1) (o : Obj) : IsS176 w0 (W.alloc o) g f0 f1 := h.below (below_alloc (Below.refl _ _) o)
theorem IsS176.drewN {w0 W : World} {g : Nat} {f0 : ByteArray} {f1 : Int} (h : IsS176 w0 W g f0 f1) (m : Nat) : IsS176 w0 (W.drewN m) g f0 f1 := h
theorem IsS176.drew {w0 W : World} {g : Nat} {f0 : ByteArray} {f1 : Int} (h : IsS176 w0 W g f0 f1) : IsS176 w0 W.drew g f0 f1 := h
theorem IsS176.apart {w0 W : World} {g : Nat} {f0 : ByteArray} {f1 : Int} {α : Type} {d : Kd α} {e : Nat} {base : Nat} {ok : Nat → Prop} {v : Value} {xs : List α} (h : IsS176 w0 W g f0 f1) (ho : d.R e W base ok v xs) (ht : ∀ q, q ∈ e :: d.E → q ≠ 176) : d.R e W base (fun k => ok k ∧ k ≠ g) v xs := by
  obtain ⟨hb, hg⟩ := h
  exact Kd.R_types ho hb ht
theorem IsS176.own_ne {w0 W : World} {g : Nat} {f0 : ByteArray} {f1 : Int} {α : Type} {d : Kd α} {e : Nat} {base : Nat} {ok : Nat → Prop} {v : Value} {xs : List α} (h : IsS176 w0 W g f0 f1) (ho : d.R e W base ok v xs) (ht : e ≠ 176) : some g ≠ v.ownBlock := by
  obtain ⟨hb, hg⟩ := h
  exact Kd.R_ne ho hb ht
theorem IsS176.lt {w0 W : World} {g : Nat} {f0 : ByteArray} {f1 : Int} (h : IsS176 w0 W g f0 f1) : g < W.heap.size := by
  obtain ⟨hb, hg⟩ := h
  exact blk_lt hb
theorem IsS176.ge {w0 W : World} {g : Nat} {f0 : ByteArray} {f1 : Int} (h : IsS176 w0 W g f0 f1) : w0.heap.size ≤ g := by
  obtain ⟨hb, hg⟩ := h
  exact hg
theorem IsS176.ne_blk {w0 W : World} {g : Nat} {f0 : ByteArray} {f1 : Int} {a : Nat} {cs : Array Value} {t : TypeId} {fr : Nat × Nat} (h : IsS176 w0 W g f0 f1) (hb2 : W.heap[a]? = some (.cells cs t fr)) (ht : t ≠ 176) : g ≠ a := by
  obtain ⟨hb, hg⟩ := h
  rintro rfl
  rw [hb] at hb2
  injection hb2 with hb2
  injection hb2 with _ ht2
  exact ht ht2.symm
theorem IsS176.far {w0 W : World} {g : Nat} {f0 : ByteArray} {f1 : Int} {p : Addr} (h : IsS176 w0 W g f0 f1) (hne : g ≠ p.block) (u : Value) : IsS176 w0 (W.setCell p u) g f0 f1 := by
  obtain ⟨hb, hg⟩ := h
  exact ⟨blk_far hb hne u, hg⟩
theorem IsS176.set_0 {w0 W : World} {g : Nat} {f0 : ByteArray} {f1 : Int} (h : IsS176 w0 W g f0 f1) (x : ByteArray) : IsS176 w0 (W.setCell ⟨g, 0, none⟩ (.string x)) g x f1 := by
  obtain ⟨hb, hg⟩ := h
  exact ⟨by simpa using blk_set hb 0 (.string x), hg⟩
theorem IsS176.set_1 {w0 W : World} {g : Nat} {f0 : ByteArray} {f1 : Int} (h : IsS176 w0 W g f0 f1) (x : Int) : IsS176 w0 (W.setCell ⟨g, 1, none⟩ (.int .i64 x)) g f0 x := by
  obtain ⟨hb, hg⟩ := h
  exact ⟨by simpa using blk_set hb 1 (.int .i64 x), hg⟩
end Go.Proofs.Ytjnhghplfdiijaa.Q

namespace Go.Proofs.Ytjnhghplfdiijaa.Q
open Go.RowKit Go.Proofs.YtjnhghplfdiijaaW.PrintWords Go.Proofs.YtjnhghplfdiijaaW.PrintLast Go.Proofs.YtjnhghplfdiijaaW.PrintMore Go.Lib Go.Shelf
set_option linter.unusedVariables false
set_option linter.unusedSimpArgs false
/-- Is each octet of a text so? -/
def all8 (q : Int → Bool) (s : ByteArray) : Bool := s.data.toList.all fun c => q (c.toNat : Int)
theorem all8_iff (q : Int → Bool) (s : ByteArray) : all8 q s = true ↔ ∀ i : Nat, i < s.size → q (bt s (i : Int)) = true := by
  unfold all8
  rw [List.all_eq_true]
  constructor
  · intro h i hi
    have e : bt s (i : Int) = ((s[i]'hi).toNat : Int) := by simp [bt, hi]
    rw [e]
    exact h _ (by have : s[i]'hi = s.data.toList[i]'(by simpa using hi) := rfl
                  rw [this]; exact List.getElem_mem _)
  · intro h c hc
    obtain ⟨i, hi, rfl⟩ := List.getElem_of_mem hc
    have hi' : i < s.size := by simpa using hi
    have e : bt s (i : Int) = ((s[i]'hi').toNat : Int) := by simp [bt, hi']
    have := h i hi'
    rw [e] at this
    exact this
theorem all8_false (q : Int → Bool) (s : ByteArray) (i : Nat) (hi : i < s.size) (h : q (bt s (i : Int)) = false) : all8 q s = false := by
  cases e : all8 q s with
  | false => rfl
  | true => rw [(all8_iff q s).1 e i hi] at h; cases h
theorem getb_lt (s : ByteArray) (i : Nat) (hi : i < s.size) : (s.get! i).toNat = (bt s (i : Int)).toNat := by
  have : s.get! i = s[i]'hi := by simp [ByteArray.get!, getElem!_pos, hi]; rfl
  rw [this]; simp [bt, hi]
theorem getb_out (s : ByteArray) (i : Nat) (hi : ¬ i < s.size) : (s.get! i).toNat = 0 := by
  have : s.get! i = default := by simp [ByteArray.get!, hi]
  rw [this]; rfl
/-- What a rune above 127 takes is octets above 127. -/
theorem decode_wide (s : ByteArray) (pos : Nat) (h : 128 ≤ (s.get! pos).toNat) : ∀ k, k < (Utf8.decode s pos).2 → 128 ≤ (s.get! (pos + k)).toNat := by
  have h0 : 128 ≤ (s.get! (pos + 0)).toNat := h
  intro k hk
  have hn : ¬ (s.get! (pos + 0)).toNat < 128 := by omega
  simp only [Utf8.decode, hn, if_false] at hk
  repeat' split at hk
  all_goals (try simp only [Bool.and_eq_true, decide_eq_true_eq, beq_iff_eq] at *)
  all_goals rcases k with _ | _ | _ | _ | k
  all_goals (try simp only [Nat.zero_add, Nat.reduceAdd] at hk ⊢)
  all_goals first | exact h0 | omega
theorem decode_fits (s : ByteArray) (pos : Nat) (hp : pos < s.size) : pos + (Utf8.decode s pos).2 ≤ s.size := by
  simp only [Utf8.decode]
  repeat' split
  all_goals (try simp only [Bool.and_eq_true, decide_eq_true_eq, beq_iff_eq] at *)
  all_goals omega
/-- The predicate on octets that a predicate on runes comes to, one above 127. -/
def byteP (p : Int → Bool) (hi : Bool) (b : Int) : Bool := if b < 128 then p b else hi
set_option maxHeartbeats 1000000 in
/-- octet.all, at whatever predicate that answers 'hi' at all runes above 127. -/
theorem octet_all_any (g : Nat) (lb : Array Value) (eg : ∀ args w, (callFunc g args).run Try.prog w = .ok (.enter g args) w) (p : Int → Bool) (hi : Bool) (hp : ∀ r, 128 ≤ r → p r = hi) (s : ByteArray) (w : World)
    (hcall : ∀ (r : Int) (W : World), 0 ≤ r → r ≤ 2147483647 → Below w.heap.size w W → Calls Try.prog g (#[.int .i32 r] ++ lb) W fun e w' => e = .returned (.bool (p r)) ∧ Below W.heap.size W w') :
    Calls Try.prog 141 #[.string s, .func (.func g) #[] lb] w fun e w' => e = .returned (.bool (all8 (byteP p hi) s)) ∧ Below w.heap.size w w' := by
  have HHI := Aside0.mk hp
  have HC0 := Aside0.mk hcall
  clear hp hcall
  go_enter Try.func141, Try.ntmps141
  go_wp2
  go_loopg [6, 9, 10] s.size (fun gg _ _ _ wr => ∃ pos : Nat, pos ≤ s.size ∧ s.size - pos ≤ gg ∧ Aside0 (wr.heap[w.heap.size]? = some (.stringIter s pos)) ∧ Below w.heap.size w wr ∧ Aside0 (∀ j, j < pos → byteP p hi (bt s (j : Int)) = true))
  case atStart => exact ⟨0, Nat.zero_le _, by omega, ⟨World.iter_heap w s 0⟩, by unfold World.iter; exact (Below.refl _ _).alloc (Nat.le_refl _) _, ⟨fun j hj => by omega⟩⟩
  case round =>
    obtain ⟨pos, hpos, hgg, HI, HB, HA⟩ := hrel
    by_cases hlt : pos < s.size
    · have hnx : ∀ ty, (Instr.next (.pointer (some ⟨w.heap.size, 0, none⟩)) true ty).run Try.prog wr = _ := fun ty => run_next_any_at wr w.heap.size s pos ty HI.out hlt
      have hbi : Below w.heap.size w (wr.iterAt w.heap.size s (pos + (Utf8.decode s pos).2)) := below_iterAt HB (Nat.le_refl _) s _
      have hc1 := HC0.out ((Utf8.decode s pos).1 : Int) (wr.iterAt w.heap.size s (pos + (Utf8.decode s pos).2)) (by omega) (by have := decode_le s pos; omega) hbi
      have hit : (wr.iterAt w.heap.size s (pos + (Utf8.decode s pos).2)).heap[w.heap.size]? = some (.stringIter s (pos + (Utf8.decode s pos).2)) := iterAt_heap wr w.heap.size s pos _ HI.out
      have HIT := Aside0.mk hit
      have HBI := Aside0.mk hbi
      have HC := Aside0.mk hc1
      clear hit hbi hc1
      -- what this rune says of the octets that it takes
      have hbyte : Aside0 (p ((Utf8.decode s pos).1 : Int) = true → ∀ j, j < pos + (Utf8.decode s pos).2 → byteP p hi (bt s (j : Int)) = true) := ⟨fun hpr j hj => by
        by_cases hj0 : j < pos
        · exact HA.out j hj0
        by_cases ha : (s.get! pos).toNat < 128
        · have hd := decode_ascii s pos hlt (by have := getb_lt s pos hlt; simp [bt, hlt] at this; omega)
          rw [hd] at hj hpr
          obtain rfl : j = pos := by simp at hj; omega
          have e : bt s (j : Int) = ((s[j]'hlt).toNat : Int) := by simp [bt, hlt]
          have e2 := getb_lt s j hlt
          rw [e] at e2 ⊢
          unfold byteP
          rw [if_pos (by simp at e2; omega)]
          exact hpr
        · have hd := decode_high s pos hlt (by have := getb_lt s pos hlt; simp [bt, hlt] at this; omega)
          have hf := decode_fits s pos hlt
          have hw := decode_wide s pos (by omega) (j - pos) (by omega)
          rw [show pos + (j - pos) = j by omega] at hw
          have hjs : j < s.size := by omega
          have e2 := getb_lt s j hjs
          have hr := bt_range s (j : Int)
          unfold byteP
          rw [if_neg (by omega), ← HHI.out _ (show (128 : Int) ≤ ((Utf8.decode s pos).1 : Int) by omega)]
          exact hpr⟩
      have hbad : Aside0 (p ((Utf8.decode s pos).1 : Int) = false → byteP p hi (bt s (pos : Int)) = false) := ⟨fun hpr => by
        by_cases ha : (s.get! pos).toNat < 128
        · have hd := decode_ascii s pos hlt (by have := getb_lt s pos hlt; simp [bt, hlt] at this; omega)
          rw [hd] at hpr
          have e : bt s (pos : Int) = ((s[pos]'hlt).toNat : Int) := by simp [bt, hlt]
          have e2 := getb_lt s pos hlt
          rw [e] at e2 ⊢
          unfold byteP
          rw [if_pos (by simp at e2; omega)]
          exact hpr
        · have hd := decode_high s pos hlt (by have := getb_lt s pos hlt; simp [bt, hlt] at this; omega)
          have e2 := getb_lt s pos hlt
          unfold byteP
          rw [if_neg (by omega), ← HHI.out _ (show (128 : Int) ≤ ((Utf8.decode s pos).1 : Int) by omega)]
          exact hpr⟩
      have hwd : Aside0 (1 ≤ (Utf8.decode s pos).2 ∧ pos + (Utf8.decode s pos).2 ≤ s.size) := ⟨by
        refine ⟨?_, decode_fits s pos hlt⟩
        by_cases ha : (s.get! pos).toNat < 128
        · have hd := decode_ascii s pos hlt (by have := getb_lt s pos hlt; simp [bt, hlt] at this; omega)
          rw [hd]; exact Nat.le_refl _
        · exact (decode_high s pos hlt (by have := getb_lt s pos hlt; simp [bt, hlt] at this; omega)).2⟩
      obtain ⟨W1, hW⟩ : ∃ W1, wr.iterAt w.heap.size s (pos + (Utf8.decode s pos).2) = W1 := ⟨_, rfl⟩
      obtain ⟨R, hR⟩ : ∃ R : Nat, (Utf8.decode s pos).1 = R := ⟨_, rfl⟩
      obtain ⟨D, hD⟩ : ∃ D : Nat, (Utf8.decode s pos).2 = D := ⟨_, rfl⟩
      rw [hW, hR] at hnx
      rw [hW, hD] at HIT
      rw [hW] at HBI
      rw [hW, hR] at HC
      rw [hR, hD] at hbyte
      rw [hR] at hbad
      rw [hD] at hwd
      clear hW hR hD HI HB
      cases hq : p (R : Int) with
      | true =>
        rw [hq] at HC hbyte hbad
        go_wp2_with fail
        refine HC.out.mono ?_
        rintro e w' ⟨rfl, hb⟩
        have HBX := Aside0.mk hb
        clear hb
        go_wp2
        go_roundg (gk - 1)
        case measure => have := hwd.out; omega
        case rel => 
          have := hwd.out
          exact ⟨_, this.2, by omega, ⟨(HBX.out.block _ (Array.getElem?_eq_some_iff.1 HIT.out).1).trans HIT.out⟩, HBI.out.trans (HBX.out.mono HBI.out.size), ⟨hbyte.out (by simp)⟩⟩
      | false =>
        rw [hq] at HC hbyte hbad
        go_wp2_with fail
        refine HC.out.mono ?_
        rintro e w' ⟨rfl, hb⟩
        have HBX := Aside0.mk hb
        clear hb
        go_wp2
        go_ret
        rw [all8_false _ s pos hlt (hbad.out (by simp))]
        exact ⟨rfl, HBI.out.trans (HBX.out.mono HBI.out.size)⟩
    · have hnx : ∀ ty, (Instr.next (.pointer (some ⟨w.heap.size, 0, none⟩)) true ty).run Try.prog wr = _ := fun ty => run_next_end_at wr w.heap.size s pos ty HI.out hlt
      go_wp2
      go_ret
      have e := (all8_iff (byteP p hi) s).2 (fun i hi' => HA.out i (by omega))
      rw [e]
      exact ⟨rfl, HB⟩
def marksB : ByteArray := ⟨#[33, 35, 36, 37, 38, 39, 42, 43, 45, 46, 94, 95, 96, 124, 126]⟩
/-- A rune that may stand in a token. -/
def tcharI (r : Int) : Bool := (decide (97 ≤ r) && decide (r ≤ 122)) || (decide (65 ≤ r) && decide (r ≤ 90)) || (decide (48 ≤ r) && decide (r ≤ 57)) || [33, 35, 36, 37, 38, 39, 42, 43, 45, 46, 94, 95, 96, 124, 126].contains r
theorem tcharI_high (r : Int) (h : 128 ≤ r) : tcharI r = false := by
  simp [tcharI]
  omega
theorem marks_at (pos : Nat) (h : pos < 15) : ∃ c : Nat, c < 128 ∧ bt marksB (pos : Int) = c ∧ Utf8.decode marksB pos = (c, 1) ∧ ([33, 35, 36, 37, 38, 39, 42, 43, 45, 46, 94, 95, 96, 124, 126] : List Int)[pos]? = some (c : Int) := by
  have : pos = 0 ∨ pos = 1 ∨ pos = 2 ∨ pos = 3 ∨ pos = 4 ∨ pos = 5 ∨ pos = 6 ∨ pos = 7 ∨ pos = 8 ∨ pos = 9 ∨ pos = 10 ∨ pos = 11 ∨ pos = 12 ∨ pos = 13 ∨ pos = 14 := by omega
  rcases this with rfl | rfl | rfl | rfl | rfl | rfl | rfl | rfl | rfl | rfl | rfl | rfl | rfl | rfl | rfl
  · exact ⟨33, by omega, by decide, by decide, by decide⟩
  · exact ⟨35, by omega, by decide, by decide, by decide⟩
  · exact ⟨36, by omega, by decide, by decide, by decide⟩
  · exact ⟨37, by omega, by decide, by decide, by decide⟩
  · exact ⟨38, by omega, by decide, by decide, by decide⟩
  · exact ⟨39, by omega, by decide, by decide, by decide⟩
  · exact ⟨42, by omega, by decide, by decide, by decide⟩
  · exact ⟨43, by omega, by decide, by decide, by decide⟩
  · exact ⟨45, by omega, by decide, by decide, by decide⟩
  · exact ⟨46, by omega, by decide, by decide, by decide⟩
  · exact ⟨94, by omega, by decide, by decide, by decide⟩
  · exact ⟨95, by omega, by decide, by decide, by decide⟩
  · exact ⟨96, by omega, by decide, by decide, by decide⟩
  · exact ⟨124, by omega, by decide, by decide, by decide⟩
  · exact ⟨126, by omega, by decide, by decide, by decide⟩
set_option maxHeartbeats 1000000 in
theorem octet_tchar_loop (r : Int) (w : World) (h1 : ¬ (97 ≤ r ∧ r ≤ 122)) (h2 : ¬ (65 ≤ r ∧ r ≤ 90)) (h3 : ¬ (48 ≤ r ∧ r ≤ 57)) :
    Calls Try.prog 142 #[.int .i32 r] w fun e w' => e = .returned (.bool (tcharI r)) ∧ Below w.heap.size w w' := by
  have HT : Aside0 (tcharI r = [33, 35, 36, 37, 38, 39, 42, 43, 45, 46, 94, 95, 96, 124, 126].contains r) := ⟨by
    have a1 : (decide (97 ≤ r) && decide (r ≤ 122)) = false := by simp; omega
    have a2 : (decide (65 ≤ r) && decide (r ≤ 90)) = false := by simp; omega
    have a3 : (decide (48 ≤ r) && decide (r ≤ 57)) = false := by simp; omega
    unfold tcharI
    rw [a1, a2, a3]; rfl⟩
  go_enter Try.func142, Try.ntmps142
  go_wp2
  all_goals
    go_loopg [2, 4, 25, 26, 27, 28, 29, 30] 15 (fun gg _ _ _ _ _ _ _ _ wr => ∃ pos : Nat, pos ≤ 15 ∧ 15 - pos ≤ gg ∧ Aside0 (wr = w.iter marksB pos) ∧ Aside0 (∀ (j : Nat) (c : Int), j < pos → ([33, 35, 36, 37, 38, 39, 42, 43, 45, 46, 94, 95, 96, 124, 126] : List Int)[j]? = some c → c ≠ r))
    case atStart => exact ⟨0, by omega, by omega, ⟨rfl⟩, ⟨fun j c hj => by omega⟩⟩
    case round =>
      obtain ⟨pos, hpos, hgg, HW, HA⟩ := hrel
      have e := HW.out
      subst e
      clear HW
      by_cases hlt : pos < 15
      · obtain ⟨c, hc1, hc2, hc3, hc4⟩ := marks_at pos hlt
        have hnx : ∀ ty, (Instr.next (.pointer (some ⟨w.heap.size, 0, none⟩)) true ty).run Try.prog (w.iter marksB pos) = .ok (.tuple #[.bool true, .int .i64 pos, .int .i32 c]) (w.iter marksB (pos + 1)) := fun ty => by
          have := run_next_any (P := Try.prog) w marksB pos ty hlt
          rw [hc3] at this
          exact this
        have H4 := Aside0.mk hc4
        clear hc2 hc3 hc4
        by_cases hr : (c : Int) = r
        · have hrb : (((c : Int)) == r) = true := by simpa using hr
          have HR := Aside0.mk hr
          clear hr
          go_wp2
          go_ret
          have e : tcharI r = true := by
            rw [HT.out, ← HR.out, List.contains_iff_mem]
            exact List.mem_of_getElem? H4.out
          rw [e]
          exact ⟨rfl, by unfold World.iter; exact (Below.refl _ _).alloc (Nat.le_refl _) _⟩
        · have hrb : (((c : Int)) == r) = false := by simpa using hr
          have HR := Aside0.mk hr
          clear hr
          go_wp2
          go_roundg (gk - 1)
          case measure => omega
          case rel =>
            refine ⟨pos + 1, by omega, by omega, ⟨rfl⟩, ⟨fun j d hj hd => ?_⟩⟩
            by_cases hjp : j = pos
            · subst hjp
              rw [H4.out] at hd
              have : (c : Int) = d := by simpa using hd
              rw [← this]
              exact HR.out
            · exact HA.out j d (by omega) hd
      · have hnx : ∀ ty, (Instr.next (.pointer (some ⟨w.heap.size, 0, none⟩)) true ty).run Try.prog (w.iter marksB pos) = _ := fun ty => run_next_end w marksB pos ty hlt
        go_wp2
        go_ret
        have e : tcharI r = false := by
          rw [HT.out]
          cases hcon : [33, 35, 36, 37, 38, 39, 42, 43, 45, 46, 94, 95, 96, 124, 126].contains r with
          | false => rfl
          | true =>
            rw [List.contains_iff_mem] at hcon
            obtain ⟨j, hj, hje⟩ := List.getElem_of_mem hcon
            exact absurd rfl (HA.out j r (by simp at hj; omega) (by rw [List.getElem?_eq_getElem hj, hje]))
        rw [e]
        exact ⟨rfl, by unfold World.iter; exact (Below.refl _ _).alloc (Nat.le_refl _) _⟩
def octet_tchar.f (a0 : Int) : Option Bool := some (tcharI a0)
theorem octet_tchar.calls (a0 : Int) (r : Bool) (w : World) (h : octet_tchar.f a0 = some r) :
    Calls Try.prog 142 #[.int .i32 a0] w fun e w' => e = .returned (.bool r) ∧ Below w.heap.size w w' := by
  obtain rfl := Option.some.inj h
  clear h
  by_cases h1 : 97 ≤ a0 ∧ a0 ≤ 122
  · obtain ⟨h1, h2⟩ := h1
    have e : tcharI a0 = true := by simp [tcharI, h1, h2]
    rw [e]
    clear e
    go_enter Try.func142, Try.ntmps142
    go_wp2
    go_ret
    exact ⟨rfl, Below.refl _ _⟩
  by_cases h2 : 65 ≤ a0 ∧ a0 ≤ 90
  · obtain ⟨h3, h4⟩ := h2
    have e : tcharI a0 = true := by simp [tcharI, h3, h4]
    rw [e]
    clear e
    go_enter Try.func142, Try.ntmps142
    go_wp2
    go_ret
    exact ⟨rfl, Below.refl _ _⟩
  by_cases h3 : 48 ≤ a0 ∧ a0 ≤ 57
  · obtain ⟨h4, h5⟩ := h3
    have e : tcharI a0 = true := by simp [tcharI, h4, h5]
    rw [e]
    clear e
    go_enter Try.func142, Try.ntmps142
    go_wp2
    go_ret
    exact ⟨rfl, Below.refl _ _⟩
  · exact octet_tchar_loop a0 w h1 h2 h3
def valueI (r : Int) : Bool := decide (r = 9) || (decide (32 ≤ r) && !decide (r = 127))
theorem valueI_high (r : Int) (h : 128 ≤ r) : valueI r = true := by simp [valueI]; omega
theorem octet_Value_pred (r : Int) (w : World) : Calls Try.prog 176 #[.int .i32 r] w fun e w' => e = .returned (.bool (valueI r)) ∧ Below w.heap.size w w' := by
  by_cases h1 : r = 9
  · have e : valueI r = true := by simp [valueI, h1]
    rw [e]
    subst h1
    go_enter Try.func176, Try.ntmps176
    go_wp2
    go_ret
    exact ⟨rfl, Below.refl _ _⟩
  by_cases h2 : 32 ≤ r
  · by_cases h3 : r = 127
    · have e : valueI r = false := by simp [valueI, h3]
      rw [e]
      subst h3
      go_enter Try.func176, Try.ntmps176
      go_wp2
      go_ret
      exact ⟨rfl, Below.refl _ _⟩
    · have e : valueI r = true := by simp [valueI, h1, h2, h3]
      rw [e]
      have e1 : (r == 9) = false := by simpa using h1
      have e2 : (r != 127) = true := by simpa using h3
      clear e h1 h3
      go_enter Try.func176, Try.ntmps176
      go_wp2
      go_ret
      exact ⟨rfl, Below.refl _ _⟩
  · have e : valueI r = false := by simp [valueI, h1, h2]
    rw [e]
    have e1 : (r == 9) = false := by simpa using h1
    clear e h1
    go_enter Try.func176, Try.ntmps176
    go_wp2
    go_ret
    exact ⟨rfl, Below.refl _ _⟩
def octet_Value.f (a0 : ByteArray) : Option Bool := some (all8 (byteP valueI true) a0)
theorem octet_Value.calls (a0 : ByteArray) (r : Bool) (w : World) (h : octet_Value.f a0 = some r) :
    Calls Try.prog 139 #[.string a0] w fun e w' => e = .returned (.bool r) ∧ Below w.heap.size w w' := by
  obtain rfl := Option.some.inj h
  clear h
  have HA := Aside0.mk (octet_all_any 176 #[] (enters_of Try.func176 (by kernel_rfl) rfl) valueI true valueI_high a0 w (fun r W _ _ _ => octet_Value_pred r W))
  go_enter Try.func139, Try.ntmps139
  go_wp2_with fail
  refine HA.out.mono ?_
  rintro e w' ⟨rfl, hb⟩
  have HB := Aside0.mk hb
  clear hb
  go_wp2
  go_ret
  exact ⟨rfl, HB.out⟩
def octet_Token.f (a0 : ByteArray) : Option Bool := some (decide (a0.size ≠ 0) && all8 (byteP tcharI false) a0)
theorem octet_Token.calls (a0 : ByteArray) (r : Bool) (w : World) (h : octet_Token.f a0 = some r) :
    Calls Try.prog 89 #[.string a0] w fun e w' => e = .returned (.bool r) ∧ Below w.heap.size w w' := by
  obtain rfl := Option.some.inj h
  clear h
  by_cases h0 : a0.size = 0
  · obtain rfl : a0 = ⟨#[]⟩ := by
      cases a0 with | mk d => 
      have : d.size = 0 := h0
      congr 1
      exact Array.eq_empty_of_size_eq_zero this
    go_enter Try.func89, Try.ntmps89
    go_wp2
    go_ret
    exact ⟨rfl, Below.refl _ _⟩
  · have HA := Aside0.mk (octet_all_any 142 #[] (enters_of Try.func142 (by kernel_rfl) rfl) tcharI false tcharI_high a0 w (fun r W _ _ _ => octet_tchar.calls r _ W rfl))
    have h1 : a0.toList.isEmpty = false := by
      rw [ByteArray.toList_eq, List.isEmpty_eq_false_iff, ne_eq, ← List.length_eq_zero_iff, Array.length_toList]
      exact h0
    have h2 : decide (a0.size ≠ 0) = true := by simpa using h0
    rw [h2, Bool.true_and]
    clear h2 h0
    go_enter Try.func89, Try.ntmps89
    go_wp2_with fail
    refine HA.out.mono ?_
    rintro e w' ⟨rfl, hb⟩
    have HB := Aside0.mk hb
    clear hb
    go_wp2
    go_ret
    exact ⟨rfl, HB.out⟩
end Go.Proofs.Ytjnhghplfdiijaa.Q

namespace Go.Proofs.Ytjnhghplfdiijaa.Q
open Go.RowKit Go.Proofs.YtjnhghplfdiijaaW.PrintWords Go.Proofs.YtjnhghplfdiijaaW.PrintLast Go.Proofs.YtjnhghplfdiijaaW.PrintMore Go.Lib Go.Shelf
set_option linter.unusedVariables false
set_option linter.unusedSimpArgs false
/-- What is left of a text behind a place, if the place lies in it. -/
def leftS (s : ByteArray) (at_ : Int) : ByteArray := s.extract at_.toNat s.size
def cursor_Cursor_Left.f (s : ByteArray) (at_ : Int) : Option (ByteArray × ByteArray × Int) := if 0 ≤ at_ then (if at_ ≤ (s.size : Int) then some (leftS s at_, s, at_) else none) else none
theorem cursor_Cursor_Left.drawn (g k : Nat) (s : ByteArray) (w : World) (c0 : w.cell? ⟨g, 0, none⟩ = some (.string s)) (c1 : w.cell? ⟨g, 1, none⟩ = some (.int .i64 k)) (hk : k ≤ s.size) :
    Calls Try.prog 175 #[.pointer (some ⟨g, 0, none⟩)] w fun e w' => e = .returned (.string (leftS s k)) ∧ ∃ n, w.drewN n = w' := by
  go_enter Try.func175, Try.ntmps175
  go_wp2
  go_quiet (fail)
  go_wp2
  go_ret
  exact ⟨rfl, _, rfl⟩
theorem cursor_Cursor_Left.calls (g : Nat) (s0_0 : ByteArray) (s0_1 : Int) (r1 : ByteArray) (r2 : ByteArray) (r3 : Int) (w0 w : World) (hI : IsS176 w0 w g s0_0 s0_1) (hB : Below w0.heap.size w0 w) (h : cursor_Cursor_Left.f s0_0 s0_1 = some (r1, r2, r3)) :
    Calls Try.prog 175 #[.pointer (some ⟨g, 0, none⟩)] w fun e w' => e = .returned (.string r1) ∧ IsS176 w0 w' g r2 r3 ∧ Below w0.heap.size w0 w' ∧ KeepBut w w' g none := by
  unfold cursor_Cursor_Left.f at h
  by_cases h1 : 0 ≤ s0_1
  · rw [if_pos h1] at h
    by_cases h2 : s0_1 ≤ (s0_0.size : Int)
    · rw [if_pos h2] at h
      simp only [Option.some.injEq, Prod.mk.injEq] at h
      obtain ⟨rfl, rfl, rfl⟩ := h
      obtain ⟨k, rfl⟩ := Int.eq_ofNat_of_zero_le h1
      refine (cursor_Cursor_Left.drawn g k s0_0 w ((blk_cell hI.1 0).trans rfl) ((blk_cell hI.1 1).trans rfl) (by omega)).mono ?_
      rintro e w' ⟨rfl, n, rfl⟩
      exact ⟨rfl, hI.drewN n, pw_below_drewN hB n, keep_drewN (KeepBut.refl _ _ _) n⟩
    · rw [if_neg h2] at h; cases h
  · rw [if_neg h1] at h; cases h
/-- How many octets at a text's beginning are so. -/
def spanN (p : Int → Bool) (s : ByteArray) : Nat := (s.data.toList.takeWhile fun c => p (c.toNat : Int)).length
theorem span_eq (p : Int → Bool) : ∀ (l : List UInt8) (k : Nat), k ≤ l.length → (∀ j (h : j < l.length), j < k → p ((l[j]'h).toNat : Int) = true) → (∀ h : k < l.length, p ((l[k]'h).toNat : Int) = false) → (l.takeWhile fun c => p (c.toNat : Int)).length = k
  | [], k, hk, _, _ => by simp at hk; subst hk; rfl
  | c :: l, 0, _, _, h0 => by
    have := h0 (by simp)
    simp only [List.getElem_cons_zero] at this
    simp [List.takeWhile_cons, this]
  | c :: l, k + 1, hk, h, h0 => by
    have hc := h 0 (by simp) (by omega)
    simp only [List.getElem_cons_zero] at hc
    simp only [List.takeWhile_cons, hc, if_true, List.length_cons]
    rw [span_eq p l k (by simpa using hk) (fun j hj hjk => by have := h (j + 1) (by simpa using hj) (by omega); simpa using this) (fun hkl => by have := h0 (by simpa using hkl); simpa using this)]
theorem spanN_eq (p : Int → Bool) (s : ByteArray) (k : Nat) (hk : k ≤ s.size) (h : ∀ j, j < k → p (bt s (j : Int)) = true) (h0 : k < s.size → p (bt s (k : Int)) = false) : spanN p s = k := by
  refine span_eq p s.data.toList k (by rw [data_length]; exact hk) (fun j hj hjk => ?_) (fun hkl => ?_)
  · have := h j hjk
    have hjs : j < s.size := by omega
    have e : bt s (j : Int) = ((s[j]'hjs).toNat : Int) := by simp [bt, hjs]
    rw [e] at this
    exact this
  · have hks : k < s.size := by rw [data_length] at hkl; exact hkl
    have := h0 hks
    have e : bt s (k : Int) = ((s[k]'hks).toNat : Int) := by simp [bt, hks]
    rw [e] at this
    exact this
theorem spanN_le (p : Int → Bool) (s : ByteArray) : spanN p s ≤ s.size := by
  unfold spanN
  rw [← data_length]
  exact (List.takeWhile_sublist _).length_le
set_option maxHeartbeats 2000000 in
/-- span, at whatever predicate of octets. -/
theorem cursor_Cursor_span_any (f : Nat) (lb : Array Value) (ef : ∀ args w, (callFunc f args).run Try.prog w = .ok (.enter f args) w) (p : Int → Bool) (g k : Nat) (s : ByteArray) (w : World) (c0 : w.cell? ⟨g, 0, none⟩ = some (.string s)) (c1 : w.cell? ⟨g, 1, none⟩ = some (.int .i64 k)) (hk : k ≤ s.size) (hs : s.size ≤ 9223372036854775807)
    (hcall : ∀ (c : Int) (W : World), 0 ≤ c → c ≤ 255 → Below w.heap.size w W → Calls Try.prog f (#[.int .u8 c] ++ lb) W fun e w' => e = .returned (.bool (p c)) ∧ Below W.heap.size W w') :
    Calls Try.prog 173 #[.pointer (some ⟨g, 0, none⟩), .func (.func f) #[] lb] w fun e w' => e = .returned (.int .i64 (spanN p (leftS s k))) ∧ Below w.heap.size w w' := by
  have HL := Aside0.mk (cursor_Cursor_Left.drawn g k s w c0 c1 hk)
  have HC := Aside0.mk hcall
  clear hcall c0 c1
  have hsz : (leftS s k).size ≤ s.size := by simp [leftS]
  obtain ⟨t, ht⟩ : ∃ t, leftS s k = t := ⟨_, rfl⟩
  rw [ht] at HL hsz ⊢
  clear ht
  have hts : t.size ≤ 9223372036854775807 := Nat.le_trans hsz hs
  clear hsz hs hk
  go_enter Try.func173, Try.ntmps173
  go_wp2_with fail
  refine HL.out.mono ?_
  rintro e w1 ⟨rfl, n1, rfl⟩
  go_wp2
  go_loopg [6, 9, 10, 11, 12, 13, 14, 15, 16, 17, 18, 19, 20, 21] t.size (fun gg i _ _ _ _ _ _ _ _ _ _ _ _ _ wr => ∃ j : Nat, j ≤ t.size ∧ t.size - j ≤ gg ∧ i = .int .i64 j ∧ Below w.heap.size w wr ∧ Aside0 (∀ q, q < j → p (bt t (q : Int)) = true))
  case atStart => exact ⟨0, Nat.zero_le _, by omega, rfl, pw_below_drewN (Below.refl _ _) n1, ⟨fun q hq => by omega⟩⟩
  case round =>
    obtain ⟨j, hj, hgg, rfl, HB, HA⟩ := hrel
    by_cases hlt : j < t.size
    · have hbt : ∀ h : j < t.size, ((t[j]'h).toNat : Int) = bt t (j : Int) := fun h => bt_at t (j : Int) h
      have hr := bt_range t (j : Int)
      have HCJ := Aside0.mk (HC.out (bt t (j : Int)) wr hr.1 hr.2 HB)
      cases hq : p (bt t (j : Int)) with
      | true =>
        rw [hq] at HCJ
        have HQ := Aside0.mk hq
        clear hq
        go_wp2_with fail
        refine HCJ.out.mono ?_
        rintro e w2 ⟨rfl, hb⟩
        have HBX := Aside0.mk hb
        clear hb
        go_wp2
        go_roundg (gk - 1)
        case measure => omega
        case rel =>
          refine ⟨j + 1, by omega, by omega, by go_num, HB.trans (HBX.out.mono HB.size), ⟨fun q hq => ?_⟩⟩
          by_cases e : q = j
          · subst e; exact HQ.out
          · exact HA.out q (by omega)
      | false =>
        rw [hq] at HCJ
        have HQ := Aside0.mk hq
        clear hq
        go_wp2_with fail
        refine HCJ.out.mono ?_
        rintro e w2 ⟨rfl, hb⟩
        have HBX := Aside0.mk hb
        clear hb
        go_wp2
        go_ret
        rw [spanN_eq p t j hj (fun q hq => HA.out q hq) (fun _ => HQ.out)]
        exact ⟨rfl, HB.trans (HBX.out.mono HB.size)⟩
    · have e : j = t.size := by omega
      subst e
      go_wp2
      go_ret
      rw [spanN_eq p t t.size (Nat.le_refl _) (fun q hq => HA.out q hq) (fun h => absurd h (Nat.lt_irrefl _))]
      exact ⟨rfl, HB⟩
/-- take, behind what has been seen to be there. -/
theorem cursor_Cursor_take.plain (g k n : Nat) (s : ByteArray) (w : World) (hI : w.heap[g]? = some (.cells #[.string s, .int .i64 k] 176 (0, 0))) (hk : k + n ≤ s.size) (hs : s.size ≤ 9223372036854775807) :
    Calls Try.prog 172 #[.pointer (some ⟨g, 0, none⟩), .int .i64 n] w fun e w' => e = .returned (.string ((leftS s k).extract 0 n)) ∧ w'.heap[g]? = some (.cells #[.string s, .int .i64 (k + n : Nat)] 176 (0, 0)) ∧ KeepBut w w' g none ∧ ∀ w0, Below w0.heap.size w0 w → w0.heap.size ≤ g → Below w0.heap.size w0 w' := by
  have HL := Aside0.mk (cursor_Cursor_Left.drawn g k s w ((blk_cell hI 0).trans rfl) ((blk_cell hI 1).trans rfl) (by omega))
  have c1 : w.cell? ⟨g, 1, none⟩ = some (.int .i64 k) := (blk_cell hI 1).trans rfl
  have f1 := blk_frozen hI 1
  have HI := Aside0.mk hI
  have hsz : (leftS s k).size = s.size - k := by simp [leftS]
  obtain ⟨t, ht⟩ : ∃ t, leftS s k = t := ⟨_, rfl⟩
  rw [ht] at HL hsz ⊢
  clear ht
  have hn : n ≤ t.size := by omega
  clear hsz hI
  by_cases h0 : 0 < n
  · go_enter Try.func172, Try.ntmps172
    go_wp2_with fail
    refine HL.out.mono ?_
    rintro e w1 ⟨rfl, n1, rfl⟩
    go_wp2
    go_ret
    refine ⟨rfl, ?_, (keep_drewN (KeepBut.refl _ _ _) n1).set_ 1 _, fun w0 hB hg => (pw_below_drewN hB n1).setCell hg _⟩
    have := blk_set (show (w.drewN n1).heap[g]? = _ from HI.out) 1 (.int .i64 ((k : Int) + (n : Int)))
    rw [this]
    rfl
  · obtain rfl : n = 0 := by omega
    go_enter Try.func172, Try.ntmps172
    go_wp2_with fail
    refine HL.out.mono ?_
    rintro e w1 ⟨rfl, n1, rfl⟩
    go_wp2
    go_ret
    refine ⟨?_, HI.out, keep_drewN (KeepBut.refl _ _ _) n1, fun w0 hB _ => pw_below_drewN hB n1⟩
    have e : t.extract 0 0 = ByteArray.empty := by simp
    rw [e]
    rfl
theorem octet_Tchar_pred (c : Int) (W : World) (h0 : 0 ≤ c) (h1 : c ≤ 255) : Calls Try.prog 174 #[.int .u8 c] W fun e w' => e = .returned (.bool (tcharI c)) ∧ Below W.heap.size W w' := by
  have HC := Aside0.mk (octet_tchar.calls c _ W rfl)
  go_enter Try.func174, Try.ntmps174
  go_wp2_with fail
  refine HC.out.mono ?_
  rintro e w2 ⟨rfl, hb⟩
  have HBX := Aside0.mk hb
  clear hb
  go_wp2
  go_ret
  exact ⟨rfl, HBX.out⟩
/-- What 'take(span(p))' does to a text and a place in it. -/
def takeSpan (p : Int → Bool) (s : ByteArray) (at_ : Int) : Option (ByteArray × ByteArray × Int) :=
  if 0 ≤ at_ ∧ at_ ≤ (s.size : Int) ∧ s.size ≤ 9223372036854775807 then some ((leftS s at_).extract 0 (spanN p (leftS s at_)), s, at_ + (spanN p (leftS s at_) : Nat)) else none
theorem takeSpan_some {p : Int → Bool} {s r1 r2 : ByteArray} {at_ r3 : Int} (h : takeSpan p s at_ = some (r1, r2, r3)) :
    ∃ k : Nat, at_ = k ∧ k ≤ s.size ∧ s.size ≤ 9223372036854775807 ∧ r1 = (leftS s k).extract 0 (spanN p (leftS s k)) ∧ r2 = s ∧ r3 = ((k + spanN p (leftS s k) : Nat) : Int) ∧ k + spanN p (leftS s k) ≤ s.size := by
  unfold takeSpan at h
  split at h
  · rename_i hc
    obtain ⟨k, rfl⟩ := Int.eq_ofNat_of_zero_le hc.1
    simp only [Option.some.injEq, Prod.mk.injEq] at h
    obtain ⟨rfl, rfl, rfl⟩ := h
    have := spanN_le p (leftS s k)
    have h2 : (leftS s k).size = s.size - k := by simp [leftS]
    exact ⟨k, rfl, by omega, hc.2.2, rfl, rfl, by omega, by omega⟩
  · cases h
def cursor_Cursor_Token.f (s : ByteArray) (at_ : Int) : Option (ByteArray × ByteArray × Int) := takeSpan tcharI s at_
set_option maxHeartbeats 1000000 in
theorem cursor_Cursor_Token.calls (g : Nat) (s0_0 : ByteArray) (s0_1 : Int) (r1 : ByteArray) (r2 : ByteArray) (r3 : Int) (w0 w : World) (hI : IsS176 w0 w g s0_0 s0_1) (hB : Below w0.heap.size w0 w) (h : cursor_Cursor_Token.f s0_0 s0_1 = some (r1, r2, r3)) :
    Calls Try.prog 134 #[.pointer (some ⟨g, 0, none⟩)] w fun e w' => e = .returned (.string r1) ∧ IsS176 w0 w' g r2 r3 ∧ Below w0.heap.size w0 w' ∧ KeepBut w w' g none := by
  obtain ⟨k, rfl, hk, hs, rfl, rfl, rfl, hn⟩ := takeSpan_some h
  clear h
  have HS := Aside0.mk (cursor_Cursor_span_any 174 #[] (enters_of Try.func174 (by kernel_rfl) rfl) tcharI g k r2 w ((blk_cell hI.1 0).trans rfl) ((blk_cell hI.1 1).trans rfl) hk hs (fun c W h0 h1 _ => octet_Tchar_pred c W h0 h1))
  have HT : Aside0 (∀ w1, Below w.heap.size w w1 → Calls Try.prog 172 #[.pointer (some ⟨g, 0, none⟩), .int .i64 (spanN tcharI (leftS r2 k))] w1 fun e w' => e = .returned (.string ((leftS r2 k).extract 0 (spanN tcharI (leftS r2 k)))) ∧ IsS176 w0 w' g r2 ((k + spanN tcharI (leftS r2 k) : Nat) : Int) ∧ Below w0.heap.size w0 w' ∧ KeepBut w w' g none) := ⟨fun w1 hb =>
    (cursor_Cursor_take.plain g k _ r2 w1 ((hb.block _ (blk_lt hI.1)).trans hI.1) hn hs).mono fun e w' ⟨h1, h2, h3, h4⟩ =>
      ⟨h1, ⟨h2, hI.2⟩, h4 w0 (hB.trans (hb.mono hB.size)) hI.2, (KeepBut.of_below hb g none).trans h3 (.inl rfl)⟩⟩
  clear hI hB
  go_enter Try.func134, Try.ntmps134
  go_wp2_with fail
  refine HS.out.mono ?_
  rintro e w1 ⟨rfl, hb⟩
  have HT1 := Aside0.mk (HT.out w1 hb)
  clear hb HT
  go_wp2_with fail
  refine HT1.out.mono ?_
  rintro e w2 ⟨rfl, hr⟩
  have HR := Aside0.mk hr
  clear hr
  go_wp2
  go_ret
  exact ⟨rfl, HR.out⟩
def cursor_Cursor_take.f (s : ByteArray) (at_ : Int) (n : Int) : Option (ByteArray × ByteArray × Int) :=
  if 0 ≤ at_ ∧ at_ ≤ (s.size : Int) ∧ s.size ≤ 9223372036854775807 ∧ 0 ≤ n ∧ at_ + n ≤ (s.size : Int) then some ((leftS s at_).extract 0 n.toNat, s, at_ + n) else none
theorem cursor_Cursor_take.calls (g : Nat) (s0_0 : ByteArray) (s0_1 : Int) (a1 : Int) (r1 : ByteArray) (r2 : ByteArray) (r3 : Int) (w0 w : World) (hI : IsS176 w0 w g s0_0 s0_1) (hB : Below w0.heap.size w0 w) (h : cursor_Cursor_take.f s0_0 s0_1 a1 = some (r1, r2, r3)) :
    Calls Try.prog 172 #[.pointer (some ⟨g, 0, none⟩), .int .i64 a1] w fun e w' => e = .returned (.string r1) ∧ IsS176 w0 w' g r2 r3 ∧ Below w0.heap.size w0 w' ∧ KeepBut w w' g none := by
  unfold cursor_Cursor_take.f at h
  split at h
  · rename_i hc
    obtain ⟨k, rfl⟩ := Int.eq_ofNat_of_zero_le hc.1
    obtain ⟨n, rfl⟩ := Int.eq_ofNat_of_zero_le hc.2.2.2.1
    simp only [Option.some.injEq, Prod.mk.injEq] at h
    obtain ⟨rfl, rfl, rfl⟩ := h
    refine (cursor_Cursor_take.plain g k n s0_0 w hI.1 (by omega) hc.2.2.1).mono ?_
    rintro e w' ⟨rfl, h2, h3, h4⟩
    exact ⟨rfl, ⟨h2, hI.2⟩, h4 w0 hB hI.2, h3⟩
  · cases h
end Go.Proofs.Ytjnhghplfdiijaa.Q

namespace Go.Proofs.Ytjnhghplfdiijaa.Q
open Go.RowKit Go.Proofs.YtjnhghplfdiijaaW.PrintWords Go.Proofs.YtjnhghplfdiijaaW.PrintLast Go.Proofs.YtjnhghplfdiijaaW.PrintMore
attribute [local go_sem] max2_int min2_int max_two min_two max_three min_three max_four min_four
set_option linter.unusedVariables false
set_option linter.unusedSimpArgs false
def octet_lower.f (a0 : Int) : Option (Int) := if a0 ≥ 65 then (if a0 ≤ 90 then (some ((((a0 + 97) % 256) - 65) % 256)) else (some a0)) else (some a0)
set_option maxHeartbeats 8000000 in
set_option maxRecDepth 100000 in
theorem octet_lower.calls (a0 : Int) (r : Int) (w : World) (h : octet_lower.f a0 = some r) :
    Calls Try.prog 160 #[.int .u8 a0] w fun e w' => e = .returned (.int .u8 r) ∧ Drawn0 w w' := by
  have H : (if a0 ≥ 65 then (if a0 ≤ 90 then (some ((((a0 + 97) % 256) - 65) % 256)) else (some a0)) else (some a0)) = some r := h
  clear h
  by_cases c2 : a0 ≥ 65
  · rw [if_pos c2] at H
    have c2b0 : decide (65 ≤ a0) = true := decide_eq_true c2
    clear c2
    by_cases c3 : a0 ≤ 90
    · rw [if_pos c3] at H
      have c3b0 : decide (a0 ≤ 90) = true := decide_eq_true c3
      clear c3
      obtain rfl := Option.some.inj H
      go_enter Try.func160, Try.ntmps160
      go_wp2
      go_ret
      exact ⟨by first | rfl | (simp; done) | (simp [*]; done), by repeat (first | exact Drawn0.refl _ | apply Drawn0.step)⟩
    · rw [if_neg c3] at H
      have c3b0 : decide (a0 ≤ 90) = false := decide_eq_false c3
      clear c3
      obtain rfl := Option.some.inj H
      go_enter Try.func160, Try.ntmps160
      go_wp2
      go_ret
      exact ⟨by first | rfl | (simp; done) | (simp [*]; done), by repeat (first | exact Drawn0.refl _ | apply Drawn0.step)⟩
  · rw [if_neg c2] at H
    have c2b0 : decide (65 ≤ a0) = false := decide_eq_false c2
    clear c2
    obtain rfl := Option.some.inj H
    go_enter Try.func160, Try.ntmps160
    go_wp2
    go_ret
    exact ⟨by first | rfl | (simp; done) | (simp [*]; done), by repeat (first | exact Drawn0.refl _ | apply Drawn0.step)⟩
end Go.Proofs.Ytjnhghplfdiijaa.Q

namespace Go.Proofs.Ytjnhghplfdiijaa.Q
open Go.RowKit Go.Proofs.YtjnhghplfdiijaaW.PrintWords Go.Proofs.YtjnhghplfdiijaaW.PrintLast Go.Proofs.YtjnhghplfdiijaaW.PrintMore Go.Lib Go.Shelf
set_option linter.unusedVariables false
set_option linter.unusedSimpArgs false
/-- An octet, a letter A to Z as a to z. -/
def lowB (b : Int) : Int := if 65 ≤ b ∧ b ≤ 90 then b + 32 else b
theorem lowB_f (b : Int) : octet_lower.f b = some (lowB b) := by
  unfold octet_lower.f lowB
  by_cases h1 : 65 ≤ b
  · by_cases h2 : b ≤ 90
    · rw [if_pos (by omega), if_pos h2, if_pos ⟨h1, h2⟩]
      congr 1
      omega
    · rw [if_pos (by omega), if_neg h2, if_neg (by omega)]
  · rw [if_neg (by omega), if_neg (by omega)]
/-- A text, its letters A to Z as a to z. -/
def lowerS (s : ByteArray) : ByteArray := strOfNums ((bytesOf s).map lowB)
theorem bytesOf_get (s : ByteArray) (j : Nat) (h : j < s.size) : (bytesOf s)[j]? = some (bt s (j : Int)) := by
  have e : bt s (j : Int) = ((s[j]'h).toNat : Int) := by simp [bt, h]
  rw [e]
  unfold bytesOf
  rw [List.getElem?_map]
  have : s.data.toList[j]? = some (s[j]'h) := by
    rw [List.getElem?_eq_getElem (by simpa using h)]; rfl
  rw [this]; rfl
theorem bytesOf_length (s : ByteArray) : (bytesOf s).length = s.size := by unfold bytesOf; rw [List.length_map, data_length]
theorem blkf_set {w : World} {g : Nat} {t : TypeId} {cs : Array Value} {fr : Nat × Nat} (h : w.heap[g]? = some (.cells cs t fr)) (i : Nat) (u : Value) : (w.setCell ⟨g, i, none⟩ u).heap[g]? = some (.cells (cs.setIfInBounds i u) t fr) := by
  simp [World.setCell, Array.getElem?_modify, h]
def octet_Lower.f (a0 : ByteArray) : Option ByteArray := if a0.size ≤ 9223372036854775807 then some (lowerS a0) else none
set_option maxHeartbeats 2000000 in
theorem octet_Lower.calls (a0 : ByteArray) (r : ByteArray) (w : World) (h : octet_Lower.f a0 = some r) :
    Calls Try.prog 127 #[.string a0] w fun e w' => e = .returned (.string r) ∧ Below w.heap.size w w' := by
  have hs : a0.size ≤ 9223372036854775807 := by
    unfold octet_Lower.f at h
    split at h
    · assumption
    · cases h
  unfold octet_Lower.f at h
  rw [if_pos hs] at h
  obtain rfl := Option.some.inj h
  clear h
  obtain ⟨cap, C, n, hC, hconv⟩ : ∃ (cap : Nat) (C : Array Value) (n : Nat), Aside0 (∀ j, j < a0.size → C[j]? = some (.int .u8 (bt a0 (j : Int))) ∧ j < n) ∧
      (convert 9 149 (.string a0)).run Try.prog w = .ok (.slice (some ⟨w.heap.size, 0, none⟩) a0.size cap) (w.drew.alloc (.cells C 5 (n, n + 1))) := by
    refine ⟨_, _, _, ⟨fun j hj => ?_⟩, run_bytes_of_string w 9 149 5 a0 Try.underlying9 Try.underlying149 Try.underlying5⟩
    refine ⟨?_, ?_⟩
    · rw [bytesRow_at a0 _ j hj]
      have e : bt a0 (j : Int) = ((a0[j]'hj).toNat : Int) := by simp [bt, hj]
      rw [e]; rfl
    · simp [bytesRow]; 
      have : a0.data.size = a0.size := rfl
      omega
  go_enter Try.func127, Try.ntmps127
  go_wp2
  clear hconv
  go_loopg [4, 5, 10] a0.size (fun gg _ _ i wr => ∃ (k : Nat) (X : Array Value), k ≤ a0.size ∧ a0.size - k ≤ gg ∧ i = .int .i64 k ∧ Aside0 (wr.heap[w.heap.size]? = some (.cells X 5 (n, n + 1)) ∧ ∀ j, j < a0.size → X[j]? = some (.int .u8 (if j < k then lowB (bt a0 (j : Int)) else bt a0 (j : Int)))) ∧ Below w.heap.size w wr)
  case atStart => exact ⟨0, C, Nat.zero_le _, by omega, rfl, ⟨(heap_alloc_new w _ : (w.alloc (.cells C 5 (n, n + 1))).heap[w.heap.size]? = _), fun j hj => by rw [if_neg (by omega)]; exact (hC.out j hj).1⟩, ((Below.refl _ _).alloc (Nat.le_refl _) _).drew⟩
  case round =>
    obtain ⟨k, X, hk, hgg, rfl, HX, HB⟩ := hrel
    by_cases hlt : k < a0.size
    · have hcell : wr.cell? ⟨w.heap.size, k, none⟩ = some (.int .u8 (bt a0 (k : Int))) := by
        rw [cell_of_row wr w.heap.size k X _ _ HX.out.1, HX.out.2 k hlt, if_neg (by omega)]
      have hfr : wr.frozen? ⟨w.heap.size, k, none⟩ = false := by
        have := (hC.out k hlt).2
        simp [World.frozen?, HX.out.1]
        omega
      have hlow := Aside0.mk (lowB_f (bt a0 (k : Int)))
      have HS := Aside0.mk hs
      go_wp2_with (go_at_call 160; refine (octet_lower.calls _ _ _ hlow.out).mono ?_; rintro e w' ⟨rfl, ⟨nd, rfl⟩⟩)
      go_roundg (gk - 1)
      case measure => omega
      case rel =>
        refine ⟨k + 1, _, by omega, by omega, by go_num, ⟨blkf_set (show (wr.drewN nd).heap[w.heap.size]? = _ from HX.out.1) k _, fun j hj => ?_⟩, ?_⟩
        · rw [Array.getElem?_setIfInBounds]
          by_cases e : k = j
          · subst e
            have hsz : k < X.size := by
              have := HX.out.2 k hlt
              exact (Array.getElem?_eq_some_iff.1 this).1
            rw [if_pos rfl, if_pos hsz, if_pos (by omega)]
          · rw [if_neg e, HX.out.2 j hj]
            by_cases hjk : j < k
            · rw [if_pos hjk, if_pos (by omega)]
            · rw [if_neg hjk, if_neg (by omega)]
        · exact (pw_below_drewN HB nd).setCell (Nat.le_refl _) _
    · have HS := Aside0.mk hs
      have hback : (convert 149 9 (.slice (some ⟨w.heap.size, 0, none⟩) a0.size cap)).run Try.prog wr = .ok (.string (lowerS a0)) wr := by
        refine run_convert_bytes_arg wr 149 5 Try.underlying149 Try.underlying5 w.heap.size 0 a0.size cap ((bytesOf a0).map lowB) (by rw [List.length_map, bytesOf_length]) (fun i hi => ?_) 9 Try.underlying9
        rw [Nat.zero_add, cell_of_row wr w.heap.size i X _ _ HX.out.1, HX.out.2 i hi, if_pos (by omega)]
        have := bytesOf_get a0 i hi
        rw [List.getD_eq_getElem?_getD, List.getElem?_map, this]
        rfl
      go_wp2
      go_ret
      exact ⟨rfl, HB⟩
end Go.Proofs.Ytjnhghplfdiijaa.Q

namespace Go.Proofs.Ytjnhghplfdiijaa.Q
open Go.RowKit Go.Proofs.YtjnhghplfdiijaaW.PrintWords Go.Proofs.YtjnhghplfdiijaaW.PrintLast Go.Proofs.YtjnhghplfdiijaaW.PrintMore
attribute [local go_sem] max2_int min2_int max_two min_two max_three min_three max_four min_four
set_option linter.unusedVariables false
set_option linter.unusedSimpArgs false
mutual
def abutmentref01_Tchar.j0 : Nat → Int → Bool → Option (Bool)
  | 0, _, _ => none
  | k + 1, x0, x26 => if x26 = true then (some true) else (abutmentref01_Tchar.l0 k x0 (⟨#[33, 35, 36, 37, 38, 39, 42, 43, 45, 46, 94, 95, 96, 124, 126]⟩ : ByteArray) 0)
def abutmentref01_Tchar.l0 : Nat → Int → ByteArray → Int → Option (Bool)
  | 0, _, _, _ => none
  | k + 1, x0, x3, x4 => if x4 < (x3.size : Int) then (if 0 ≤ x4 then (if (bt x3 x4) = x0 then (some true) else (abutmentref01_Tchar.l0 k x0 x3 (wrap64 (x4 + 1)))) else (none)) else (some false)
end
def abutmentref01_Tchar.f (k : Nat) (a0 : Int) : Option (Bool) := if a0 ≥ 48 then (if a0 ≤ 57 then (abutmentref01_Tchar.j0 k a0 true) else (if a0 ≥ 65 then (if a0 ≤ 90 then (abutmentref01_Tchar.j0 k a0 true) else (if a0 ≥ 97 then (abutmentref01_Tchar.j0 k a0 (decide (a0 ≤ 122))) else (abutmentref01_Tchar.j0 k a0 false))) else (if a0 ≥ 97 then (abutmentref01_Tchar.j0 k a0 (decide (a0 ≤ 122))) else (abutmentref01_Tchar.j0 k a0 false)))) else (if a0 ≥ 65 then (if a0 ≤ 90 then (abutmentref01_Tchar.j0 k a0 true) else (if a0 ≥ 97 then (abutmentref01_Tchar.j0 k a0 (decide (a0 ≤ 122))) else (abutmentref01_Tchar.j0 k a0 false))) else (if a0 ≥ 97 then (abutmentref01_Tchar.j0 k a0 (decide (a0 ≤ 122))) else (abutmentref01_Tchar.j0 k a0 false)))
theorem abutmentref01_Tchar.mono_l : ∀ k, (∀ y0 y1, LeO (abutmentref01_Tchar.j0 k y0 y1) (abutmentref01_Tchar.j0 (k + 1) y0 y1)) ∧ (∀ y0 y1 y2, LeO (abutmentref01_Tchar.l0 k y0 y1 y2) (abutmentref01_Tchar.l0 (k + 1) y0 y1 y2))
  | 0 => ⟨fun _ _ r h => by simp [abutmentref01_Tchar.j0] at h, fun _ _ _ r h => by simp [abutmentref01_Tchar.l0] at h⟩
  | k + 1 => by
    obtain ⟨ih0, ih1⟩ := abutmentref01_Tchar.mono_l k
    refine ⟨?_, ?_⟩
    · intro y0 y1
      unfold abutmentref01_Tchar.j0
      repeat' first
      | (with_reducible exact ih0 _ _)
      | (with_reducible exact ih1 _ _ _)
      | (with_reducible exact LeO.refl _)
      | (with_reducible exact LeO.none _)
      | (with_reducible refine LeO.ite ?_ ?_)
      | (with_reducible refine LeO.bind ?_ (fun _ => ?_))
      | exact ih0 _ _
      | exact ih1 _ _ _
      | exact LeO.none _
      | refine LeO.ite ?_ ?_
      | refine LeO.bind ?_ (fun _ => ?_)
    · intro y0 y1 y2
      unfold abutmentref01_Tchar.l0
      repeat' first
      | (with_reducible exact ih0 _ _)
      | (with_reducible exact ih1 _ _ _)
      | (with_reducible exact LeO.refl _)
      | (with_reducible exact LeO.none _)
      | (with_reducible refine LeO.ite ?_ ?_)
      | (with_reducible refine LeO.bind ?_ (fun _ => ?_))
      | exact ih0 _ _
      | exact ih1 _ _ _
      | exact LeO.none _
      | refine LeO.ite ?_ ?_
      | refine LeO.bind ?_ (fun _ => ?_)
theorem abutmentref01_Tchar.mono : ∀ a0 k, LeO (abutmentref01_Tchar.f k a0) (abutmentref01_Tchar.f (k + 1) a0) := by
  intro a0 k
  obtain ⟨ih0, ih1⟩ := abutmentref01_Tchar.mono_l k
  unfold abutmentref01_Tchar.f
  repeat' first
      | (with_reducible exact ih0 _ _)
      | (with_reducible exact ih1 _ _ _)
      | (with_reducible exact LeO.refl _)
      | (with_reducible exact LeO.none _)
      | (with_reducible refine LeO.ite ?_ ?_)
      | (with_reducible refine LeO.bind ?_ (fun _ => ?_))
      | exact ih0 _ _
      | exact ih1 _ _ _
      | exact LeO.none _
      | refine LeO.ite ?_ ?_
      | refine LeO.bind ?_ (fun _ => ?_)
end Go.Proofs.Ytjnhghplfdiijaa.Q

namespace Go.Proofs.Ytjnhghplfdiijaa.Q
open Go.RowKit Go.Proofs.YtjnhghplfdiijaaW.PrintWords Go.Proofs.YtjnhghplfdiijaaW.PrintLast Go.Proofs.YtjnhghplfdiijaaW.PrintMore
attribute [local go_sem] max2_int min2_int max_two min_two max_three min_three max_four min_four
set_option linter.unusedVariables false
set_option linter.unusedSimpArgs false
def abutmentref01_Token.l0 : Nat → ByteArray → Int → Option (Bool)
  | 0, _, _ => none
  | k + 1, x0, x3 => if x3 < (x0.size : Int) then (if 0 ≤ x3 then ((abutmentref01_Tchar.f k (bt x0 x3)).bind fun t101 => (if t101 = true then (abutmentref01_Token.l0 k x0 (wrap64 (x3 + 1))) else (some false))) else (none)) else (some (decide ((x0.size : Int) > 0)))
def abutmentref01_Token.f (k : Nat) (a0 : ByteArray) : Option (Bool) := abutmentref01_Token.l0 k a0 0
end Go.Proofs.Ytjnhghplfdiijaa.Q

namespace Go.Proofs.Ytjnhghplfdiijaa.Q
open Go.RowKit Go.Proofs.YtjnhghplfdiijaaW.PrintWords Go.Proofs.YtjnhghplfdiijaaW.PrintLast Go.Proofs.YtjnhghplfdiijaaW.PrintMore
attribute [local go_sem] max2_int min2_int max_two min_two max_three min_three max_four min_four
set_option linter.unusedVariables false
set_option linter.unusedSimpArgs false
def abutmentref01_Value.l0 : Nat → ByteArray → Int → Option (Bool)
  | 0, _, _ => none
  | k + 1, x0, x3 => if x3 < (x0.size : Int) then (if 0 ≤ x3 then (if (bt x0 x3) = 9 then (if (bt x0 x3) = 127 then (some false) else (abutmentref01_Value.l0 k x0 (wrap64 (x3 + 1)))) else (if (bt x0 x3) < 32 then (some false) else (if (bt x0 x3) = 127 then (some false) else (abutmentref01_Value.l0 k x0 (wrap64 (x3 + 1)))))) else (none)) else (some true)
def abutmentref01_Value.f (k : Nat) (a0 : ByteArray) : Option (Bool) := abutmentref01_Value.l0 k a0 0
end Go.Proofs.Ytjnhghplfdiijaa.Q

namespace Go.Proofs.Ytjnhghplfdiijaa.Q
open Go.RowKit Go.Proofs.YtjnhghplfdiijaaW.PrintWords Go.Proofs.YtjnhghplfdiijaaW.PrintLast Go.Proofs.YtjnhghplfdiijaaW.PrintMore
attribute [local go_sem] max2_int min2_int max_two min_two max_three min_three max_four min_four
set_option linter.unusedVariables false
set_option linter.unusedSimpArgs false
mutual
def abutmentref01_Trim.j1 : Nat → ByteArray → Option (ByteArray)
  | 0, _ => none
  | k + 1, x0 => abutmentref01_Trim.l1 k x0
def abutmentref01_Trim.l1 : Nat → ByteArray → Option (ByteArray)
  | 0, _ => none
  | k + 1, x0 => if (x0.size : Int) > 0 then (if 0 ≤ (wrap64 ((x0.size : Int) - 1)) then (if (wrap64 ((x0.size : Int) - 1)) < (x0.size : Int) then (if (bt x0 (wrap64 ((x0.size : Int) - 1))) = 32 then (if (wrap64 ((x0.size : Int) - 1)) ≤ (x0.size : Int) then (abutmentref01_Trim.l1 k (x0.extract 0 ((wrap64 ((x0.size : Int) - 1)) : Int).toNat)) else (none)) else (if (bt x0 (wrap64 ((x0.size : Int) - 1))) = 9 then (if (wrap64 ((x0.size : Int) - 1)) ≤ (x0.size : Int) then (abutmentref01_Trim.l1 k (x0.extract 0 ((wrap64 ((x0.size : Int) - 1)) : Int).toNat)) else (none)) else (some x0))) else (none)) else (none)) else (some x0)
def abutmentref01_Trim.l0 : Nat → ByteArray → Option (ByteArray)
  | 0, _ => none
  | k + 1, x0 => if (x0.size : Int) > 0 then (if 0 < (x0.size : Int) then (if (bt x0 0) = 32 then (if 1 ≤ (x0.size : Int) then (abutmentref01_Trim.l0 k (x0.extract 1 x0.size)) else (none)) else (if (bt x0 0) = 9 then (if 1 ≤ (x0.size : Int) then (abutmentref01_Trim.l0 k (x0.extract 1 x0.size)) else (none)) else (abutmentref01_Trim.j1 k x0))) else (none)) else (abutmentref01_Trim.j1 k x0)
end
def abutmentref01_Trim.f (k : Nat) (a0 : ByteArray) : Option (ByteArray) := abutmentref01_Trim.l0 k a0
end Go.Proofs.Ytjnhghplfdiijaa.Q

namespace Go.Proofs.Ytjnhghplfdiijaa.Q
open Go.RowKit Go.Proofs.YtjnhghplfdiijaaW.PrintWords Go.Proofs.YtjnhghplfdiijaaW.PrintLast Go.Proofs.YtjnhghplfdiijaaW.PrintMore
set_option linter.unusedVariables false
set_option linter.unusedSimpArgs false
theorem at_cons {s : ByteArray} {i : Nat} {c : UInt8} {r : List UInt8} (h : (tl s).drop i = c :: r) : i < s.size ∧ bt s (i : Int) = (c.toNat : Int) ∧ (tl s).drop (i + 1) = r ∧ (tl s)[i]? = some c := by
  have hlt : i < (tl s).length := by
    rcases Nat.lt_or_ge i (tl s).length with h1 | h1
    · exact h1
    · rw [List.drop_eq_nil_of_le h1] at h; cases h
  have e := List.drop_eq_getElem_cons hlt
  rw [h] at e
  injection e with e1 e2
  have hg : (tl s)[i]? = some c := by rw [List.getElem?_eq_getElem hlt, e1]
  exact ⟨by rwa [tl_length] at hlt, bt_of hg, e2.symm, hg⟩
theorem at_nil {s : ByteArray} {i : Nat} (h : (tl s).drop i = []) : s.size ≤ i := by
  rw [← tl_length]
  rcases Nat.lt_or_ge i (tl s).length with h1 | h1
  · rw [List.drop_eq_getElem_cons h1] at h; cases h
  · exact h1
theorem wrap_succ {i n : Nat} (h : i < n) (hn : n ≤ 9223372036854775807) : wrap64 ((i : Int) + 1) = ((i + 1 : Nat) : Int) := by
  rw [wrap_small (by omega) (by omega)]; omega
theorem ev_tchar (c : UInt8) : Ev (fun k => abutmentref01_Tchar.f k (c.toNat : Int)) (tcharI (c.toNat : Int)) := by
  have h : ∀ x : Fin 256, abutmentref01_Tchar.f 20 ((x.val : Nat) : Int) = some (tcharI ((x.val : Nat) : Int)) := by decide +kernel
  exact Ev.of (fun k => abutmentref01_Tchar.mono _ k) (h ⟨c.toNat, c.toNat_lt⟩)
theorem all8_tl (q : Int → Bool) (s : ByteArray) : all8 q s = (tl s).all fun c => q (c.toNat : Int) := rfl
theorem byteP_tchar (c : UInt8) : byteP tcharI false (c.toNat : Int) = tcharI (c.toNat : Int) := by
  have h : ∀ x : Fin 256, byteP tcharI false ((x.val : Nat) : Int) = tcharI ((x.val : Nat) : Int) := by decide +kernel
  exact h ⟨c.toNat, c.toNat_lt⟩
def valC (c : UInt8) : Bool := byteP valueI true (c.toNat : Int)
theorem valC_iff (c : UInt8) : valC c = true ↔ ((c.toNat : Int) = 9 ∨ 32 ≤ (c.toNat : Int)) ∧ (c.toNat : Int) ≠ 127 := by
  unfold valC byteP valueI
  split
  · simp; omega
  · simp; omega
theorem ev_token_loop (s : ByteArray) (hs : s.size ≤ 9223372036854775807) : ∀ (r : List UInt8) (i : Nat), (tl s).drop i = r → Ev (fun k => abutmentref01_Token.l0 k s (i : Int)) ((r.all fun c => tcharI (c.toNat : Int)) && decide (0 < s.size))
  | [], i, h => by
    have h1 := at_nil h
    refine Ev.step (f := fun _ => some (decide ((s.size : Int) > 0))) (fun k => by simp only [abutmentref01_Token.l0]; rw [if_neg (by omega)]) ?_
    have e : decide ((s.size : Int) > 0) = (([] : List UInt8).all (fun c => tcharI (c.toNat : Int)) && decide (0 < s.size)) := by
      simp
    rw [e]
    exact Ev.now _
  | c :: r, i, h => by
    obtain ⟨h1, h2, h3, _⟩ := at_cons h
    refine Ev.step (f := fun k => (abutmentref01_Tchar.f k (c.toNat : Int)).bind fun t => if t = true then abutmentref01_Token.l0 k s ((i + 1 : Nat) : Int) else some false) (fun k => by
      simp only [abutmentref01_Token.l0]; rw [if_pos (by omega), if_pos (by omega), h2, wrap_succ h1 hs]) ?_
    refine Ev.bind (ev_tchar c) ?_
    cases hc : tcharI (c.toNat : Int) with
    | true =>
      simp only [if_true, List.all_cons, hc, Bool.true_and]
      exact ev_token_loop s hs r (i + 1) h3
    | false =>
      simp only [List.all_cons, hc, Bool.false_and]
      exact Ev.now _
theorem ev_token (s : ByteArray) (hs : s.size ≤ 9223372036854775807) : Ev (fun k => abutmentref01_Token.f k s) (decide (s.size ≠ 0) && all8 (byteP tcharI false) s) := by
  have h := ev_token_loop s hs (tl s) 0 rfl
  have e : (decide (s.size ≠ 0) && all8 (byteP tcharI false) s) = (((tl s).all fun c => tcharI (c.toNat : Int)) && decide (0 < s.size)) := by
    rw [all8_tl, Bool.and_comm]
    simp only [byteP_tchar]
    congr 1
    rw [decide_eq_decide]; omega
  rw [e]
  exact h
theorem ev_value_loop (s : ByteArray) (hs : s.size ≤ 9223372036854775807) : ∀ (r : List UInt8) (i : Nat), (tl s).drop i = r → Ev (fun k => abutmentref01_Value.l0 k s (i : Int)) (r.all valC)
  | [], i, h => by
    have h1 := at_nil h
    exact Ev.step (f := fun _ => some true) (fun k => by simp only [abutmentref01_Value.l0]; rw [if_neg (by omega)]) (Ev.now _)
  | c :: r, i, h => by
    obtain ⟨h1, h2, h3, _⟩ := at_cons h
    have ih := ev_value_loop s hs r (i + 1) h3
    have hv := valC_iff c
    cases hc : valC c with
    | true =>
      simp only [List.all_cons, hc, Bool.true_and]
      rw [hc] at hv
      obtain ⟨q1, q2⟩ := hv.1 rfl
      refine Ev.step (f := fun k => abutmentref01_Value.l0 k s ((i + 1 : Nat) : Int)) (fun k => ?_) ih
      simp only [abutmentref01_Value.l0]
      rw [if_pos (by omega), if_pos (by omega), h2, wrap_succ h1 hs]
      by_cases e : (c.toNat : Int) = 9
      · rw [if_pos e, if_neg q2]
      · rw [if_neg e, if_neg (by omega), if_neg q2]
    | false =>
      simp only [List.all_cons, hc, Bool.false_and]
      rw [hc] at hv
      have q : ¬(((c.toNat : Int) = 9 ∨ 32 ≤ (c.toNat : Int)) ∧ (c.toNat : Int) ≠ 127) := fun h => by have := hv.2 h; cases this
      refine Ev.step (f := fun _ => some false) (fun k => ?_) (Ev.now _)
      simp only [abutmentref01_Value.l0]
      rw [if_pos (by omega), if_pos (by omega), h2]
      by_cases e : (c.toNat : Int) = 9
      · omega
      · rw [if_neg e]
        by_cases e2 : (c.toNat : Int) < 32
        · rw [if_pos e2]
        · rw [if_neg e2, if_pos (by omega)]
theorem ev_value (s : ByteArray) (hs : s.size ≤ 9223372036854775807) : Ev (fun k => abutmentref01_Value.f k s) (all8 (byteP valueI true) s) := ev_value_loop s hs (tl s) 0 rfl
/-- A small letter for a capital one. -/
def lowC (c : UInt8) : UInt8 := UInt8.ofNat (lowB (c.toNat : Int)).toNat
theorem lowerS_tl (s : ByteArray) : lowerS s = ofl ((tl s).map lowC) := by
  unfold lowerS strOfNums bytesOf ofl
  rw [List.map_map, List.map_map]
  rfl
theorem trim1_loop : ∀ (n : Nat) (s : ByteArray), s.size = n → n ≤ 9223372036854775807 → Ev (fun k => abutmentref01_Trim.l1 k s) (ofl (trimR (tl s)))
  | 0, s, h, hn => by
    have e : tl s = [] := List.eq_nil_of_length_eq_zero (by rw [tl_length]; exact h)
    refine Ev.step (f := fun _ => some s) (fun k => by simp only [abutmentref01_Trim.l1]; rw [if_neg (by omega)]) ?_
    rw [e]
    have : s = ofl (trimR []) := by rw [← ofl_tl s, e]; rfl
    rw [← this]
    exact Ev.now _
  | n + 1, s, h, hn => by
    obtain ⟨c, hc⟩ := get_lt (s := s) (i := n) (by omega)
    have hw : wrap64 ((s.size : Int) - 1) = (n : Int) := by rw [wrap_small (by omega) (by omega)]; omega
    have ht : tl s = tl (s.extract 0 n) ++ [c] := by
      rw [tl_extract, List.drop_zero, Nat.sub_zero]
      have := List.take_add_one (l := tl s) (i := n)
      rw [hc, List.take_of_length_le (by rw [tl_length]; omega)] at this
      exact this
    have ih := trim1_loop n (s.extract 0 n) (by simp; omega) (by omega)
    have hb := bt_of hc
    rw [ht, trimR_snoc]
    cases hk : blk c with
    | true =>
      rw [if_pos rfl]
      rw [blk_int] at hk
      refine Ev.step (f := fun k => abutmentref01_Trim.l1 k (s.extract 0 n)) (fun k => ?_) ih
      simp only [abutmentref01_Trim.l1]
      rw [if_pos (by omega), hw, if_pos (by omega), if_pos (by omega), hb, Int.toNat_natCast]
      by_cases e : (c.toNat : Int) = 32
      · rw [if_pos e, if_pos (by omega)]
      · rw [if_neg e, if_pos (by simpa [e] using hk), if_pos (by omega)]
    | false =>
      rw [if_neg (by simp), ← ht, ofl_tl]
      rw [blk_int] at hk
      simp only [Bool.or_eq_false_iff, decide_eq_false_iff_not] at hk
      refine Ev.step (f := fun _ => some s) (fun k => ?_) (Ev.now _)
      simp only [abutmentref01_Trim.l1]
      rw [if_pos (by omega), hw, if_pos (by omega), if_pos (by omega), hb, if_neg hk.1, if_neg hk.2]
theorem trim0_loop : ∀ (n : Nat) (s : ByteArray), s.size = n → n ≤ 9223372036854775807 → Ev (fun k => abutmentref01_Trim.l0 k s) (trimB s)
  | 0, s, h, hn => by
    have e : tl s = [] := List.eq_nil_of_length_eq_zero (by rw [tl_length]; exact h)
    have h1 := trim1_loop 0 s h hn
    have e2 : trimB s = ofl (trimR (tl s)) := by unfold trimB trimL; rw [e]; rfl
    rw [e2]
    refine Ev.step (f := fun k => abutmentref01_Trim.j1 k s) (fun k => by simp only [abutmentref01_Trim.l0]; rw [if_neg (by omega)]) ?_
    exact Ev.step (f := fun k => abutmentref01_Trim.l1 k s) (fun k => by simp only [abutmentref01_Trim.j1]) h1
  | n + 1, s, h, hn => by
    obtain ⟨c, hc⟩ := get_lt (s := s) (i := 0) (by omega)
    have hb := bt_of hc
    have ht : tl s = c :: tl (s.extract 1 s.size) := by
      rw [tl_extract, List.take_of_length_le (by rw [List.length_drop, tl_length]; omega)]
      exact drop_of hc
    have ih := trim0_loop n (s.extract 1 s.size) (by simp; omega) (by omega)
    unfold trimB trimL at ih ⊢
    rw [ht, List.dropWhile_cons]
    cases hk : blk c with
    | true =>
      rw [if_pos rfl]
      rw [blk_int] at hk
      refine Ev.step (f := fun k => abutmentref01_Trim.l0 k (s.extract 1 s.size)) (fun k => ?_) ih
      simp only [abutmentref01_Trim.l0]
      rw [if_pos (by omega), if_pos (by omega), show bt s 0 = _ from hb]
      by_cases e : (c.toNat : Int) = 32
      · rw [if_pos e, if_pos (by omega)]
      · rw [if_neg e, if_pos (by simpa [e] using hk), if_pos (by omega)]
    | false =>
      rw [if_neg (by simp), ← ht]
      rw [blk_int] at hk
      simp only [Bool.or_eq_false_iff, decide_eq_false_iff_not] at hk
      refine Ev.step (f := fun k => abutmentref01_Trim.j1 k s) (fun k => ?_) (Ev.step (f := fun k => abutmentref01_Trim.l1 k s) (fun k => by simp only [abutmentref01_Trim.j1]) (trim1_loop (n + 1) s h hn))
      simp only [abutmentref01_Trim.l0]
      rw [if_pos (by omega), if_pos (by omega), show bt s 0 = _ from hb, if_neg hk.1, if_neg hk.2]
theorem ev_trim (s : ByteArray) (hs : s.size ≤ 9223372036854775807) : Ev (fun k => abutmentref01_Trim.f k s) (trimB s) := trim0_loop s.size s rfl hs
end Go.Proofs.Ytjnhghplfdiijaa.Q

namespace Go.Proofs.Ytjnhghplfdiijaa.Q
open Go.RowKit Go.Proofs.YtjnhghplfdiijaaW.PrintWords Go.Proofs.YtjnhghplfdiijaaW.PrintLast Go.Proofs.YtjnhghplfdiijaaW.PrintMore
attribute [local go_sem] max2_int min2_int max_two min_two max_three min_three max_four min_four
set_option linter.unusedVariables false
set_option linter.unusedSimpArgs false
mutual
def cursor_Cursor_Quoted.j0 : Nat → ByteArray → Bool → ByteArray → Int → Option (ByteArray × Bool × ByteArray × Int)
  | 0, _, _, _, _ => none
  | k + 1, x4, x16, x1000, x1001 => if x16 = true then (some ((⟨#[]⟩ : ByteArray), false, x1000, x1001)) else (cursor_Cursor_Quoted.l0 k x4 ([] : List Int) 1 x1000 x1001)
def cursor_Cursor_Quoted.l0 : Nat → ByteArray → List Int → Int → ByteArray → Int → Option (ByteArray × Bool × ByteArray × Int)
  | 0, _, _, _, _, _ => none
  | k + 1, x4, x5, x6, x1000, x1001 => if x6 < (x4.size : Int) then (if 0 ≤ x6 then (if (bt x4 x6) = 34 then ((cursor_Cursor_take.f x1000 x1001 (wrap64 (x6 + 1))).bind fun bt104 => (some (strOfNums x5, true, bt104.2.1, bt104.2.2))) else (if (bt x4 x6) = 92 then (cursor_Cursor_Quoted.j2 k x4 x5 x6 (bt x4 x6) ((wrap64 (x6 + 1)) == (x4.size : Int)) x1000 x1001) else (cursor_Cursor_Quoted.j2 k x4 x5 x6 (bt x4 x6) false x1000 x1001))) else (none)) else (some ((⟨#[]⟩ : ByteArray), false, x1000, x1001))
def cursor_Cursor_Quoted.j2 : Nat → ByteArray → List Int → Int → Int → Bool → ByteArray → Int → Option (ByteArray × Bool × ByteArray × Int)
  | 0, _, _, _, _, _, _, _ => none
  | k + 1, x4, x5, x6, x7, x35, x1000, x1001 => if x35 = true then (some ((⟨#[]⟩ : ByteArray), false, x1000, x1001)) else (if x7 = 92 then (if 0 ≤ (wrap64 (x6 + 1)) then (if (wrap64 (x6 + 1)) < (x4.size : Int) then ((octet_Value.f (strOfNums (([bt x4 (wrap64 (x6 + 1))] : List Int)))).bind fun t110 => (if t110 = true then (if x5.length < 140737488355328 then (cursor_Cursor_Quoted.l0 k x4 (x5 ++ [bt x4 (wrap64 (x6 + 1))]) (wrap64 ((wrap64 (x6 + 1)) + 1)) x1000 x1001) else (none)) else (some ((⟨#[]⟩ : ByteArray), false, x1000, x1001)))) else (none)) else (none)) else ((octet_Value.f (strOfNums (([x7] : List Int)))).bind fun t117 => (if t117 = true then (if x5.length < 140737488355328 then (cursor_Cursor_Quoted.l0 k x4 (x5 ++ [x7]) (wrap64 (x6 + 1)) x1000 x1001) else (none)) else (some ((⟨#[]⟩ : ByteArray), false, x1000, x1001)))))
end
def cursor_Cursor_Quoted.f (k : Nat) (s0_0 : ByteArray) (s0_1 : Int) : Option (ByteArray × Bool × ByteArray × Int) := (cursor_Cursor_Left.f s0_0 s0_1).bind fun bt101 => (if bt101.1.toList = ([] : List UInt8) then (cursor_Cursor_Quoted.j0 k bt101.1 true bt101.2.1 bt101.2.2) else (if 0 < (bt101.1.size : Int) then (cursor_Cursor_Quoted.j0 k bt101.1 ((bt bt101.1 0) != 34) bt101.2.1 bt101.2.2) else (none)))
theorem cursor_Cursor_Quoted.mono_l : ∀ k, (∀ y0 y1 y2 y3, LeO (cursor_Cursor_Quoted.j0 k y0 y1 y2 y3) (cursor_Cursor_Quoted.j0 (k + 1) y0 y1 y2 y3)) ∧ (∀ y0 y1 y2 y3 y4, LeO (cursor_Cursor_Quoted.l0 k y0 y1 y2 y3 y4) (cursor_Cursor_Quoted.l0 (k + 1) y0 y1 y2 y3 y4)) ∧ (∀ y0 y1 y2 y3 y4 y5 y6, LeO (cursor_Cursor_Quoted.j2 k y0 y1 y2 y3 y4 y5 y6) (cursor_Cursor_Quoted.j2 (k + 1) y0 y1 y2 y3 y4 y5 y6))
  | 0 => ⟨fun _ _ _ _ r h => by simp [cursor_Cursor_Quoted.j0] at h, fun _ _ _ _ _ r h => by simp [cursor_Cursor_Quoted.l0] at h, fun _ _ _ _ _ _ _ r h => by simp [cursor_Cursor_Quoted.j2] at h⟩
  | k + 1 => by
    obtain ⟨ih0, ih1, ih2⟩ := cursor_Cursor_Quoted.mono_l k
    refine ⟨?_, ?_, ?_⟩
    · intro y0 y1 y2 y3
      unfold cursor_Cursor_Quoted.j0
      repeat' first
      | (with_reducible exact ih0 _ _ _ _)
      | (with_reducible exact ih1 _ _ _ _ _)
      | (with_reducible exact ih2 _ _ _ _ _ _ _)
      | (with_reducible exact LeO.refl _)
      | (with_reducible exact LeO.none _)
      | (with_reducible refine LeO.ite ?_ ?_)
      | (with_reducible refine LeO.bind ?_ (fun _ => ?_))
      | exact ih0 _ _ _ _
      | exact ih1 _ _ _ _ _
      | exact ih2 _ _ _ _ _ _ _
      | exact LeO.none _
      | refine LeO.ite ?_ ?_
      | refine LeO.bind ?_ (fun _ => ?_)
    · intro y0 y1 y2 y3 y4
      unfold cursor_Cursor_Quoted.l0
      repeat' first
      | (with_reducible exact ih0 _ _ _ _)
      | (with_reducible exact ih1 _ _ _ _ _)
      | (with_reducible exact ih2 _ _ _ _ _ _ _)
      | (with_reducible exact LeO.refl _)
      | (with_reducible exact LeO.none _)
      | (with_reducible refine LeO.ite ?_ ?_)
      | (with_reducible refine LeO.bind ?_ (fun _ => ?_))
      | exact ih0 _ _ _ _
      | exact ih1 _ _ _ _ _
      | exact ih2 _ _ _ _ _ _ _
      | exact LeO.none _
      | refine LeO.ite ?_ ?_
      | refine LeO.bind ?_ (fun _ => ?_)
    · intro y0 y1 y2 y3 y4 y5 y6
      unfold cursor_Cursor_Quoted.j2
      repeat' first
      | (with_reducible exact ih0 _ _ _ _)
      | (with_reducible exact ih1 _ _ _ _ _)
      | (with_reducible exact ih2 _ _ _ _ _ _ _)
      | (with_reducible exact LeO.refl _)
      | (with_reducible exact LeO.none _)
      | (with_reducible refine LeO.ite ?_ ?_)
      | (with_reducible refine LeO.bind ?_ (fun _ => ?_))
      | exact ih0 _ _ _ _
      | exact ih1 _ _ _ _ _
      | exact ih2 _ _ _ _ _ _ _
      | exact LeO.none _
      | refine LeO.ite ?_ ?_
      | refine LeO.bind ?_ (fun _ => ?_)
theorem cursor_Cursor_Quoted.mono : ∀ a0 a1 k, LeO (cursor_Cursor_Quoted.f k a0 a1) (cursor_Cursor_Quoted.f (k + 1) a0 a1) := by
  intro a0 a1 k
  obtain ⟨ih0, ih1, ih2⟩ := cursor_Cursor_Quoted.mono_l k
  unfold cursor_Cursor_Quoted.f
  repeat' first
      | (with_reducible exact ih0 _ _ _ _)
      | (with_reducible exact ih1 _ _ _ _ _)
      | (with_reducible exact ih2 _ _ _ _ _ _ _)
      | (with_reducible exact LeO.refl _)
      | (with_reducible exact LeO.none _)
      | (with_reducible refine LeO.ite ?_ ?_)
      | (with_reducible refine LeO.bind ?_ (fun _ => ?_))
      | exact ih0 _ _ _ _
      | exact ih1 _ _ _ _ _
      | exact ih2 _ _ _ _ _ _ _
      | exact LeO.none _
      | refine LeO.ite ?_ ?_
      | refine LeO.bind ?_ (fun _ => ?_)
set_option maxHeartbeats 8000000 in
set_option maxRecDepth 100000 in
theorem cursor_Cursor_Quoted.calls (k : Nat) (g : Nat) (s0_0 : ByteArray) (s0_1 : Int) (r1 : ByteArray) (r2 : Bool) (r3 : ByteArray) (r4 : Int) (w0 w : World) (hI : IsS176 w0 w g s0_0 s0_1) (hB : Below w0.heap.size w0 w) (h : cursor_Cursor_Quoted.f k s0_0 s0_1 = some (r1, r2, r3, r4)) :
    Calls Try.prog 136 #[.pointer (some ⟨g, 0, none⟩)] w fun e w' => e = .returned (.tuple #[.string r1, .bool r2]) ∧ IsS176 w0 w' g r3 r4 ∧ Below w0.heap.size w0 w' ∧ KeepBut w w' g none := by
  have HI0 := Aside0.mk hI
  have HK := Aside0.mk (KeepBut.refl w g none)
  have HL := Aside0.mk hB.size
  clear hI
  have HW0 := Aside0.mk hB.size
  have HB := Aside0.mk hB
  clear hB
  have H : ((cursor_Cursor_Left.f s0_0 s0_1).bind fun bt101 => (if bt101.1.toList = ([] : List UInt8) then (cursor_Cursor_Quoted.j0 k bt101.1 true bt101.2.1 bt101.2.2) else (if 0 < (bt101.1.size : Int) then (cursor_Cursor_Quoted.j0 k bt101.1 ((bt bt101.1 0) != 34) bt101.2.1 bt101.2.2) else (none)))) = some (r1, r2, r3, r4) := h
  clear h
  replace H := Option.bind_eq_some_iff.mp H
  obtain ⟨⟨t101, t102, t103⟩, A20, H⟩ := H
  (try dsimp only at H)
  have A2 := Aside0.mk A20
  clear A20
  have HC3 := Aside0.mk H
  clear H
  go_enter Try.func136, Try.ntmps136
  go_upto_region 2 with (first | ((with_reducible refine gate_callee (f := 175) rfl ?_); refine goesL_ (some 9) rfl rfl Try.func175 (by kernel_rfl) rfl #[.pointer (some ⟨g, 0, none⟩)] rfl (by (try simp only [List.map_toArray, List.map_cons, List.map_nil]); first | done | rfl | (simp only [List.length_drop, List.length_take]; rfl)) ?_; (with_reducible refine (cursor_Cursor_Left.calls g s0_0 s0_1 t101 t102 t103 w0 _ ?side1 ?side2 A2.out).mono ?_); (case side1 => repeat (first | (with_reducible first | exact HI0.out | apply IsS176.alloc | apply IsS176.drewN | apply IsS176.drew | apply IsS176.set_0 | apply IsS176.set_1) | exact HI0.out)); (case side2 => repeat (first | (with_reducible first | exact HB.out | apply below_alloc | apply pw_below_drewN | apply below_drew1 | refine below_set ?_ (IsS176.ge HI0.out)) | exact HB.out)); rintro e w4 ⟨rfl, hi, hb, hk⟩; refine ⟨_, rfl, ?_⟩; have n0_ := Aside0.mk (KeepBut.trans (by repeat (first | (with_reducible first | exact HK.out | apply KeepBut.set_ | apply keep_drewN | apply keep_drew | apply keep_alloc) | exact HK.out)) hk (.inl rfl)); have n1_ := Aside0.mk (hb); have n2_ := Aside0.mk (hi); clear HK; clear HB; clear HI0; have HK := n0_; have HB := n1_; have HI0 := n2_; clear n0_ n1_ n2_; (try clear hb); (try clear hb2); (try clear hk); (try clear hi)))
  (try simp only [Act.put, List.setIfInBounds_toArray, List.set_cons_zero, List.set_cons_succ])
  go_cut [16] (fun v16 wc => ∃ (kq : Nat) (x16_2 : Bool), v16 = .bool x16_2 ∧ Aside0 (cursor_Cursor_Quoted.j0 kq t101 x16_2 t102 t103 = some (r1, r2, r3, r4)) ∧ Aside0 (kq ≤ k) ∧ Aside0 (IsS176 w0 wc g t102 t103) ∧ Aside0 (KeepBut w wc g none) ∧ Aside0 (Below w0.heap.size w0 wc))
  case first =>
    have H := HC3.out
    clear HC3
    by_cases c5 : t101.toList = ([] : List UInt8)
    · rw [if_pos c5] at H
      have c5b0 : (t101.toList == ([] : List UInt8)) = true := beq_iff_eq.mpr c5
      have c5b1 : (t101.toList != ([] : List UInt8)) = false := bne_eq_false_iff_eq.mpr c5
      clear c5
      (first | rw [c5b0] | (simp only [i64_w, i32_w]; rw [c5b0]) | skip)
      have H' := Aside0.mk H
      clear H
      go_wp2
      go_meet
      case rel => exact ⟨_, (true), (by first | rfl | (simp; done) | (simp [*]; done)), H', ⟨by first | omega | exact Nat.le_refl _⟩, ⟨by repeat (first | (with_reducible first | exact HI0.out | apply IsS176.alloc | apply IsS176.drewN | apply IsS176.drew | apply IsS176.set_0 | apply IsS176.set_1) | exact HI0.out)⟩, ⟨by repeat (first | (with_reducible first | exact HK.out | apply KeepBut.set_ | apply keep_drewN | apply keep_drew | apply keep_alloc) | exact HK.out)⟩, ⟨by repeat (first | (with_reducible first | exact HB.out | apply below_alloc | apply pw_below_drewN | apply below_drew1 | refine below_set ?_ (IsS176.ge HI0.out)) | exact HB.out)⟩⟩
    · rw [if_neg c5] at H
      have c5b0 : (t101.toList == ([] : List UInt8)) = false := beq_eq_false_iff_ne.mpr c5
      have c5b1 : (t101.toList != ([] : List UInt8)) = true := bne_iff_ne.mpr c5
      (first | rw [c5b0] | (simp only [i64_w, i32_w]; rw [c5b0]) | skip)
      by_cases c6 : 0 < (t101.size : Int)
      · rw [if_pos c6] at H
        have c6b0 : decide (0 < (t101.size : Int)) = true := decide_eq_true c6
        have c6b1 : decide (0 < t101.size) = true := decide_eq_true (by omega)
        clear c6
        have H' := Aside0.mk H
        clear H
        have p7 : 0 ≤ (0 : Int) := (by omega)
        have q7 : 0 < t101.size := (by have : (0 : Int) < (t101.size : Int) := of_decide_eq_true (by first | (with_reducible assumption) | assumption); omega)
        have hx7 : ∀ h : 0 < t101.size, ((t101[0]'h).toNat : Int) = bt t101 0 := bt_at t101 0
        clear p7
        have qi7 : (0 < (t101.size : Int)) = True := eq_true (of_decide_eq_true (by first | (with_reducible assumption) | assumption))
        replace q7 := eq_true q7
        go_wp2
        go_meet
        case rel => exact ⟨_, (((bt t101 0) != 34)), (by first | rfl | (simp; done) | (simp [*]; done)), H', ⟨by first | omega | exact Nat.le_refl _⟩, ⟨by repeat (first | (with_reducible first | exact HI0.out | apply IsS176.alloc | apply IsS176.drewN | apply IsS176.drew | apply IsS176.set_0 | apply IsS176.set_1) | exact HI0.out)⟩, ⟨by repeat (first | (with_reducible first | exact HK.out | apply KeepBut.set_ | apply keep_drewN | apply keep_drew | apply keep_alloc) | exact HK.out)⟩, ⟨by repeat (first | (with_reducible first | exact HB.out | apply below_alloc | apply pw_below_drewN | apply below_drew1 | refine below_set ?_ (IsS176.ge HI0.out)) | exact HB.out)⟩⟩
      · rw [if_neg c6] at H
        exact absurd H (by simp)
  case rest =>
    clear HC3
    try clear c1
    try clear p2
    try clear c5
    try clear c5b0
    try clear c5b1
    try clear c6
    try clear c6b0
    try clear c6b1
    try clear p7
    try clear q7
    try clear hx7
    try clear qi7
    try clear p7
    try clear q7
    obtain ⟨kq, x16_2, rfl, HA, HJ2, HI0, HK, HB⟩ := hcut
    cases kq with
    | zero => exact absurd HA.out (by simp [cursor_Cursor_Quoted.j0])
    | succ kj2 =>
      have H := HA.out
      clear HA
      simp only [cursor_Cursor_Quoted.j0] at H
      by_cases c8 : x16_2 = true
      · subst c8
        have H1 : (some ((⟨#[]⟩ : ByteArray), false, t102, t103)) = some (r1, r2, r3, r4) := by rw [if_pos rfl] at H; exact H
        clear H
        have H := H1
        clear H1
        simp only [Option.some.injEq, Prod.mk.injEq] at H
        obtain ⟨rfl, rfl, rfl, rfl⟩ := H
        go_wp2
        go_ret2
        exact ⟨by first | rfl | (simp [errW_none, errW_some] <;> rfl) | (simp [*, errW_none, errW_some] <;> rfl), by repeat (first | (with_reducible first | exact HI0.out | apply IsS176.alloc | apply IsS176.drewN | apply IsS176.drew | apply IsS176.set_0 | apply IsS176.set_1) | exact HI0.out), by repeat (first | (with_reducible first | exact HB.out | apply below_alloc | apply pw_below_drewN | apply below_drew1 | refine below_set ?_ (IsS176.ge HI0.out)) | exact HB.out), by repeat (first | (with_reducible first | exact HK.out | apply KeepBut.set_ | apply keep_drewN | apply keep_drew | apply keep_alloc) | exact HK.out)⟩
      · replace c8 := Bool.eq_false_iff.mpr c8
        subst c8
        have H1 : (cursor_Cursor_Quoted.l0 kj2 t101 ([] : List Int) 1 t102 t103) = some (r1, r2, r3, r4) := by rw [if_neg (show ¬ (false = true) by decide)] at H; exact H
        clear H
        have H := H1
        clear H1
        have H' := Aside0.mk H
        clear H
        go_wp2
        go_loopg [5, 6] kj2 (fun kq v5 v6 w' => ∃ (x5_2 : List Int) (x6_2 : Int) (x1000_2 : ByteArray) (x1001_2 : Int), v6 = .int .i64 x6_2 ∧ Aside0 (cursor_Cursor_Quoted.l0 kq t101 x5_2 x6_2 x1000_2 x1001_2 = some (r1, r2, r3, r4)) ∧ Aside0 (kq ≤ kj2) ∧ Aside0 (Kd.R (Kd.int .u8) 5 w' w.heap.size (fun _ => True) v5 x5_2) ∧ Aside0 (IsS176 w0 w' g x1000_2 x1001_2) ∧ Aside0 (KeepBut w w' g none) ∧ Aside0 (Below w0.heap.size w0 w'))
        case atStart => exact ⟨(([] : List Int)), (1), (t102), (t103), (by first | rfl | (simp; done) | (simp [*]; done)), H', ⟨Nat.le_refl _⟩, ⟨by first | exact Kd.R_nil _ _ _ _ _ | exact Kd.N_nil _ _ _ _ _ | exact Kd.V_nil _ _ _ _ _ | exact Kd.Q_nil _ _ _ _ _ | exact Kd.S_nil _ _ _ _ _⟩, ⟨by repeat (first | (with_reducible first | exact HI0.out | apply IsS176.alloc | apply IsS176.drewN | apply IsS176.drew | apply IsS176.set_0 | apply IsS176.set_1) | exact HI0.out)⟩, ⟨by repeat (first | (with_reducible first | exact HK.out | apply KeepBut.set_ | apply keep_drewN | apply keep_drew | apply keep_alloc) | exact HK.out)⟩, ⟨by repeat (first | (with_reducible first | exact HB.out | apply below_alloc | apply pw_below_drewN | apply below_drew1 | refine below_set ?_ (IsS176.ge HI0.out)) | exact HB.out)⟩⟩
        case round =>
          clear H'
          try clear c1
          try clear p2
          try clear c5
          try clear c5b0
          try clear c5b1
          try clear c6
          try clear c6b0
          try clear c6b1
          try clear p7
          try clear q7
          try clear hx7
          try clear qi7
          try clear c8
          try clear p2
          try clear p7
          try clear q7
          obtain ⟨x5_2, x6_2, x1000_2, x1001_2, rfl, HA, HK2, HO_5, HI0, HK, HB⟩ := hrel
          cases gk with
          | zero => exact absurd HA.out (by simp [cursor_Cursor_Quoted.l0])
          | succ k2 =>
            have H := HA.out
            clear HA
            simp only [cursor_Cursor_Quoted.l0] at H
            by_cases c9 : x6_2 < (t101.size : Int)
            · rw [if_pos c9] at H
              have c9b0 : decide (x6_2 < (t101.size : Int)) = true := decide_eq_true c9
              clear c9
              by_cases c10 : 0 ≤ x6_2
              · rw [if_pos c10] at H
                have c10b0 : decide (0 ≤ x6_2) = true := decide_eq_true c10
                clear c10
                by_cases c12 : (bt t101 x6_2) = 34
                · rw [if_pos c12] at H
                  have c12b0 : ((bt t101 x6_2) == 34) = true := beq_iff_eq.mpr c12
                  have c12b1 : ((bt t101 x6_2) != 34) = false := bne_eq_false_iff_eq.mpr c12
                  clear c12
                  replace H := Option.bind_eq_some_iff.mp H
                  obtain ⟨⟨t104, t105, t106⟩, A130, H⟩ := H
                  (try dsimp only at H)
                  have A13 := Aside0.mk A130
                  clear A130
                  simp only [Option.some.injEq, Prod.mk.injEq] at H
                  obtain ⟨rfl, rfl, rfl, rfl⟩ := H
                  have p11 : 0 ≤ (x6_2 : Int) := of_decide_eq_true (by first | (with_reducible assumption) | assumption)
                  have q11 : x6_2 < (t101.size : Int) := of_decide_eq_true (by first | (with_reducible assumption) | assumption)
                  have hx11 := bt_at t101 x6_2
                  replace p11 := eq_true p11
                  replace q11 := eq_true q11
                  go_wp2_with (first | ((with_reducible refine gate_callee (f := 172) rfl ?_); refine goesL_ (some 32) rfl rfl Try.func172 (by kernel_rfl) rfl #[.pointer (some ⟨g, 0, none⟩), .int .i64 (wrap64 (x6_2 + 1))] rfl (by (try simp only [List.map_toArray, List.map_cons, List.map_nil]); first | done | rfl | (simp only [List.length_drop, List.length_take]; rfl)) ?_; (with_reducible refine (cursor_Cursor_take.calls g x1000_2 x1001_2 (wrap64 (x6_2 + 1)) t104 t105 t106 w0 _ ?side1 ?side2 A13.out).mono ?_); (case side1 => repeat (first | (with_reducible first | exact HI0.out | apply IsS176.alloc | apply IsS176.drewN | apply IsS176.drew | apply IsS176.set_0 | apply IsS176.set_1) | exact HI0.out)); (case side2 => repeat (first | (with_reducible first | exact HB.out | apply below_alloc | apply pw_below_drewN | apply below_drew1 | refine below_set ?_ (IsS176.ge HI0.out)) | exact HB.out)); rintro e w14 ⟨rfl, hi, hb, hk⟩; refine ⟨_, rfl, ?_⟩; have n0_ := Aside0.mk (Kd.R_mono (Kd.R_keep (IsS176.apart (show IsS176 w0 _ g x1000_2 x1001_2 from by repeat (first | (with_reducible first | exact HI0.out | apply IsS176.alloc | apply IsS176.drewN | apply IsS176.drew | apply IsS176.set_0 | apply IsS176.set_1) | exact HI0.out)) (by (with_reducible repeat (first | apply Kd.R_alloc | apply Kd.R_drewN | apply Kd.R_drew)); exact HO_5.out) (by decide)) hk (fun _ h => h.2)) (fun _ h => h.1)); have n1_ := Aside0.mk (KeepBut.trans (by repeat (first | (with_reducible first | exact HK.out | apply KeepBut.set_ | apply keep_drewN | apply keep_drew | apply keep_alloc) | exact HK.out)) hk (.inl rfl)); have n2_ := Aside0.mk (hb); have n3_ := Aside0.mk (hi); clear HO_5; clear HK; clear HB; clear HI0; have HO_5 := n0_; have HK := n1_; have HB := n2_; have HI0 := n3_; clear n0_ n1_ n2_ n3_; (try clear hb); (try clear hb2); (try clear hk); (try clear hi); have hcv15 := own_string (P := Try.prog) Try.underlying149 Try.underlying5 Try.underlying9 (Kd.own_of_R HO_5.out)))
                  go_ret2
                  exact ⟨by first | rfl | (simp [errW_none, errW_some] <;> rfl) | (simp [*, errW_none, errW_some] <;> rfl), by repeat (first | (with_reducible first | exact HI0.out | apply IsS176.alloc | apply IsS176.drewN | apply IsS176.drew | apply IsS176.set_0 | apply IsS176.set_1) | exact HI0.out), by repeat (first | (with_reducible first | exact HB.out | apply below_alloc | apply pw_below_drewN | apply below_drew1 | refine below_set ?_ (IsS176.ge HI0.out)) | exact HB.out), by repeat (first | (with_reducible first | exact HK.out | apply KeepBut.set_ | apply keep_drewN | apply keep_drew | apply keep_alloc) | exact HK.out)⟩
                · rw [if_neg c12] at H
                  have c12b0 : ((bt t101 x6_2) == 34) = false := beq_eq_false_iff_ne.mpr c12
                  have c12b1 : ((bt t101 x6_2) != 34) = true := bne_iff_ne.mpr c12
                  have HC16 := Aside0.mk H
                  clear H
                  have p11 : 0 ≤ (x6_2 : Int) := of_decide_eq_true (by first | (with_reducible assumption) | assumption)
                  have q11 : x6_2 < (t101.size : Int) := of_decide_eq_true (by first | (with_reducible assumption) | assumption)
                  have hx11 := bt_at t101 x6_2
                  replace p11 := eq_true p11
                  replace q11 := eq_true q11
                  go_upto_region 12 with (fail)
                  go_cut [35] (fun v35 wc => ∃ (kq : Nat) (x35_15 : Bool), v35 = .bool x35_15 ∧ Aside0 (cursor_Cursor_Quoted.j2 kq t101 x5_2 x6_2 (bt t101 x6_2) x35_15 x1000_2 x1001_2 = some (r1, r2, r3, r4)) ∧ Aside0 (kq ≤ k2) ∧ Aside0 (Kd.R (Kd.int .u8) 5 wc w.heap.size (fun _ => True) u5 x5_2) ∧ Aside0 (IsS176 w0 wc g x1000_2 x1001_2) ∧ Aside0 (KeepBut w wc g none) ∧ Aside0 (Below w0.heap.size w0 wc))
                  case first =>
                    have H := HC16.out
                    clear HC16
                    by_cases c17 : (bt t101 x6_2) = 92
                    · rw [if_pos c17] at H
                      have c17b0 : ((bt t101 x6_2) == 92) = true := beq_iff_eq.mpr c17
                      have c17b1 : ((bt t101 x6_2) != 92) = false := bne_eq_false_iff_eq.mpr c17
                      clear c17
                      (first | rw [c17b0] | (simp only [i64_w, i32_w]; rw [c17b0]) | skip)
                      have H' := Aside0.mk H
                      clear H
                      go_wp2
                      go_meet
                      case rel => exact ⟨_, (((wrap64 (x6_2 + 1)) == (t101.size : Int))), (by first | rfl | (simp; done) | (simp [*]; done)), H', ⟨by have := HJ2.out; have := HK2.out; first | omega | exact Nat.le_refl _⟩, ⟨by (with_reducible repeat (first | apply Kd.R_alloc | apply Kd.R_drewN | apply Kd.R_drew)); exact HO_5.out⟩, ⟨by repeat (first | (with_reducible first | exact HI0.out | apply IsS176.alloc | apply IsS176.drewN | apply IsS176.drew | apply IsS176.set_0 | apply IsS176.set_1) | exact HI0.out)⟩, ⟨by repeat (first | (with_reducible first | exact HK.out | apply KeepBut.set_ | apply keep_drewN | apply keep_drew | apply keep_alloc) | exact HK.out)⟩, ⟨by repeat (first | (with_reducible first | exact HB.out | apply below_alloc | apply pw_below_drewN | apply below_drew1 | refine below_set ?_ (IsS176.ge HI0.out)) | exact HB.out)⟩⟩
                    · rw [if_neg c17] at H
                      have c17b0 : ((bt t101 x6_2) == 92) = false := beq_eq_false_iff_ne.mpr c17
                      have c17b1 : ((bt t101 x6_2) != 92) = true := bne_iff_ne.mpr c17
                      (first | rw [c17b0] | (simp only [i64_w, i32_w]; rw [c17b0]) | skip)
                      have H' := Aside0.mk H
                      clear H
                      go_wp2
                      go_meet
                      case rel => exact ⟨_, (false), (by first | rfl | (simp; done) | (simp [*]; done)), H', ⟨by have := HJ2.out; have := HK2.out; first | omega | exact Nat.le_refl _⟩, ⟨by (with_reducible repeat (first | apply Kd.R_alloc | apply Kd.R_drewN | apply Kd.R_drew)); exact HO_5.out⟩, ⟨by repeat (first | (with_reducible first | exact HI0.out | apply IsS176.alloc | apply IsS176.drewN | apply IsS176.drew | apply IsS176.set_0 | apply IsS176.set_1) | exact HI0.out)⟩, ⟨by repeat (first | (with_reducible first | exact HK.out | apply KeepBut.set_ | apply keep_drewN | apply keep_drew | apply keep_alloc) | exact HK.out)⟩, ⟨by repeat (first | (with_reducible first | exact HB.out | apply below_alloc | apply pw_below_drewN | apply below_drew1 | refine below_set ?_ (IsS176.ge HI0.out)) | exact HB.out)⟩⟩
                  case rest =>
                    clear HC16
                    try clear c1
                    try clear p1
                    try clear q1
                    try clear hx1
                    try clear hcv1
                    try clear p2
                    try clear c5
                    try clear c5b0
                    try clear c5b1
                    try clear c6
                    try clear c6b0
                    try clear c6b1
                    try clear p6
                    try clear p7
                    try clear q7
                    try clear hx7
                    try clear qi7
                    try clear c8
                    try clear c9
                    try clear c9b0
                    try clear c10
                    try clear c10b0
                    try clear p11
                    try clear q11
                    try clear hx11
                    try clear c12
                    try clear c12b0
                    try clear c12b1
                    try clear c13
                    try clear hcv15
                    try clear c17
                    try clear c17b0
                    try clear c17b1
                    try clear p11
                    try clear p2
                    try clear p7
                    try clear q11
                    try clear q7
                    obtain ⟨kq, x35_15, rfl, HA, HJ15, HO_5, HI0, HK, HB⟩ := hcut
                    cases kq with
                    | zero => exact absurd HA.out (by simp [cursor_Cursor_Quoted.j2])
                    | succ kj15 =>
                      have H := HA.out
                      clear HA
                      simp only [cursor_Cursor_Quoted.j2] at H
                      by_cases c18 : x35_15 = true
                      · subst c18
                        have H1 : (some ((⟨#[]⟩ : ByteArray), false, x1000_2, x1001_2)) = some (r1, r2, r3, r4) := by rw [if_pos rfl] at H; exact H
                        clear H
                        have H := H1
                        clear H1
                        simp only [Option.some.injEq, Prod.mk.injEq] at H
                        obtain ⟨rfl, rfl, rfl, rfl⟩ := H
                        go_wp2
                        go_ret2
                        exact ⟨by first | rfl | (simp [errW_none, errW_some] <;> rfl) | (simp [*, errW_none, errW_some] <;> rfl), by repeat (first | (with_reducible first | exact HI0.out | apply IsS176.alloc | apply IsS176.drewN | apply IsS176.drew | apply IsS176.set_0 | apply IsS176.set_1) | exact HI0.out), by repeat (first | (with_reducible first | exact HB.out | apply below_alloc | apply pw_below_drewN | apply below_drew1 | refine below_set ?_ (IsS176.ge HI0.out)) | exact HB.out), by repeat (first | (with_reducible first | exact HK.out | apply KeepBut.set_ | apply keep_drewN | apply keep_drew | apply keep_alloc) | exact HK.out)⟩
                      · replace c18 := Bool.eq_false_iff.mpr c18
                        subst c18
                        have H1 : (if (bt t101 x6_2) = 92 then (if 0 ≤ (wrap64 (x6_2 + 1)) then (if (wrap64 (x6_2 + 1)) < (t101.size : Int) then ((octet_Value.f (strOfNums (([bt t101 (wrap64 (x6_2 + 1))] : List Int)))).bind fun t110 => (if t110 = true then (if x5_2.length < 140737488355328 then (cursor_Cursor_Quoted.l0 kj15 t101 (x5_2 ++ [bt t101 (wrap64 (x6_2 + 1))]) (wrap64 ((wrap64 (x6_2 + 1)) + 1)) x1000_2 x1001_2) else (none)) else (some ((⟨#[]⟩ : ByteArray), false, x1000_2, x1001_2)))) else (none)) else (none)) else ((octet_Value.f (strOfNums (([(bt t101 x6_2)] : List Int)))).bind fun t117 => (if t117 = true then (if x5_2.length < 140737488355328 then (cursor_Cursor_Quoted.l0 kj15 t101 (x5_2 ++ [(bt t101 x6_2)]) (wrap64 (x6_2 + 1)) x1000_2 x1001_2) else (none)) else (some ((⟨#[]⟩ : ByteArray), false, x1000_2, x1001_2))))) = some (r1, r2, r3, r4) := by rw [if_neg (show ¬ (false = true) by decide)] at H; exact H
                        clear H
                        have H := H1
                        clear H1
                        by_cases c19 : (bt t101 x6_2) = 92
                        · rw [if_pos c19] at H
                          have c19b0 : ((bt t101 x6_2) == 92) = true := beq_iff_eq.mpr c19
                          have c19b1 : ((bt t101 x6_2) != 92) = false := bne_eq_false_iff_eq.mpr c19
                          clear c19
                          obtain ⟨ji20, hji20⟩ : ∃ j_ : Int, (wrap64 (x6_2 + 1)) = j_ := ⟨_, rfl⟩
                          replace H : (if 0 ≤ (ji20) then (if (ji20) < (t101.size : Int) then ((octet_Value.f (strOfNums (([bt t101 (ji20)] : List Int)))).bind fun t110 => (if t110 = true then (if x5_2.length < 140737488355328 then (cursor_Cursor_Quoted.l0 kj15 t101 (x5_2 ++ [bt t101 (ji20)]) (wrap64 ((ji20) + 1)) x1000_2 x1001_2) else (none)) else (some ((⟨#[]⟩ : ByteArray), false, x1000_2, x1001_2)))) else (none)) else (none)) = some (r1, r2, r3, r4) := by first | (rw [hji20] at H; exact H) | (simp only [hji20] at H ⊢; exact H)
                          have hji20w : (IntKind.i64.wrap (x6_2 + 1)) = ji20 := (i64_w _).trans hji20
                          by_cases c21 : 0 ≤ (ji20)
                          · rw [if_pos c21] at H
                            have c21b0 : decide (0 ≤ (ji20)) = true := decide_eq_true c21
                            clear c21
                            by_cases c22 : (ji20) < (t101.size : Int)
                            · rw [if_pos c22] at H
                              have c22b0 : decide ((ji20) < (t101.size : Int)) = true := decide_eq_true c22
                              clear c22
                              obtain ⟨y107, hy107⟩ : ∃ y_ : List Int, y_ = (([bt t101 (ji20)] : List Int)) := ⟨_, rfl⟩
                              replace H : ((octet_Value.f (strOfNums y107)).bind fun t110 => (if t110 = true then (if x5_2.length < 140737488355328 then (cursor_Cursor_Quoted.l0 kj15 t101 (x5_2 ++ [bt t101 (ji20)]) (wrap64 ((ji20) + 1)) x1000_2 x1001_2) else (none)) else (some ((⟨#[]⟩ : ByteArray), false, x1000_2, x1001_2)))) = some (r1, r2, r3, r4) := by first | (rw [hy107]; with_reducible exact H) | (have H2_ := (Option.bind_some _ _).symm.trans H; rw [hy107]; with_reducible exact H2_) | (have H2_ := (Option.bind_some _ _).symm.trans H; with_reducible exact H2_) | with_reducible exact H | (rw [hy107]; exact H) | exact H
                              have Ny107 := Aside0.mk hy107
                              clear hy107
                              replace H := Option.bind_eq_some_iff.mp H
                              obtain ⟨t110, A240, H⟩ := H
                              (try dsimp only at H)
                              have A24 := Aside0.mk A240
                              clear A240
                              by_cases c25 : t110 = true
                              · subst c25
                                have H1 : (if x5_2.length < 140737488355328 then (cursor_Cursor_Quoted.l0 kj15 t101 (x5_2 ++ [bt t101 (ji20)]) (wrap64 ((ji20) + 1)) x1000_2 x1001_2) else (none)) = some (r1, r2, r3, r4) := by rw [if_pos rfl] at H; exact H
                                clear H
                                have H := H1
                                clear H1
                                by_cases c26 : x5_2.length < 140737488355328
                                · rw [if_pos c26] at H
                                  have LMc26 := Aside0.mk c26
                                  clear c26
                                  obtain ⟨y111, hy111⟩ : ∃ y_ : List Int, y_ = (x5_2 ++ [bt t101 (ji20)]) := ⟨_, rfl⟩
                                  replace H : (cursor_Cursor_Quoted.l0 kj15 t101 y111 (wrap64 ((ji20) + 1)) x1000_2 x1001_2) = some (r1, r2, r3, r4) := by first | (rw [hy111]; with_reducible exact H) | (have H2_ := (Option.bind_some _ _).symm.trans H; rw [hy111]; with_reducible exact H2_) | (have H2_ := (Option.bind_some _ _).symm.trans H; with_reducible exact H2_) | with_reducible exact H | (rw [hy111]; exact H) | exact H
                                  have Ny111 := Aside0.mk hy111
                                  clear hy111
                                  have H' := Aside0.mk H
                                  clear H
                                  have p23 : 0 ≤ ((ji20) : Int) := of_decide_eq_true (by first | (with_reducible assumption) | assumption)
                                  have q23 : (ji20) < (t101.size : Int) := of_decide_eq_true (by first | (with_reducible assumption) | assumption)
                                  have hx23 := bt_at t101 (ji20)
                                  replace p23 := eq_true p23
                                  replace q23 := eq_true q23
                                  go_wp2_with (first | ((with_reducible refine gate_dst (N := 54) rfl ?_); (try (refine gate_guard (by rfl) ?_; dsimp only)); refine Kd.R_lit (Kd.int .u8) _ 5 ?hg (N := 54) ?hd (xs := ([bt t101 (ji20)] : List Int)) (inner := [.int .u8 (bt t101 (ji20))]) (ok := fun _ => True) (okp := fun _ => True) ?hr ?hp (fun _ hk => hk) trivial (Below.refl _ _) (Nat.le_refl _) (by simp) ?_; (case hd => rfl); (case hg => rfl); (case hr => first | (go_simp; done) | (go_simp; rfl)); (case hp => exact (Reps.one (show Kd.M (Kd.int .u8) _ _ _ (bt t101 (ji20)) [.int .u8 (bt t101 (ji20))] from rfl) (Reps.none _ _))); intro v108 w27 ho28 hb hg_ hnew_; clear hg_ hnew_; (first | rw [← Ny107.out] at ho28 | (simp only [Int.reduceToNat] at ho28; rw [← Ny107.out] at ho28)); have n0_ := Aside0.mk (Kd.R_elder' (by (with_reducible repeat (first | apply Kd.R_alloc | apply Kd.R_drewN | apply Kd.R_drew)); exact HO_5.out) (Kd.R_base ho28) hb); have n1_ := Aside0.mk (Kd.R_lower (Kd.R_new' ho28 (Kd.R_lt (by (with_reducible repeat (first | apply Kd.R_alloc | apply Kd.R_drewN | apply Kd.R_drew)); exact HO_5.out))) (keep_size (w := w) (g := g) (row := none) (by repeat (first | (with_reducible first | exact HK.out | apply KeepBut.set_ | apply keep_drewN | apply keep_drew | apply keep_alloc) | exact HK.out)))); have n2_ := Aside0.mk (IsS176.below (by repeat (first | (with_reducible first | exact HI0.out | apply IsS176.alloc | apply IsS176.drewN | apply IsS176.drew | apply IsS176.set_0 | apply IsS176.set_1) | exact HI0.out)) hb); have n3_ := Aside0.mk (KeepBut.trans (by repeat (first | (with_reducible first | exact HK.out | apply KeepBut.set_ | apply keep_drewN | apply keep_drew | apply keep_alloc) | exact HK.out)) (KeepBut.of_below hb g none) (.inl rfl)); have n4_ := Aside0.mk (below_step (by repeat (first | (with_reducible first | exact HB.out | apply below_alloc | apply pw_below_drewN | apply below_drew1 | refine below_set ?_ (IsS176.ge HI0.out)) | exact HB.out)) hb); clear HO_5; clear HI0; clear HK; clear HB; have HO_5 := n0_; have HO109 := n1_; have HI0 := n2_; have HK := n3_; have HB := n4_; clear n0_ n1_ n2_ n3_ n4_; clear hb ho28; have hcv29 := own_string (P := Try.prog) Try.underlying149 Try.underlying5 Try.underlying9 (Kd.own_of_R HO109.out)) | ((with_reducible refine gate_callee (f := 139) rfl ?_); refine goesL_ (some 56) rfl rfl Try.func139 (by kernel_rfl) rfl #[.string (strOfNums y107)] rfl (by (try simp only [List.map_toArray, List.map_cons, List.map_nil]); first | done | rfl | (simp only [List.length_drop, List.length_take]; rfl)) ?_; (with_reducible refine (octet_Value.calls (strOfNums y107) true _ A24.out).mono ?_); rintro e w30 ⟨rfl, hb⟩; refine ⟨_, rfl, ?_⟩; have n0_ := Aside0.mk (Kd.R_below (by (with_reducible repeat (first | apply Kd.R_alloc | apply Kd.R_drewN | apply Kd.R_drew)); exact HO_5.out) hb); have n1_ := Aside0.mk (Kd.R_below (by (with_reducible repeat (first | apply Kd.R_alloc | apply Kd.R_drewN | apply Kd.R_drew)); exact HO109.out) hb); have n2_ := Aside0.mk (IsS176.below (by repeat (first | (with_reducible first | exact HI0.out | apply IsS176.alloc | apply IsS176.drewN | apply IsS176.drew | apply IsS176.set_0 | apply IsS176.set_1) | exact HI0.out)) hb); have n3_ := Aside0.mk (KeepBut.trans (by repeat (first | (with_reducible first | exact HK.out | apply KeepBut.set_ | apply keep_drewN | apply keep_drew | apply keep_alloc) | exact HK.out)) (KeepBut.of_below hb g none) (.inl rfl)); have n4_ := Aside0.mk (below_step (by repeat (first | (with_reducible first | exact HB.out | apply below_alloc | apply pw_below_drewN | apply below_drew1 | refine below_set ?_ (IsS176.ge HI0.out)) | exact HB.out)) hb); clear HO_5; clear HO109; clear HI0; clear HK; clear HB; have HO_5 := n0_; have HO109 := n1_; have HI0 := n2_; have HK := n3_; have HB := n4_; clear n0_ n1_ n2_ n3_ n4_; (try clear hb); (try clear hb2); (try clear hk); (try clear hi)) | ((with_reducible refine gate_builtin (b := .append) (xs := #[.tmp 58, .tmp 60]) rfl ?_); (try (refine gate_guard (by rfl) ?_; dsimp only)); at_builtin; refine Kd.R_append (Kd.int .u8) w.heap.size rfl (.tmp 58) (.tmp 60) 149 5 (.int .u8 0) 1 rfl Try.underlying149 info5 rfl (by decide) (by omega) u5 x5_2 (bt t101 (ji20)) [.int .u8 (bt t101 (ji20))] (fun k_ => some k_ ≠ (v108 : Value).ownBlock) (fun _ => False) rfl rfl ?aP (fun _ hk => hk.elim) ?aF ?aO (Below.refl _ _) ?aS ?aL ?_; (case aP => exact rfl); (case aF => exact (fun k_ hk => Kd.fresh' (Kd.R_lt (by (with_reducible repeat (first | apply Kd.R_alloc | apply Kd.R_drewN | apply Kd.R_drew)); exact HO109.out)) k_ hk)); (case aO => exact (by (with_reducible repeat (first | apply Kd.R_alloc | apply Kd.R_drewN | apply Kd.R_drew)); exact Kd.R_mono HO_5.out (fun _ hk => hk.2))); (case aS => exact (keep_size (w := w) (g := g) (row := none) (by repeat (first | (with_reducible first | exact HK.out | apply KeepBut.set_ | apply keep_drewN | apply keep_drew | apply keep_alloc) | exact HK.out)))); (case aL => have := LMc26.out; omega); intro v112 w31 ho hb hg hat; rw [← Ny111.out] at ho; have n0_ := Aside0.mk (IsS176.grown (by repeat (first | (with_reducible first | exact HI0.out | apply IsS176.alloc | apply IsS176.drewN | apply IsS176.drew | apply IsS176.set_0 | apply IsS176.set_1) | exact HI0.out)) hg (IsS176.own_ne HI0.out HO_5.out (by decide))); have n1_ := Aside0.mk (Kd.R_after (ok := (fun _ => True)) (by (with_reducible repeat (first | apply Kd.R_alloc | apply Kd.R_drewN | apply Kd.R_drew)); exact HO109.out) hg hat); have n2_ := Aside0.mk (below_weaken (by repeat (first | (with_reducible first | exact HB.out | apply below_alloc | apply pw_below_drewN | apply below_drew1 | refine below_set ?_ (IsS176.ge HI0.out)) | exact HB.out)) HL.out hb); have n3_ := Aside0.mk (KeepBut.trans (by repeat (first | (with_reducible first | exact HK.out | apply KeepBut.set_ | apply keep_drewN | apply keep_drew | apply keep_alloc) | exact HK.out)) (KeepBut.of_grown hg g) (Kd.R_base2 HO_5.out)); have n4_ := Aside0.mk (ho); clear HI0; clear HO109; clear HB; clear HK; clear HO_5; have HI0 := n0_; have HO109 := n1_; have HB := n2_; have HK := n3_; have HO113 := n4_; clear n0_ n1_ n2_ n3_ n4_; clear ho hb hg hat))
                                  go_roundg kj15
                                  case measure => have := HJ2.out; have := HK2.out; have := HJ15.out; omega
                                  case rel => exact ⟨(y111), (wrap64 ((ji20) + 1)), (x1000_2), (x1001_2), (by first | rfl | (simp; done) | (simp only [← hji20] <;> (first | rfl | simp)) | (simp [*]; done)), H', ⟨by have := HJ2.out; have := HK2.out; have := HJ15.out; omega⟩, ⟨by (with_reducible repeat (first | apply Kd.R_alloc | apply Kd.R_drewN | apply Kd.R_drew)); exact Kd.R_mono HO113.out (fun _ hk => trivial)⟩, ⟨by repeat (first | (with_reducible first | exact HI0.out | apply IsS176.alloc | apply IsS176.drewN | apply IsS176.drew | apply IsS176.set_0 | apply IsS176.set_1) | exact HI0.out)⟩, ⟨by repeat (first | (with_reducible first | exact HK.out | apply KeepBut.set_ | apply keep_drewN | apply keep_drew | apply keep_alloc) | exact HK.out)⟩, ⟨by repeat (first | (with_reducible first | exact HB.out | apply below_alloc | apply pw_below_drewN | apply below_drew1 | refine below_set ?_ (IsS176.ge HI0.out)) | exact HB.out)⟩⟩
                                · rw [if_neg c26] at H
                                  exact absurd H (by simp)
                              · replace c25 := Bool.eq_false_iff.mpr c25
                                subst c25
                                have H1 : (some ((⟨#[]⟩ : ByteArray), false, x1000_2, x1001_2)) = some (r1, r2, r3, r4) := by rw [if_neg (show ¬ (false = true) by decide)] at H; exact H
                                clear H
                                have H := H1
                                clear H1
                                simp only [Option.some.injEq, Prod.mk.injEq] at H
                                obtain ⟨rfl, rfl, rfl, rfl⟩ := H
                                have p23 : 0 ≤ ((ji20) : Int) := of_decide_eq_true (by first | (with_reducible assumption) | assumption)
                                have q23 : (ji20) < (t101.size : Int) := of_decide_eq_true (by first | (with_reducible assumption) | assumption)
                                have hx23 := bt_at t101 (ji20)
                                replace p23 := eq_true p23
                                replace q23 := eq_true q23
                                go_wp2_with (first | ((with_reducible refine gate_dst (N := 54) rfl ?_); (try (refine gate_guard (by rfl) ?_; dsimp only)); refine Kd.R_lit (Kd.int .u8) _ 5 ?hg (N := 54) ?hd (xs := ([bt t101 (ji20)] : List Int)) (inner := [.int .u8 (bt t101 (ji20))]) (ok := fun _ => True) (okp := fun _ => True) ?hr ?hp (fun _ hk => hk) trivial (Below.refl _ _) (Nat.le_refl _) (by simp) ?_; (case hd => rfl); (case hg => rfl); (case hr => first | (go_simp; done) | (go_simp; rfl)); (case hp => exact (Reps.one (show Kd.M (Kd.int .u8) _ _ _ (bt t101 (ji20)) [.int .u8 (bt t101 (ji20))] from rfl) (Reps.none _ _))); intro v108 w32 ho33 hb hg_ hnew_; clear hg_ hnew_; (first | rw [← Ny107.out] at ho33 | (simp only [Int.reduceToNat] at ho33; rw [← Ny107.out] at ho33)); have n0_ := Aside0.mk (Kd.R_elder' (by (with_reducible repeat (first | apply Kd.R_alloc | apply Kd.R_drewN | apply Kd.R_drew)); exact HO_5.out) (Kd.R_base ho33) hb); have n1_ := Aside0.mk (Kd.R_lower (Kd.R_new' ho33 (Kd.R_lt (by (with_reducible repeat (first | apply Kd.R_alloc | apply Kd.R_drewN | apply Kd.R_drew)); exact HO_5.out))) (keep_size (w := w) (g := g) (row := none) (by repeat (first | (with_reducible first | exact HK.out | apply KeepBut.set_ | apply keep_drewN | apply keep_drew | apply keep_alloc) | exact HK.out)))); have n2_ := Aside0.mk (IsS176.below (by repeat (first | (with_reducible first | exact HI0.out | apply IsS176.alloc | apply IsS176.drewN | apply IsS176.drew | apply IsS176.set_0 | apply IsS176.set_1) | exact HI0.out)) hb); have n3_ := Aside0.mk (KeepBut.trans (by repeat (first | (with_reducible first | exact HK.out | apply KeepBut.set_ | apply keep_drewN | apply keep_drew | apply keep_alloc) | exact HK.out)) (KeepBut.of_below hb g none) (.inl rfl)); have n4_ := Aside0.mk (below_step (by repeat (first | (with_reducible first | exact HB.out | apply below_alloc | apply pw_below_drewN | apply below_drew1 | refine below_set ?_ (IsS176.ge HI0.out)) | exact HB.out)) hb); clear HO_5; clear HI0; clear HK; clear HB; have HO_5 := n0_; have HO109 := n1_; have HI0 := n2_; have HK := n3_; have HB := n4_; clear n0_ n1_ n2_ n3_ n4_; clear hb ho33; have hcv34 := own_string (P := Try.prog) Try.underlying149 Try.underlying5 Try.underlying9 (Kd.own_of_R HO109.out)) | ((with_reducible refine gate_callee (f := 139) rfl ?_); refine goesL_ (some 56) rfl rfl Try.func139 (by kernel_rfl) rfl #[.string (strOfNums y107)] rfl (by (try simp only [List.map_toArray, List.map_cons, List.map_nil]); first | done | rfl | (simp only [List.length_drop, List.length_take]; rfl)) ?_; (with_reducible refine (octet_Value.calls (strOfNums y107) false _ A24.out).mono ?_); rintro e w35 ⟨rfl, hb⟩; refine ⟨_, rfl, ?_⟩; have n0_ := Aside0.mk (Kd.R_below (by (with_reducible repeat (first | apply Kd.R_alloc | apply Kd.R_drewN | apply Kd.R_drew)); exact HO_5.out) hb); have n1_ := Aside0.mk (Kd.R_below (by (with_reducible repeat (first | apply Kd.R_alloc | apply Kd.R_drewN | apply Kd.R_drew)); exact HO109.out) hb); have n2_ := Aside0.mk (IsS176.below (by repeat (first | (with_reducible first | exact HI0.out | apply IsS176.alloc | apply IsS176.drewN | apply IsS176.drew | apply IsS176.set_0 | apply IsS176.set_1) | exact HI0.out)) hb); have n3_ := Aside0.mk (KeepBut.trans (by repeat (first | (with_reducible first | exact HK.out | apply KeepBut.set_ | apply keep_drewN | apply keep_drew | apply keep_alloc) | exact HK.out)) (KeepBut.of_below hb g none) (.inl rfl)); have n4_ := Aside0.mk (below_step (by repeat (first | (with_reducible first | exact HB.out | apply below_alloc | apply pw_below_drewN | apply below_drew1 | refine below_set ?_ (IsS176.ge HI0.out)) | exact HB.out)) hb); clear HO_5; clear HO109; clear HI0; clear HK; clear HB; have HO_5 := n0_; have HO109 := n1_; have HI0 := n2_; have HK := n3_; have HB := n4_; clear n0_ n1_ n2_ n3_ n4_; (try clear hb); (try clear hb2); (try clear hk); (try clear hi)))
                                go_ret2
                                exact ⟨by first | rfl | (simp [errW_none, errW_some] <;> rfl) | (simp only [← hji20]; first | rfl | (simp [errW_none, errW_some] <;> rfl)) | (simp [*, errW_none, errW_some] <;> rfl), by repeat (first | (with_reducible first | exact HI0.out | apply IsS176.alloc | apply IsS176.drewN | apply IsS176.drew | apply IsS176.set_0 | apply IsS176.set_1) | exact HI0.out), by repeat (first | (with_reducible first | exact HB.out | apply below_alloc | apply pw_below_drewN | apply below_drew1 | refine below_set ?_ (IsS176.ge HI0.out)) | exact HB.out), by repeat (first | (with_reducible first | exact HK.out | apply KeepBut.set_ | apply keep_drewN | apply keep_drew | apply keep_alloc) | exact HK.out)⟩
                            · rw [if_neg c22] at H
                              exact absurd H (by simp)
                          · rw [if_neg c21] at H
                            exact absurd H (by simp)
                        · rw [if_neg c19] at H
                          have c19b0 : ((bt t101 x6_2) == 92) = false := beq_eq_false_iff_ne.mpr c19
                          have c19b1 : ((bt t101 x6_2) != 92) = true := bne_iff_ne.mpr c19
                          obtain ⟨y114, hy114⟩ : ∃ y_ : List Int, y_ = (([(bt t101 x6_2)] : List Int)) := ⟨_, rfl⟩
                          replace H : ((octet_Value.f (strOfNums y114)).bind fun t117 => (if t117 = true then (if x5_2.length < 140737488355328 then (cursor_Cursor_Quoted.l0 kj15 t101 (x5_2 ++ [(bt t101 x6_2)]) (wrap64 (x6_2 + 1)) x1000_2 x1001_2) else (none)) else (some ((⟨#[]⟩ : ByteArray), false, x1000_2, x1001_2)))) = some (r1, r2, r3, r4) := by first | (rw [hy114]; with_reducible exact H) | (have H2_ := (Option.bind_some _ _).symm.trans H; rw [hy114]; with_reducible exact H2_) | (have H2_ := (Option.bind_some _ _).symm.trans H; with_reducible exact H2_) | with_reducible exact H | (rw [hy114]; exact H) | exact H
                          have Ny114 := Aside0.mk hy114
                          clear hy114
                          replace H := Option.bind_eq_some_iff.mp H
                          obtain ⟨t117, A360, H⟩ := H
                          (try dsimp only at H)
                          have A36 := Aside0.mk A360
                          clear A360
                          by_cases c37 : t117 = true
                          · subst c37
                            have H1 : (if x5_2.length < 140737488355328 then (cursor_Cursor_Quoted.l0 kj15 t101 (x5_2 ++ [(bt t101 x6_2)]) (wrap64 (x6_2 + 1)) x1000_2 x1001_2) else (none)) = some (r1, r2, r3, r4) := by rw [if_pos rfl] at H; exact H
                            clear H
                            have H := H1
                            clear H1
                            by_cases c38 : x5_2.length < 140737488355328
                            · rw [if_pos c38] at H
                              have LMc38 := Aside0.mk c38
                              clear c38
                              obtain ⟨y118, hy118⟩ : ∃ y_ : List Int, y_ = (x5_2 ++ [(bt t101 x6_2)]) := ⟨_, rfl⟩
                              replace H : (cursor_Cursor_Quoted.l0 kj15 t101 y118 (wrap64 (x6_2 + 1)) x1000_2 x1001_2) = some (r1, r2, r3, r4) := by first | (rw [hy118]; with_reducible exact H) | (have H2_ := (Option.bind_some _ _).symm.trans H; rw [hy118]; with_reducible exact H2_) | (have H2_ := (Option.bind_some _ _).symm.trans H; with_reducible exact H2_) | with_reducible exact H | (rw [hy118]; exact H) | exact H
                              have Ny118 := Aside0.mk hy118
                              clear hy118
                              have H' := Aside0.mk H
                              clear H
                              go_wp2_with (first | ((with_reducible refine gate_dst (N := 54) rfl ?_); (try (refine gate_guard (by rfl) ?_; dsimp only)); refine Kd.R_lit (Kd.int .u8) _ 5 ?hg (N := 54) ?hd (xs := ([(bt t101 x6_2)] : List Int)) (inner := [.int .u8 (bt t101 x6_2)]) (ok := fun _ => True) (okp := fun _ => True) ?hr ?hp (fun _ hk => hk) trivial (Below.refl _ _) (Nat.le_refl _) (by simp) ?_; (case hd => rfl); (case hg => rfl); (case hr => first | (go_simp; done) | (go_simp; rfl)); (case hp => exact (Reps.one (show Kd.M (Kd.int .u8) _ _ _ (bt t101 x6_2) [.int .u8 (bt t101 x6_2)] from rfl) (Reps.none _ _))); intro v115 w39 ho40 hb hg_ hnew_; clear hg_ hnew_; (first | rw [← Ny114.out] at ho40 | (simp only [Int.reduceToNat] at ho40; rw [← Ny114.out] at ho40)); have n0_ := Aside0.mk (Kd.R_elder' (by (with_reducible repeat (first | apply Kd.R_alloc | apply Kd.R_drewN | apply Kd.R_drew)); exact HO_5.out) (Kd.R_base ho40) hb); have n1_ := Aside0.mk (Kd.R_lower (Kd.R_new' ho40 (Kd.R_lt (by (with_reducible repeat (first | apply Kd.R_alloc | apply Kd.R_drewN | apply Kd.R_drew)); exact HO_5.out))) (keep_size (w := w) (g := g) (row := none) (by repeat (first | (with_reducible first | exact HK.out | apply KeepBut.set_ | apply keep_drewN | apply keep_drew | apply keep_alloc) | exact HK.out)))); have n2_ := Aside0.mk (IsS176.below (by repeat (first | (with_reducible first | exact HI0.out | apply IsS176.alloc | apply IsS176.drewN | apply IsS176.drew | apply IsS176.set_0 | apply IsS176.set_1) | exact HI0.out)) hb); have n3_ := Aside0.mk (KeepBut.trans (by repeat (first | (with_reducible first | exact HK.out | apply KeepBut.set_ | apply keep_drewN | apply keep_drew | apply keep_alloc) | exact HK.out)) (KeepBut.of_below hb g none) (.inl rfl)); have n4_ := Aside0.mk (below_step (by repeat (first | (with_reducible first | exact HB.out | apply below_alloc | apply pw_below_drewN | apply below_drew1 | refine below_set ?_ (IsS176.ge HI0.out)) | exact HB.out)) hb); clear HO_5; clear HI0; clear HK; clear HB; have HO_5 := n0_; have HO116 := n1_; have HI0 := n2_; have HK := n3_; have HB := n4_; clear n0_ n1_ n2_ n3_ n4_; clear hb ho40; have hcv41 := own_string (P := Try.prog) Try.underlying149 Try.underlying5 Try.underlying9 (Kd.own_of_R HO116.out)) | ((with_reducible refine gate_callee (f := 139) rfl ?_); refine goesL_ (some 56) rfl rfl Try.func139 (by kernel_rfl) rfl #[.string (strOfNums y114)] rfl (by (try simp only [List.map_toArray, List.map_cons, List.map_nil]); first | done | rfl | (simp only [List.length_drop, List.length_take]; rfl)) ?_; (with_reducible refine (octet_Value.calls (strOfNums y114) true _ A36.out).mono ?_); rintro e w42 ⟨rfl, hb⟩; refine ⟨_, rfl, ?_⟩; have n0_ := Aside0.mk (Kd.R_below (by (with_reducible repeat (first | apply Kd.R_alloc | apply Kd.R_drewN | apply Kd.R_drew)); exact HO_5.out) hb); have n1_ := Aside0.mk (Kd.R_below (by (with_reducible repeat (first | apply Kd.R_alloc | apply Kd.R_drewN | apply Kd.R_drew)); exact HO116.out) hb); have n2_ := Aside0.mk (IsS176.below (by repeat (first | (with_reducible first | exact HI0.out | apply IsS176.alloc | apply IsS176.drewN | apply IsS176.drew | apply IsS176.set_0 | apply IsS176.set_1) | exact HI0.out)) hb); have n3_ := Aside0.mk (KeepBut.trans (by repeat (first | (with_reducible first | exact HK.out | apply KeepBut.set_ | apply keep_drewN | apply keep_drew | apply keep_alloc) | exact HK.out)) (KeepBut.of_below hb g none) (.inl rfl)); have n4_ := Aside0.mk (below_step (by repeat (first | (with_reducible first | exact HB.out | apply below_alloc | apply pw_below_drewN | apply below_drew1 | refine below_set ?_ (IsS176.ge HI0.out)) | exact HB.out)) hb); clear HO_5; clear HO116; clear HI0; clear HK; clear HB; have HO_5 := n0_; have HO116 := n1_; have HI0 := n2_; have HK := n3_; have HB := n4_; clear n0_ n1_ n2_ n3_ n4_; (try clear hb); (try clear hb2); (try clear hk); (try clear hi)) | ((with_reducible refine gate_builtin (b := .append) (xs := #[.tmp 58, .tmp 60]) rfl ?_); (try (refine gate_guard (by rfl) ?_; dsimp only)); at_builtin; refine Kd.R_append (Kd.int .u8) w.heap.size rfl (.tmp 58) (.tmp 60) 149 5 (.int .u8 0) 1 rfl Try.underlying149 info5 rfl (by decide) (by omega) u5 x5_2 (bt t101 x6_2) [.int .u8 (bt t101 x6_2)] (fun k_ => some k_ ≠ (v115 : Value).ownBlock) (fun _ => False) rfl rfl ?aP (fun _ hk => hk.elim) ?aF ?aO (Below.refl _ _) ?aS ?aL ?_; (case aP => exact rfl); (case aF => exact (fun k_ hk => Kd.fresh' (Kd.R_lt (by (with_reducible repeat (first | apply Kd.R_alloc | apply Kd.R_drewN | apply Kd.R_drew)); exact HO116.out)) k_ hk)); (case aO => exact (by (with_reducible repeat (first | apply Kd.R_alloc | apply Kd.R_drewN | apply Kd.R_drew)); exact Kd.R_mono HO_5.out (fun _ hk => hk.2))); (case aS => exact (keep_size (w := w) (g := g) (row := none) (by repeat (first | (with_reducible first | exact HK.out | apply KeepBut.set_ | apply keep_drewN | apply keep_drew | apply keep_alloc) | exact HK.out)))); (case aL => have := LMc38.out; omega); intro v119 w43 ho hb hg hat; rw [← Ny118.out] at ho; have n0_ := Aside0.mk (IsS176.grown (by repeat (first | (with_reducible first | exact HI0.out | apply IsS176.alloc | apply IsS176.drewN | apply IsS176.drew | apply IsS176.set_0 | apply IsS176.set_1) | exact HI0.out)) hg (IsS176.own_ne HI0.out HO_5.out (by decide))); have n1_ := Aside0.mk (Kd.R_after (ok := (fun _ => True)) (by (with_reducible repeat (first | apply Kd.R_alloc | apply Kd.R_drewN | apply Kd.R_drew)); exact HO116.out) hg hat); have n2_ := Aside0.mk (below_weaken (by repeat (first | (with_reducible first | exact HB.out | apply below_alloc | apply pw_below_drewN | apply below_drew1 | refine below_set ?_ (IsS176.ge HI0.out)) | exact HB.out)) HL.out hb); have n3_ := Aside0.mk (KeepBut.trans (by repeat (first | (with_reducible first | exact HK.out | apply KeepBut.set_ | apply keep_drewN | apply keep_drew | apply keep_alloc) | exact HK.out)) (KeepBut.of_grown hg g) (Kd.R_base2 HO_5.out)); have n4_ := Aside0.mk (ho); clear HI0; clear HO116; clear HB; clear HK; clear HO_5; have HI0 := n0_; have HO116 := n1_; have HB := n2_; have HK := n3_; have HO120 := n4_; clear n0_ n1_ n2_ n3_ n4_; clear ho hb hg hat))
                              go_roundg kj15
                              case measure => have := HJ2.out; have := HK2.out; have := HJ15.out; omega
                              case rel => exact ⟨(y118), (wrap64 (x6_2 + 1)), (x1000_2), (x1001_2), (by first | rfl | (simp; done) | (simp [*]; done)), H', ⟨by have := HJ2.out; have := HK2.out; have := HJ15.out; omega⟩, ⟨by (with_reducible repeat (first | apply Kd.R_alloc | apply Kd.R_drewN | apply Kd.R_drew)); exact Kd.R_mono HO120.out (fun _ hk => trivial)⟩, ⟨by repeat (first | (with_reducible first | exact HI0.out | apply IsS176.alloc | apply IsS176.drewN | apply IsS176.drew | apply IsS176.set_0 | apply IsS176.set_1) | exact HI0.out)⟩, ⟨by repeat (first | (with_reducible first | exact HK.out | apply KeepBut.set_ | apply keep_drewN | apply keep_drew | apply keep_alloc) | exact HK.out)⟩, ⟨by repeat (first | (with_reducible first | exact HB.out | apply below_alloc | apply pw_below_drewN | apply below_drew1 | refine below_set ?_ (IsS176.ge HI0.out)) | exact HB.out)⟩⟩
                            · rw [if_neg c38] at H
                              exact absurd H (by simp)
                          · replace c37 := Bool.eq_false_iff.mpr c37
                            subst c37
                            have H1 : (some ((⟨#[]⟩ : ByteArray), false, x1000_2, x1001_2)) = some (r1, r2, r3, r4) := by rw [if_neg (show ¬ (false = true) by decide)] at H; exact H
                            clear H
                            have H := H1
                            clear H1
                            simp only [Option.some.injEq, Prod.mk.injEq] at H
                            obtain ⟨rfl, rfl, rfl, rfl⟩ := H
                            go_wp2_with (first | ((with_reducible refine gate_dst (N := 54) rfl ?_); (try (refine gate_guard (by rfl) ?_; dsimp only)); refine Kd.R_lit (Kd.int .u8) _ 5 ?hg (N := 54) ?hd (xs := ([(bt t101 x6_2)] : List Int)) (inner := [.int .u8 (bt t101 x6_2)]) (ok := fun _ => True) (okp := fun _ => True) ?hr ?hp (fun _ hk => hk) trivial (Below.refl _ _) (Nat.le_refl _) (by simp) ?_; (case hd => rfl); (case hg => rfl); (case hr => first | (go_simp; done) | (go_simp; rfl)); (case hp => exact (Reps.one (show Kd.M (Kd.int .u8) _ _ _ (bt t101 x6_2) [.int .u8 (bt t101 x6_2)] from rfl) (Reps.none _ _))); intro v115 w44 ho45 hb hg_ hnew_; clear hg_ hnew_; (first | rw [← Ny114.out] at ho45 | (simp only [Int.reduceToNat] at ho45; rw [← Ny114.out] at ho45)); have n0_ := Aside0.mk (Kd.R_elder' (by (with_reducible repeat (first | apply Kd.R_alloc | apply Kd.R_drewN | apply Kd.R_drew)); exact HO_5.out) (Kd.R_base ho45) hb); have n1_ := Aside0.mk (Kd.R_lower (Kd.R_new' ho45 (Kd.R_lt (by (with_reducible repeat (first | apply Kd.R_alloc | apply Kd.R_drewN | apply Kd.R_drew)); exact HO_5.out))) (keep_size (w := w) (g := g) (row := none) (by repeat (first | (with_reducible first | exact HK.out | apply KeepBut.set_ | apply keep_drewN | apply keep_drew | apply keep_alloc) | exact HK.out)))); have n2_ := Aside0.mk (IsS176.below (by repeat (first | (with_reducible first | exact HI0.out | apply IsS176.alloc | apply IsS176.drewN | apply IsS176.drew | apply IsS176.set_0 | apply IsS176.set_1) | exact HI0.out)) hb); have n3_ := Aside0.mk (KeepBut.trans (by repeat (first | (with_reducible first | exact HK.out | apply KeepBut.set_ | apply keep_drewN | apply keep_drew | apply keep_alloc) | exact HK.out)) (KeepBut.of_below hb g none) (.inl rfl)); have n4_ := Aside0.mk (below_step (by repeat (first | (with_reducible first | exact HB.out | apply below_alloc | apply pw_below_drewN | apply below_drew1 | refine below_set ?_ (IsS176.ge HI0.out)) | exact HB.out)) hb); clear HO_5; clear HI0; clear HK; clear HB; have HO_5 := n0_; have HO116 := n1_; have HI0 := n2_; have HK := n3_; have HB := n4_; clear n0_ n1_ n2_ n3_ n4_; clear hb ho45; have hcv46 := own_string (P := Try.prog) Try.underlying149 Try.underlying5 Try.underlying9 (Kd.own_of_R HO116.out)) | ((with_reducible refine gate_callee (f := 139) rfl ?_); refine goesL_ (some 56) rfl rfl Try.func139 (by kernel_rfl) rfl #[.string (strOfNums y114)] rfl (by (try simp only [List.map_toArray, List.map_cons, List.map_nil]); first | done | rfl | (simp only [List.length_drop, List.length_take]; rfl)) ?_; (with_reducible refine (octet_Value.calls (strOfNums y114) false _ A36.out).mono ?_); rintro e w47 ⟨rfl, hb⟩; refine ⟨_, rfl, ?_⟩; have n0_ := Aside0.mk (Kd.R_below (by (with_reducible repeat (first | apply Kd.R_alloc | apply Kd.R_drewN | apply Kd.R_drew)); exact HO_5.out) hb); have n1_ := Aside0.mk (Kd.R_below (by (with_reducible repeat (first | apply Kd.R_alloc | apply Kd.R_drewN | apply Kd.R_drew)); exact HO116.out) hb); have n2_ := Aside0.mk (IsS176.below (by repeat (first | (with_reducible first | exact HI0.out | apply IsS176.alloc | apply IsS176.drewN | apply IsS176.drew | apply IsS176.set_0 | apply IsS176.set_1) | exact HI0.out)) hb); have n3_ := Aside0.mk (KeepBut.trans (by repeat (first | (with_reducible first | exact HK.out | apply KeepBut.set_ | apply keep_drewN | apply keep_drew | apply keep_alloc) | exact HK.out)) (KeepBut.of_below hb g none) (.inl rfl)); have n4_ := Aside0.mk (below_step (by repeat (first | (with_reducible first | exact HB.out | apply below_alloc | apply pw_below_drewN | apply below_drew1 | refine below_set ?_ (IsS176.ge HI0.out)) | exact HB.out)) hb); clear HO_5; clear HO116; clear HI0; clear HK; clear HB; have HO_5 := n0_; have HO116 := n1_; have HI0 := n2_; have HK := n3_; have HB := n4_; clear n0_ n1_ n2_ n3_ n4_; (try clear hb); (try clear hb2); (try clear hk); (try clear hi)))
                            go_ret2
                            exact ⟨by first | rfl | (simp [errW_none, errW_some] <;> rfl) | (simp [*, errW_none, errW_some] <;> rfl), by repeat (first | (with_reducible first | exact HI0.out | apply IsS176.alloc | apply IsS176.drewN | apply IsS176.drew | apply IsS176.set_0 | apply IsS176.set_1) | exact HI0.out), by repeat (first | (with_reducible first | exact HB.out | apply below_alloc | apply pw_below_drewN | apply below_drew1 | refine below_set ?_ (IsS176.ge HI0.out)) | exact HB.out), by repeat (first | (with_reducible first | exact HK.out | apply KeepBut.set_ | apply keep_drewN | apply keep_drew | apply keep_alloc) | exact HK.out)⟩
              · rw [if_neg c10] at H
                exact absurd H (by simp)
            · rw [if_neg c9] at H
              have c9b0 : decide (x6_2 < (t101.size : Int)) = false := decide_eq_false c9
              clear c9
              simp only [Option.some.injEq, Prod.mk.injEq] at H
              obtain ⟨rfl, rfl, rfl, rfl⟩ := H
              go_wp2
              go_ret2
              exact ⟨by first | rfl | (simp [errW_none, errW_some] <;> rfl) | (simp [*, errW_none, errW_some] <;> rfl), by repeat (first | (with_reducible first | exact HI0.out | apply IsS176.alloc | apply IsS176.drewN | apply IsS176.drew | apply IsS176.set_0 | apply IsS176.set_1) | exact HI0.out), by repeat (first | (with_reducible first | exact HB.out | apply below_alloc | apply pw_below_drewN | apply below_drew1 | refine below_set ?_ (IsS176.ge HI0.out)) | exact HB.out), by repeat (first | (with_reducible first | exact HK.out | apply KeepBut.set_ | apply keep_drewN | apply keep_drew | apply keep_alloc) | exact HK.out)⟩
end Go.Proofs.Ytjnhghplfdiijaa.Q

namespace Go.Proofs.Ytjnhghplfdiijaa.Q
open Go.RowKit Go.Proofs.YtjnhghplfdiijaaW.PrintWords Go.Proofs.YtjnhghplfdiijaaW.PrintLast Go.Proofs.YtjnhghplfdiijaaW.PrintMore
set_option linter.unusedVariables false
set_option linter.unusedSimpArgs false
/-- What stands up to the closing quotation mark, without its backslashes; and what comes behind. -/
def qL : List UInt8 → List UInt8 → Option (List UInt8 × List UInt8)
  | [], _ => none
  | [c], acc => if c = 34 then some (acc, []) else none
  | c :: d :: r, acc => if c = 34 then some (acc, d :: r) else if c = 92 then (if valC d = true then qL r (acc ++ [d]) else none) else if valC c = true then qL (d :: r) (acc ++ [c]) else none
def quotedL : List UInt8 → Option (List UInt8 × List UInt8)
  | [] => none
  | c :: r => if c = 34 then qL r [] else none
theorem qL_length : ∀ (n : Nat) (l acc : List UInt8), l.length ≤ n → ∀ v r, qL l acc = some (v, r) → r.length < l.length ∧ v.length ≤ acc.length + l.length
  | _, [], _, _, v, r, h => by simp [qL] at h
  | _, [c], acc, _, v, r, h => by
    unfold qL at h
    split at h
    · simp only [Option.some.injEq, Prod.mk.injEq] at h
      obtain ⟨rfl, rfl⟩ := h
      simp
    · cases h
  | n + 1, c :: d :: l, acc, hn, v, r, h => by
    unfold qL at h
    split at h
    · simp only [Option.some.injEq, Prod.mk.injEq] at h
      obtain ⟨rfl, rfl⟩ := h
      simp
    · split at h
      · split at h
        · have := qL_length n l _ (by simp at hn; omega) v r h
          simp at this ⊢; omega
        · cases h
      · split at h
        · have := qL_length n (d :: l) _ (by simp at hn ⊢; omega) v r h
          simp at this ⊢; omega
        · cases h
  | 0, c :: d :: l, acc, hn, v, r, h => by simp at hn
theorem quotedL_length {l v r : List UInt8} (h : quotedL l = some (v, r)) : r.length < l.length ∧ v.length ≤ l.length := by
  cases l with
  | nil => simp [quotedL] at h
  | cons c l =>
    simp only [quotedL] at h
    by_cases e : c = 34
    · rw [if_pos e] at h
      have := qL_length l.length l [] (Nat.le_refl _) v r h
      simp at this ⊢; omega
    · rw [if_neg e] at h; cases h
theorem cut1 {s : ByteArray} {i : Nat} {c : UInt8} {r : List UInt8} (h : (tl s).drop i = c :: r) : s.extract i (i + 1) = ofl [c] := by
  apply tl_inj
  rw [tl_extract, tl_ofl, h, show i + 1 - i = 1 by omega]
  rfl
theorem add1 {i n : Nat} (h : i + 1 < n) (hn : n ≤ 9223372036854775807) : wrap64 (((i + 1 : Nat) : Int) + 1) = ((i + 2 : Nat) : Int) := wrap_succ h hn
/-- The reference's answer: the text, and how much was taken (0: it is none). -/
def quotedR (s : ByteArray) : ByteArray × Int := match quotedL (tl s) with | some (v, r) => (ofl v, ((s.size - r.length : Nat) : Int)) | none => (⟨#[]⟩, 0)
theorem u34 (c : UInt8) : (c.toNat : Int) = 34 ↔ c = 34 := u8_int (c := c) (n := 34) (by omega)
theorem u92 (c : UInt8) : (c.toNat : Int) = 92 ↔ c = 92 := u8_int (c := c) (n := 92) (by omega)
end Go.Proofs.Ytjnhghplfdiijaa.Q

namespace Go.Proofs.Ytjnhghplfdiijaa.Q
open Go.RowKit Go.Proofs.YtjnhghplfdiijaaW.PrintWords Go.Proofs.YtjnhghplfdiijaaW.PrintLast Go.Proofs.YtjnhghplfdiijaaW.PrintMore Go.Lib Go.Shelf
set_option linter.unusedVariables false
set_option linter.unusedSimpArgs false
def oneR (s : ByteArray) : ByteArray × ByteArray × Bool × Bool :=
  if spanN tcharI s = 0 ∨ spanN tcharI s = s.size then (lowerS (s.extract 0 (spanN tcharI s)), ⟨#[]⟩, false, decide (0 < spanN tcharI s))
  else if bt s (spanN tcharI s : Nat) ≠ 61 then (lowerS (s.extract 0 (spanN tcharI s)), ⟨#[]⟩, false, false)
  else if 0 < spanN tcharI (s.extract (spanN tcharI s + 1) s.size) then
    (lowerS (s.extract 0 (spanN tcharI s)), (s.extract (spanN tcharI s + 1) s.size).extract 0 (spanN tcharI (s.extract (spanN tcharI s + 1) s.size)), true, decide (spanN tcharI (s.extract (spanN tcharI s + 1) s.size) = (s.extract (spanN tcharI s + 1) s.size).size))
  else (lowerS (s.extract 0 (spanN tcharI s)), (quotedR (s.extract (spanN tcharI s + 1) s.size)).1, true, decide (0 < (quotedR (s.extract (spanN tcharI s + 1) s.size)).2 ∧ (quotedR (s.extract (spanN tcharI s + 1) s.size)).2 = ((s.extract (spanN tcharI s + 1) s.size).size : Int)))
def abutmentref21_One.f (s : ByteArray) : Option (ByteArray × ByteArray × Bool × Bool) := if s.size ≤ 1000000000 then some (oneR s) else none
end Go.Proofs.Ytjnhghplfdiijaa.Q

namespace Go.Proofs.Ytjnhghplfdiijaa.Q
open Go.RowKit Go.Proofs.YtjnhghplfdiijaaW.PrintWords Go.Proofs.YtjnhghplfdiijaaW.PrintLast Go.Proofs.YtjnhghplfdiijaaW.PrintMore
attribute [local go_sem] max2_int min2_int max_two min_two max_three min_three max_four min_four
set_option linter.unusedVariables false
set_option linter.unusedSimpArgs false
def octet_Fold.l0 : Nat → ByteArray → ByteArray → Int → Int → Option (Bool)
  | 0, _, _, _, _ => none
  | k + 1, x0, x1, x12, x13 => if x13 < x12 then (if 0 ≤ x13 then (if x13 < (x0.size : Int) then ((octet_lower.f (bt x0 x13)).bind fun t101 => (if x13 < (x1.size : Int) then ((octet_lower.f (bt x1 x13)).bind fun t102 => (if t101 = t102 then (octet_Fold.l0 k x0 x1 x12 (wrap64 (x13 + 1))) else (some false))) else (none))) else (none)) else (none)) else (some true)
def octet_Fold.f (k : Nat) (a0 : ByteArray) (a1 : ByteArray) : Option (Bool) := if (a0.size : Int) = (a1.size : Int) then (octet_Fold.l0 k a0 a1 (a0.size : Int) 0) else (some false)
set_option maxHeartbeats 8000000 in
set_option maxRecDepth 100000 in
theorem octet_Fold.calls (k : Nat) (a0 : ByteArray) (a1 : ByteArray) (r : Bool) (w : World) (h : octet_Fold.f k a0 a1 = some r) :
    Calls Try.prog 115 #[.string a0, .string a1] w fun e w' => e = .returned (.bool r) ∧ Drawn0 w w' := by
  have H : (if (a0.size : Int) = (a1.size : Int) then (octet_Fold.l0 k a0 a1 (a0.size : Int) 0) else (some false)) = some r := h
  clear h
  by_cases c3 : (a0.size : Int) = (a1.size : Int)
  · rw [if_pos c3] at H
    have c3b0 : ((a0.size : Int) == (a1.size : Int)) = true := beq_iff_eq.mpr c3
    have c3b1 : ((a0.size : Int) != (a1.size : Int)) = false := bne_eq_false_iff_eq.mpr c3
    have c3b2 : (a0.size == a1.size) = true := by first | simpa using c3 | (simp at c3 ⊢; omega)
    clear c3
    have H' := Aside0.mk H
    clear H
    go_enter Try.func115, Try.ntmps115
    go_wp2
    repeat (go_quiet (fail); try go_wp2)
    go_loopg [13] k (fun kq v13 w' => ∃ (x13_1 : Int), v13 = .int .i64 x13_1 ∧ Aside0 (octet_Fold.l0 kq a0 a1 (a0.size : Int) x13_1 = some r) ∧ Aside0 (kq ≤ k) ∧ Drawn0 w w')
    case atStart => exact ⟨(0), (by first | rfl | (simp; done) | (simp [*]; done)), H', ⟨Nat.le_refl _⟩, by repeat (first | exact Drawn0.refl _ | apply Drawn0.step)⟩
    case round =>
      clear H'
      try clear c1
      try clear p2
      try clear c3
      try clear c3b0
      try clear c3b1
      try clear c3b2
      obtain ⟨x13_1, rfl, HA, HK1, ⟨m1, rfl⟩⟩ := hrel
      cases gk with
      | zero => exact absurd HA.out (by simp [octet_Fold.l0])
      | succ k1 =>
        have H := HA.out
        clear HA
        simp only [octet_Fold.l0] at H
        by_cases c4 : x13_1 < (a0.size : Int)
        · rw [if_pos c4] at H
          have c4b0 : decide (x13_1 < (a0.size : Int)) = true := decide_eq_true c4
          clear c4
          by_cases c5 : 0 ≤ x13_1
          · rw [if_pos c5] at H
            have c5b0 : decide (0 ≤ x13_1) = true := decide_eq_true c5
            clear c5
            by_cases c6 : x13_1 < (a0.size : Int)
            · rw [if_pos c6] at H
              have c6b0 : decide (x13_1 < (a0.size : Int)) = true := decide_eq_true c6
              clear c6
              replace H := Option.bind_eq_some_iff.mp H
              obtain ⟨t101, A80, H⟩ := H
              (try dsimp only at H)
              have A8 := Aside0.mk A80
              clear A80
              by_cases c9 : x13_1 < (a1.size : Int)
              · rw [if_pos c9] at H
                have c9b0 : decide (x13_1 < (a1.size : Int)) = true := decide_eq_true c9
                clear c9
                replace H := Option.bind_eq_some_iff.mp H
                obtain ⟨t102, A110, H⟩ := H
                (try dsimp only at H)
                have A11 := Aside0.mk A110
                clear A110
                by_cases c12 : t101 = t102
                · rw [if_pos c12] at H
                  have c12b0 : (t101 == t102) = true := beq_iff_eq.mpr c12
                  have c12b1 : (t101 != t102) = false := bne_eq_false_iff_eq.mpr c12
                  clear c12
                  have H' := Aside0.mk H
                  clear H
                  have p7 : 0 ≤ (x13_1 : Int) := of_decide_eq_true (by first | (with_reducible assumption) | assumption)
                  have q7 : x13_1 < (a0.size : Int) := of_decide_eq_true (by first | (with_reducible assumption) | assumption)
                  have hx7 := bt_at a0 x13_1
                  replace p7 := eq_true p7
                  replace q7 := eq_true q7
                  go_wp2_with (first | (go_at_call 160; (with_reducible refine (octet_lower.calls (bt a0 x13_1) t101 _ A8.out).mono ?_); rintro e w' ⟨rfl, ⟨nd, rfl⟩⟩; (try first | exact ⟨rfl, _, World.drewN_drewN _ _ _⟩ | exact ⟨rfl, _, Eq.trans (World.drewN_drewN _ _ _) (congrArg (World.drewN _) (Nat.add_assoc _ _ _))⟩); have p10 : 0 ≤ (x13_1 : Int) := of_decide_eq_true (by first | (with_reducible assumption) | assumption); have q10 : x13_1 < (a1.size : Int) := of_decide_eq_true (by first | (with_reducible assumption) | assumption); have hx10 := bt_at a1 x13_1; replace p10 := eq_true p10; replace q10 := eq_true q10) | (go_at_call 160; (with_reducible refine (octet_lower.calls (bt a1 x13_1) t102 _ A11.out).mono ?_); rintro e w' ⟨rfl, ⟨nd, rfl⟩⟩; (try first | exact ⟨rfl, _, World.drewN_drewN _ _ _⟩ | exact ⟨rfl, _, Eq.trans (World.drewN_drewN _ _ _) (congrArg (World.drewN _) (Nat.add_assoc _ _ _))⟩)))
                  repeat (go_quiet (first | (go_at_call 160; (with_reducible refine (octet_lower.calls (bt a0 x13_1) t101 _ A8.out).mono ?_); rintro e w' ⟨rfl, ⟨nd, rfl⟩⟩; (try first | exact ⟨rfl, _, World.drewN_drewN _ _ _⟩ | exact ⟨rfl, _, Eq.trans (World.drewN_drewN _ _ _) (congrArg (World.drewN _) (Nat.add_assoc _ _ _))⟩); have p10 : 0 ≤ (x13_1 : Int) := of_decide_eq_true (by first | (with_reducible assumption) | assumption); have q10 : x13_1 < (a1.size : Int) := of_decide_eq_true (by first | (with_reducible assumption) | assumption); have hx10 := bt_at a1 x13_1; replace p10 := eq_true p10; replace q10 := eq_true q10) | (go_at_call 160; (with_reducible refine (octet_lower.calls (bt a1 x13_1) t102 _ A11.out).mono ?_); rintro e w' ⟨rfl, ⟨nd, rfl⟩⟩; (try first | exact ⟨rfl, _, World.drewN_drewN _ _ _⟩ | exact ⟨rfl, _, Eq.trans (World.drewN_drewN _ _ _) (congrArg (World.drewN _) (Nat.add_assoc _ _ _))⟩))); try go_wp2_with (first | (go_at_call 160; (with_reducible refine (octet_lower.calls (bt a0 x13_1) t101 _ A8.out).mono ?_); rintro e w' ⟨rfl, ⟨nd, rfl⟩⟩; (try first | exact ⟨rfl, _, World.drewN_drewN _ _ _⟩ | exact ⟨rfl, _, Eq.trans (World.drewN_drewN _ _ _) (congrArg (World.drewN _) (Nat.add_assoc _ _ _))⟩); have p10 : 0 ≤ (x13_1 : Int) := of_decide_eq_true (by first | (with_reducible assumption) | assumption); have q10 : x13_1 < (a1.size : Int) := of_decide_eq_true (by first | (with_reducible assumption) | assumption); have hx10 := bt_at a1 x13_1; replace p10 := eq_true p10; replace q10 := eq_true q10) | (go_at_call 160; (with_reducible refine (octet_lower.calls (bt a1 x13_1) t102 _ A11.out).mono ?_); rintro e w' ⟨rfl, ⟨nd, rfl⟩⟩; (try first | exact ⟨rfl, _, World.drewN_drewN _ _ _⟩ | exact ⟨rfl, _, Eq.trans (World.drewN_drewN _ _ _) (congrArg (World.drewN _) (Nat.add_assoc _ _ _))⟩))))
                  go_roundg k1
                  case measure => have := HK1.out; omega
                  case rel => exact ⟨(wrap64 (x13_1 + 1)), (by first | rfl | (simp; done) | (simp [*]; done)), H', ⟨by have := HK1.out; omega⟩, by repeat (first | exact Drawn0.refl _ | apply Drawn0.step)⟩
                · rw [if_neg c12] at H
                  have c12b0 : (t101 == t102) = false := beq_eq_false_iff_ne.mpr c12
                  have c12b1 : (t101 != t102) = true := bne_iff_ne.mpr c12
                  obtain rfl := Option.some.inj H
                  have p7 : 0 ≤ (x13_1 : Int) := of_decide_eq_true (by first | (with_reducible assumption) | assumption)
                  have q7 : x13_1 < (a0.size : Int) := of_decide_eq_true (by first | (with_reducible assumption) | assumption)
                  have hx7 := bt_at a0 x13_1
                  replace p7 := eq_true p7
                  replace q7 := eq_true q7
                  go_wp2_with (first | (go_at_call 160; (with_reducible refine (octet_lower.calls (bt a0 x13_1) t101 _ A8.out).mono ?_); rintro e w' ⟨rfl, ⟨nd, rfl⟩⟩; (try first | exact ⟨rfl, _, World.drewN_drewN _ _ _⟩ | exact ⟨rfl, _, Eq.trans (World.drewN_drewN _ _ _) (congrArg (World.drewN _) (Nat.add_assoc _ _ _))⟩); have p10 : 0 ≤ (x13_1 : Int) := of_decide_eq_true (by first | (with_reducible assumption) | assumption); have q10 : x13_1 < (a1.size : Int) := of_decide_eq_true (by first | (with_reducible assumption) | assumption); have hx10 := bt_at a1 x13_1; replace p10 := eq_true p10; replace q10 := eq_true q10) | (go_at_call 160; (with_reducible refine (octet_lower.calls (bt a1 x13_1) t102 _ A11.out).mono ?_); rintro e w' ⟨rfl, ⟨nd, rfl⟩⟩; (try first | exact ⟨rfl, _, World.drewN_drewN _ _ _⟩ | exact ⟨rfl, _, Eq.trans (World.drewN_drewN _ _ _) (congrArg (World.drewN _) (Nat.add_assoc _ _ _))⟩)))
                  repeat (go_quiet (first | (go_at_call 160; (with_reducible refine (octet_lower.calls (bt a0 x13_1) t101 _ A8.out).mono ?_); rintro e w' ⟨rfl, ⟨nd, rfl⟩⟩; (try first | exact ⟨rfl, _, World.drewN_drewN _ _ _⟩ | exact ⟨rfl, _, Eq.trans (World.drewN_drewN _ _ _) (congrArg (World.drewN _) (Nat.add_assoc _ _ _))⟩); have p10 : 0 ≤ (x13_1 : Int) := of_decide_eq_true (by first | (with_reducible assumption) | assumption); have q10 : x13_1 < (a1.size : Int) := of_decide_eq_true (by first | (with_reducible assumption) | assumption); have hx10 := bt_at a1 x13_1; replace p10 := eq_true p10; replace q10 := eq_true q10) | (go_at_call 160; (with_reducible refine (octet_lower.calls (bt a1 x13_1) t102 _ A11.out).mono ?_); rintro e w' ⟨rfl, ⟨nd, rfl⟩⟩; (try first | exact ⟨rfl, _, World.drewN_drewN _ _ _⟩ | exact ⟨rfl, _, Eq.trans (World.drewN_drewN _ _ _) (congrArg (World.drewN _) (Nat.add_assoc _ _ _))⟩))); try go_wp2_with (first | (go_at_call 160; (with_reducible refine (octet_lower.calls (bt a0 x13_1) t101 _ A8.out).mono ?_); rintro e w' ⟨rfl, ⟨nd, rfl⟩⟩; (try first | exact ⟨rfl, _, World.drewN_drewN _ _ _⟩ | exact ⟨rfl, _, Eq.trans (World.drewN_drewN _ _ _) (congrArg (World.drewN _) (Nat.add_assoc _ _ _))⟩); have p10 : 0 ≤ (x13_1 : Int) := of_decide_eq_true (by first | (with_reducible assumption) | assumption); have q10 : x13_1 < (a1.size : Int) := of_decide_eq_true (by first | (with_reducible assumption) | assumption); have hx10 := bt_at a1 x13_1; replace p10 := eq_true p10; replace q10 := eq_true q10) | (go_at_call 160; (with_reducible refine (octet_lower.calls (bt a1 x13_1) t102 _ A11.out).mono ?_); rintro e w' ⟨rfl, ⟨nd, rfl⟩⟩; (try first | exact ⟨rfl, _, World.drewN_drewN _ _ _⟩ | exact ⟨rfl, _, Eq.trans (World.drewN_drewN _ _ _) (congrArg (World.drewN _) (Nat.add_assoc _ _ _))⟩))))
                  go_ret
                  exact ⟨by first | rfl | (simp; done) | (simp [*]; done), by repeat (first | exact Drawn0.refl _ | apply Drawn0.step)⟩
              · rw [if_neg c9] at H
                exact absurd H (by simp)
            · rw [if_neg c6] at H
              exact absurd H (by simp)
          · rw [if_neg c5] at H
            exact absurd H (by simp)
        · rw [if_neg c4] at H
          have c4b0 : decide (x13_1 < (a0.size : Int)) = false := decide_eq_false c4
          clear c4
          obtain rfl := Option.some.inj H
          go_wp2
          repeat (go_quiet (fail); try go_wp2)
          go_ret
          exact ⟨by first | rfl | (simp; done) | (simp [*]; done), by repeat (first | exact Drawn0.refl _ | apply Drawn0.step)⟩
  · rw [if_neg c3] at H
    have c3b0 : ((a0.size : Int) == (a1.size : Int)) = false := beq_eq_false_iff_ne.mpr c3
    have c3b1 : ((a0.size : Int) != (a1.size : Int)) = true := bne_iff_ne.mpr c3
    have c3b2 : (a0.size == a1.size) = false := by first | simpa using c3 | (simp at c3 ⊢; omega)
    obtain rfl := Option.some.inj H
    go_enter Try.func115, Try.ntmps115
    go_wp2
    repeat (go_quiet (fail); try go_wp2)
    go_ret
    exact ⟨by first | rfl | (simp; done) | (simp [*]; done), by repeat (first | exact Drawn0.refl _ | apply Drawn0.step)⟩
end Go.Proofs.Ytjnhghplfdiijaa.Q

namespace Go.Proofs.Ytjnhghplfdiijaa.Q
open Go.RowKit Go.Proofs.YtjnhghplfdiijaaW.PrintWords Go.Proofs.YtjnhghplfdiijaaW.PrintLast Go.Proofs.YtjnhghplfdiijaaW.PrintMore Go.Lib Go.Shelf
set_option linter.unusedVariables false
set_option linter.unusedSimpArgs false
/-- A function value that answers p at the texts of a list, and keeps what lay. -/
def StrPred (P : Program) (f : Nat) (lb : Array Value) (p : ByteArray → Bool) (l : List ByteArray) (w : World) : Prop :=
  ∀ (x : ByteArray) (W : World), x ∈ l → Below w.heap.size w W → Calls P f (#[.string x] ++ lb) W fun e w' => e = .returned (.bool (p x)) ∧ Below W.heap.size W w'
/-- The first place of which p holds, or -1. -/
def idxI {α : Type} (p : α → Bool) (l : List α) : Int := match l.findIdx? p with | some i => (i : Int) | none => -1
theorem idxI_hit {α : Type} (p : α → Bool) (l : List α) (k : Nat) (x : α) (hk : l[k]? = some x) (hp : p x = true) (h : ∀ (j : Nat) y, j < k → l[j]? = some y → p y = false) : idxI p l = (k : Int) := by
  have hlt : k < l.length := (List.getElem?_eq_some_iff.1 hk).1
  have hx : l[k] = x := (List.getElem?_eq_some_iff.1 hk).2
  have : l.findIdx? p = some k := by
    rw [List.findIdx?_eq_some_iff_getElem]
    refine ⟨hlt, by rw [hx]; exact hp, fun j hj => ?_⟩
    have := h j _ hj (List.getElem?_eq_getElem (by omega))
    simpa using this
  unfold idxI
  rw [this]
theorem idxI_miss {α : Type} (p : α → Bool) (l : List α) (h : ∀ (j : Nat) y, l[j]? = some y → p y = false) : idxI p l = -1 := by
  have : l.findIdx? p = none := by
    rw [List.findIdx?_eq_none_iff]
    intro x hx
    obtain ⟨j, hj, rfl⟩ := List.getElem_of_mem hx
    exact h j _ (List.getElem?_eq_getElem hj)
  unfold idxI
  rw [this]
theorem idxI_any {α : Type} (p : α → Bool) (l : List α) : decide (0 ≤ idxI p l) = l.any p := by
  unfold idxI
  cases h : l.findIdx? p with
  | some i =>
    have h2 := List.findIdx?_eq_some_iff_getElem.1 h
    obtain ⟨hi, hp, _⟩ := h2
    have : l.any p = true := List.any_eq_true.2 ⟨_, List.getElem_mem hi, hp⟩
    rw [this]
    simp
  | none =>
    rw [List.findIdx?_eq_none_iff] at h
    have : l.any p = false := by
      rw [Bool.eq_false_iff]
      intro ha
      obtain ⟨x, hx, hp⟩ := List.any_eq_true.1 ha
      rw [h x hx] at hp
      cases hp
    rw [this]
    rfl
set_option maxHeartbeats 2000000 in
theorem IndexFunc_str (f : Nat) (lb : Array Value) (ef : ∀ args w, (callFunc f args).run Try.prog w = .ok (.enter f args) w) (p : ByteArray → Bool) (A : Option Addr) (c : Nat) (l : List ByteArray) (w : World)
    (hr : Kd.C Kd.string w A l.length l) (hl : l.length ≤ 9223372036854775807) (hcall : StrPred Try.prog f lb p l w) :
    Calls Try.prog 126 #[.slice A l.length c, .func (.func f) #[] lb] w fun e w' => e = .returned (.int .i64 (idxI p l)) ∧ Below w.heap.size w w' := by
  have HR := Aside0.mk hr
  have HC := Aside0.mk hcall
  clear hr hcall
  go_enter Try.func126, Try.ntmps126
  go_wp2
  go_loopg [5, 8] l.length (fun gg _ i wr => ∃ k : Nat, k ≤ l.length ∧ l.length - k ≤ gg ∧ i = .int .i64 k ∧ Below w.heap.size w wr ∧ Aside0 (∀ j y, j < k → l[j]? = some y → p y = false))
  case atStart => exact ⟨0, Nat.zero_le _, by omega, rfl, Below.refl _ _, ⟨fun j y hj => by omega⟩⟩
  case round =>
    obtain ⟨k, hk, hgg, rfl, HB, HA⟩ := hrel
    by_cases hlt : k < l.length
    · obtain ⟨ad, e, hc⟩ := Kd.at_string (Kd.C_below HR.out HB) (k : Int) (by omega) (by omega)
      subst e
      have hget : rdOf ByteArray.empty l (k : Int) = l[k] := by simp [rdOf, hlt]
      rw [hget] at hc
      have hc' : wr.cell? (ad.add k) = some (.string l[k]) := hc
      clear hc hget
      have HK := Aside0.mk (List.getElem?_eq_getElem hlt)
      have HM := Aside0.mk (List.getElem_mem hlt)
      generalize l[k] = y at hc' HK HM
      have hHC := Aside0.mk (HC.out y wr HM.out HB)
      cases hq : p y with
      | true =>
        rw [hq] at hHC
        have HQ := Aside0.mk hq
        clear hq
        go_wp2_with fail
        refine hHC.out.mono ?_
        rintro e w2 ⟨rfl, hb⟩
        have HBX := Aside0.mk hb
        clear hb
        go_wp2
        go_ret
        rw [idxI_hit p l k y HK.out HQ.out (fun j z hj hz => HA.out j z hj hz)]
        exact ⟨rfl, HB.trans (HBX.out.mono HB.size)⟩
      | false =>
        rw [hq] at hHC
        have HQ := Aside0.mk hq
        clear hq
        go_wp2_with fail
        refine hHC.out.mono ?_
        rintro e w2 ⟨rfl, hb⟩
        have HBX := Aside0.mk hb
        clear hb
        go_wp2
        go_roundg (gk - 1)
        case measure => omega
        case rel =>
          refine ⟨k + 1, by omega, by omega, by go_num, HB.trans (HBX.out.mono HB.size), ⟨fun j z hj hz => ?_⟩⟩
          by_cases e : j = k
          · subst e
            have := HK.out.symm.trans hz
            injection this with this
            subst this
            exact HQ.out
          · exact HA.out j z (by omega) hz
    · go_wp2
      go_ret
      rw [idxI_miss p l (fun j z hz => HA.out j z (by have := (List.getElem?_eq_some_iff.1 hz).1; omega) hz)]
      exact ⟨rfl, HB⟩
theorem ContainsFunc_str (f : Nat) (lb : Array Value) (ef : ∀ args w, (callFunc f args).run Try.prog w = .ok (.enter f args) w) (p : ByteArray → Bool) (A : Option Addr) (c : Nat) (l : List ByteArray) (w : World)
    (hr : Kd.C Kd.string w A l.length l) (hl : l.length ≤ 9223372036854775807) (hcall : StrPred Try.prog f lb p l w) :
    Calls Try.prog 78 #[.slice A l.length c, .func (.func f) #[] lb] w fun e w' => e = .returned (.bool (l.any p)) ∧ Below w.heap.size w w' := by
  have HC := Aside0.mk (IndexFunc_str f lb ef p A c l w hr hl hcall)
  have HE := Aside0.mk (idxI_any p l)
  clear hr hcall
  generalize idxI p l = i at HC HE
  generalize l.any p = b at HE ⊢
  have e := HE.out
  subst e
  clear HE
  go_enter Try.func78, Try.ntmps78
  go_wp2_with fail
  refine HC.out.mono ?_
  rintro e w2 ⟨rfl, hb⟩
  have HBX := Aside0.mk hb
  clear hb
  go_wp2
  go_ret
  exact ⟨rfl, HBX.out⟩
/-- Are two texts one but for the letters' case? -/
def foldE (a b : ByteArray) : Bool := decide ((bytesOf a).map lowB = (bytesOf b).map lowB)
theorem foldE_iff (a b : ByteArray) : foldE a b = true ↔ a.size = b.size ∧ ∀ j : Nat, j < a.size → lowB (bt a (j : Int)) = lowB (bt b (j : Int)) := by
  unfold foldE
  rw [decide_eq_true_eq]
  constructor
  · intro h
    have hl := congrArg List.length h
    simp only [List.length_map, bytesOf_length] at hl
    refine ⟨hl, fun j hj => ?_⟩
    have h1 := congrArg (fun l => l[j]?) h
    simp only [List.getElem?_map, bytesOf_get a j hj, bytesOf_get b j (by omega), Option.map_some, Option.some.injEq] at h1
    exact h1
  · rintro ⟨hl, h⟩
    apply List.ext_getElem?
    intro j
    by_cases hj : j < a.size
    · rw [List.getElem?_map, List.getElem?_map, bytesOf_get a j hj, bytesOf_get b j (by omega), Option.map_some, Option.map_some, h j hj]
    · rw [List.getElem?_eq_none (by rw [List.length_map, bytesOf_length]; omega), List.getElem?_eq_none (by rw [List.length_map, bytesOf_length]; omega)]
theorem fold_loop (a b : ByteArray) (hl : a.size = b.size) (hm : a.size ≤ 9223372036854775807) : ∀ (d k i : Nat), a.size - i = d → i ≤ a.size → d < k →
    ∃ r, octet_Fold.l0 k a b (a.size : Int) (i : Int) = some r ∧ (r = true ↔ ∀ j : Nat, i ≤ j → j < a.size → lowB (bt a (j : Int)) = lowB (bt b (j : Int)))
  | 0, k, i, hd, hi, hk => by
    obtain ⟨k, rfl⟩ : ∃ m, k = m + 1 := ⟨k - 1, by omega⟩
    refine ⟨true, ?_, by simp; intro j h1 h2; omega⟩
    simp only [octet_Fold.l0]
    rw [if_neg (by omega)]
  | d + 1, k, i, hd, hi, hk => by
    obtain ⟨k, rfl⟩ : ∃ m, k = m + 1 := ⟨k - 1, by omega⟩
    simp only [octet_Fold.l0]
    rw [if_pos (by omega), if_pos (by omega), if_pos (by omega), lowB_f]
    simp only [Option.bind_some]
    rw [if_pos (by omega), lowB_f]
    simp only [Option.bind_some]
    by_cases he : lowB (bt a (i : Int)) = lowB (bt b (i : Int))
    · rw [if_pos he]
      obtain ⟨r, hr, hrr⟩ := fold_loop a b hl hm d k (i + 1) (by omega) (by omega) (by omega)
      refine ⟨r, ?_, hrr.trans ⟨fun h j h1 h2 => ?_, fun h j h1 h2 => h j (by omega) h2⟩⟩
      · rw [show wrap64 ((i : Int) + 1) = ((i + 1 : Nat) : Int) by unfold wrap64; omega]
        exact hr
      · by_cases e : j = i
        · subst e; exact he
        · exact h j (by omega) h2
    · rw [if_neg he]
      exact ⟨false, rfl, by simp; exact ⟨i, Nat.le_refl _, by omega, he⟩⟩
theorem fold_plain (a b : ByteArray) (hm : a.size ≤ 9223372036854775807) : octet_Fold.f (a.size + 1) a b = some (foldE a b) := by
  unfold octet_Fold.f
  by_cases hl : a.size = b.size
  · rw [if_pos (by omega)]
    obtain ⟨r, hr, hrr⟩ := fold_loop a b hl hm a.size (a.size + 1) 0 (by omega) (by omega) (by omega)
    have e : r = foldE a b := by
      rw [Bool.eq_iff_iff, hrr, foldE_iff]
      exact ⟨fun h => ⟨hl, fun j hj => h j (by omega) hj⟩, fun h j _ hj => h.2 j hj⟩
    rw [← e]
    exact hr
  · rw [if_neg (by omega)]
    have : foldE a b = false := by rw [Bool.eq_false_iff, ne_eq, foldE_iff]; exact fun h => hl h.1
    rw [this]
theorem Fold_any (a b : ByteArray) (hm : a.size ≤ 9223372036854775807) (w : World) :
    Calls Try.prog 115 #[.string a, .string b] w fun e w' => e = .returned (.bool (foldE a b)) ∧ Drawn0 w w' :=
  octet_Fold.calls _ a b _ w (fold_plain a b hm)
end Go.Proofs.Ytjnhghplfdiijaa.Q

namespace Go.Proofs.Ytjnhghplfdiijaa.Q
open Go.RowKit Go.Proofs.YtjnhghplfdiijaaW.PrintWords Go.Proofs.YtjnhghplfdiijaaW.PrintLast Go.Proofs.YtjnhghplfdiijaaW.PrintMore Go.Lib Go.Shelf
set_option linter.unusedVariables false
set_option linter.unusedSimpArgs false
theorem named_inner (x : ByteArray) (B : Nat) (n : ByteArray) (hn : n.size ≤ 9223372036854775807) (W : World) (hc : W.cell? ⟨B, 0, none⟩ = some (.string x)) :
    Calls Try.prog 190 #[.string n, .pointer (some ⟨B, 0, none⟩)] W fun e w' => e = .returned (.bool (foldE n x)) ∧ Below W.heap.size W w' := by
  have HF := Aside0.mk (Fold_any n x hn W)
  go_enter Try.func190, Try.ntmps190
  go_wp2_with fail
  refine HF.out.mono ?_
  rintro e w1 ⟨rfl, hd⟩
  have HD := Aside0.mk hd
  clear hd
  go_wp2
  go_ret
  exact ⟨rfl, HD.out.below⟩
/-- Has a field one of some names? -/
def namedB (names : List ByteArray) (x : ByteArray) : Bool := names.any fun n => foldE n x
set_option maxHeartbeats 1000000 in
theorem named_pred (names : List ByteArray) (hn : ∀ n ∈ names, n.size ≤ 9223372036854775807) (hl : names.length ≤ 9223372036854775807) (x y : ByteArray) (Bn : Nat) (A : Option Addr) (c : Nat) (W : World)
    (hb : W.cell? ⟨Bn, 0, none⟩ = some (.slice A names.length c)) (hr : Kd.C Kd.string W A names.length names) :
    Calls Try.prog 189 #[.agg #[.string x, .string y], .pointer (some ⟨Bn, 0, none⟩)] W fun e w' => e = .returned (.bool (namedB names x)) ∧ Below W.heap.size W w' := by
  have hblt := World.block_lt_of_cell? W _ hb
  have HC : Aside0 (∀ W1, Below W.heap.size W W1 → W1.cell? ⟨W.heap.size, 0, none⟩ = some (.string x) → W.heap.size < W1.heap.size → Calls Try.prog 78 #[.slice A names.length c, .func (.func 190) #[] #[.pointer (some ⟨W.heap.size, 0, none⟩)]] W1 fun e w' => e = .returned (.bool (namedB names x)) ∧ Below W1.heap.size W1 w') := ⟨fun W1 h1 h2 h3 => by
    have := ContainsFunc_str 190 #[.pointer (some ⟨W.heap.size, 0, none⟩)] (enters_of Try.func190 (by kernel_rfl) rfl) (fun n => foldE n x) A c names W1 (Kd.C_below hr h1) hl (fun n W2 hm hb2 => named_inner x W.heap.size n (hn n hm) W2 ((hb2.cell (p := ⟨W.heap.size, 0, none⟩) h3).trans h2))
    exact this⟩
  clear hr
  go_enter Try.func189, Try.ntmps189
  go_wp2_with fail
  refine (HC.out _ ((Below.refl _ _).alloc (Nat.le_refl _) _) (by first | (go_simp; done) | (go_simp; rfl)) (by simp)).mono ?_
  rintro e w1 ⟨rfl, hd⟩
  have HD := Aside0.mk hd
  clear hd
  go_wp2
  go_ret
  exact ⟨rfl, ((Below.refl _ _).alloc (Nat.le_refl _) _).trans (HD.out.mono (by simp))⟩
theorem named_new (A : Option Addr) (n c : Nat) (w : World) :
    Calls Try.prog 161 #[.slice A n c] w fun e w' => e = .returned (.func (.func 189) #[] #[.pointer (some ⟨w.heap.size, 0, none⟩)]) ∧ w.alloc (.cells #[.slice A n c] 93) = w' := by
  go_enter Try.func161, Try.ntmps161
  go_wp2
  go_ret
  exact ⟨rfl, rfl⟩
theorem Kd.C_one_string {w : World} {b : Nat} {x : ByteArray} (h : w.cell? ⟨b, 0, none⟩ = some (.string x)) : Kd.C Kd.string w (some ⟨b, 0, none⟩) 1 [x] := by
  refine Kd.C_of_reads (d := ByteArray.empty) (h1 := fun _ => rfl) ⟨rfl, by simp, fun _ => ⟨_, rfl, fun j hj => ?_⟩⟩
  obtain rfl : j = 0 := by omega
  exact h
def header_All.f (l : List S60) (name : ByteArray) : Option (List ByteArray) :=
  if name.size ≤ 9223372036854775807 ∧ l.length ≤ 8796093022207 then some ((l.filter fun f => foldE name f.f0).map fun f => f.f1) else none
set_option maxHeartbeats 4000000 in
theorem header_All.calls (A0 : Option Addr) (c0 : Nat) (l0 : List S60) (a1 : ByteArray) (r : List ByteArray) (w : World) (hr0 : Kd.C k60 w A0 l0.length l0) (hc0 : l0.length ≤ c0) (h : header_All.f l0 a1 = some r) :
    Calls Try.prog 116 #[.slice A0 l0.length c0, .string a1] w fun e w' => ∃ v0_ : Value, e = .returned v0_ ∧ Kd.R Kd.string 9 w' w.heap.size (fun _ => True) v0_ r ∧ Below w.heap.size w w' := by
  have hs : a1.size ≤ 9223372036854775807 ∧ l0.length ≤ 8796093022207 := by
    unfold header_All.f at h
    split at h
    · assumption
    · cases h
  unfold header_All.f at h
  rw [if_pos hs] at h
  have HH := Aside0.mk (Option.some.inj h)
  clear h
  have HR0 := Aside0.mk hr0
  have HC0 := Aside0.mk hc0
  clear hr0 hc0
  have HS := Aside0.mk hs
  have hl := hs.2
  clear hs
  go_enter Try.func116, Try.ntmps116
  go_wp2_with (go_at_call 161; refine (named_new _ _ _ _).mono ?_; rintro e w' ⟨rfl, rfl⟩)
  obtain ⟨W0, hW0⟩ : ∃ W0, (w.alloc (Obj.cells #[Value.string a1] 9)).alloc (Obj.cells #[Value.slice (some ⟨w.heap.size, 0, none⟩) 1 1] 93) = W0 := ⟨_, rfl⟩
  have hz : W0.heap.size = w.heap.size + 2 := by rw [← hW0]; simp
  have hb0 : Below w.heap.size w W0 := by rw [← hW0]; exact ((Below.refl _ _).alloc (Nat.le_refl _) _).alloc (by simp) _
  have hc1 : W0.cell? ⟨w.heap.size + 1, 0, none⟩ = some (.slice (some ⟨w.heap.size, 0, none⟩) 1 1) := by rw [← hW0]; have := blk_cell (blk_new (w.alloc (Obj.cells #[Value.string a1] 9)) (Obj.cells #[Value.slice (some ⟨w.heap.size, 0, none⟩) 1 1] 93)) 0; rw [World.size_alloc] at this; exact this.trans rfl
  have hc2 : W0.cell? ⟨w.heap.size, 0, none⟩ = some (.string a1) := by rw [← hW0]; exact (((Below.refl _ _).alloc (Nat.le_refl _) _).cell (p := ⟨w.heap.size, 0, none⟩) (by simp)).trans ((blk_cell (blk_new w _) 0).trans rfl)
  have HF0 := Aside0.mk (And.intro hz (And.intro hb0 (And.intro hc1 hc2)))
  rw [hW0]
  clear hW0 hz hb0 hc1 hc2
  go_loopg [6, 14] l0.length (fun gg v i wr => ∃ (k : Nat) (xs : List ByteArray), k ≤ l0.length ∧ l0.length - k ≤ gg ∧ i = .int .i64 k ∧ Aside0 (xs = ((l0.take k).filter fun f => foldE a1 f.f0).map fun f => f.f1) ∧ Aside0 (Kd.R Kd.string 9 wr (w.heap.size + 2) (fun _ => True) v xs) ∧ Aside0 (Below (w.heap.size + 2) W0 wr))
  case atStart => exact ⟨0, [], Nat.zero_le _, by omega, rfl, ⟨rfl⟩, ⟨Kd.R_nil _ _ _ _ _⟩, ⟨Below.refl _ _⟩⟩
  case round =>
    obtain ⟨k, xs, hk, hgg, rfl, HX, HO, HB⟩ := hrel
    have HBw : Aside0 (Below w.heap.size w wr) := ⟨HF0.out.2.1.trans (HB.out.mono (by omega))⟩
    by_cases hlt : k < l0.length
    · obtain ⟨ad, e, hq0, hq1⟩ := at_T60 (Kd.C_below HR0.out HBw.out) (k : Int) (by omega) (by omega)
      subst e
      have hget : rd_T60 l0 (k : Int) = l0[k] := by simp [rd_T60, hlt]
      rw [hget] at hq0 hq1
      have HK := Aside0.mk (List.getElem?_eq_getElem hlt)
      clear hget
      generalize l0[k] = y at hq0 hq1 HK
      have hq2 : wr.cell? (ad.add (k * 2)) = some (.string y.f0) := hq0
      have hq3 : wr.cell? ⟨(ad.add (k * 2)).block, (ad.add (k * 2)).off + 1, none⟩ = some (.string y.f1) := hq1
      clear hq0 hq1
      have HP : Aside0 (Calls Try.prog 189 #[.agg #[.string y.f0, .string y.f1], .pointer (some ⟨w.heap.size + 1, 0, none⟩)] (wr.alloc (Obj.cells #[Value.string y.f0, Value.string y.f1] 60)) fun e w' => e = .returned (.bool (foldE a1 y.f0)) ∧ Below (wr.alloc (Obj.cells #[Value.string y.f0, Value.string y.f1] 60)).heap.size (wr.alloc (Obj.cells #[Value.string y.f0, Value.string y.f1] 60)) w') := ⟨by
        have hba : Below (w.heap.size + 2) W0 (wr.alloc (Obj.cells #[Value.string y.f0, Value.string y.f1] 60)) := HB.out.alloc (by have := HB.out.size; have := HF0.out.1; omega) _
        have k1 := (hba.cell (p := ⟨w.heap.size + 1, 0, none⟩) (by simp)).trans HF0.out.2.2.1
        have k2 := (hba.cell (p := ⟨w.heap.size, 0, none⟩) (by simp)).trans HF0.out.2.2.2
        have := named_pred [a1] (fun n hn => by simp at hn; subst hn; exact HS.out.1) (by simp) y.f0 y.f1 (w.heap.size + 1) (some ⟨w.heap.size, 0, none⟩) 1 _ k1 (Kd.C_one_string k2)
        simpa [namedB] using this⟩
      cases hq : foldE a1 y.f0 with
      | true =>
        rw [hq] at HP
        have HQ := Aside0.mk hq
        clear hq
        have HSZ := Aside0.mk (And.intro HB.out.size HF0.out.1)
        go_wp2_with fail
        refine HP.out.mono ?_
        rintro e w2 ⟨rfl, hb⟩
        have hx1 : w2.cell? ⟨wr.heap.size, 1, none⟩ = some (.string y.f1) := (hb.cell (p := ⟨wr.heap.size, 1, none⟩) (by simp)).trans ((blk_cell (blk_new wr _) 1).trans rfl)
        have HBX := Aside0.mk hb
        clear hb
        have HO2 := Aside0.mk (Kd.R_below (Kd.R_alloc HO.out _) HBX.out)
        have HB2 : Aside0 (Below (w.heap.size + 2) W0 w2) := ⟨(HB.out.alloc (by have := HSZ.out; omega) _).trans (HBX.out.mono (by have := HSZ.out; simp; omega))⟩
        have hxl : Aside0 (xs.length ≤ k) := ⟨by rw [HX.out, List.length_map]; exact Nat.le_trans (List.length_filter_le _ _) (List.length_take_le _ _)⟩
        go_wp2_with ((with_reducible refine gate_builtin (b := .append) (xs := #[.tmp 21, .tmp 24]) rfl ?_); at_builtin; refine Kd.R_append Kd.string (w0 := W0) (w.heap.size + 2) rfl (.tmp 21) (.tmp 24) 93 9 (.string ⟨#[]⟩) 16 rfl Try.underlying93 info9 rfl (by decide) (by omega) u6 xs y.f1 [.string y.f1] (fun _ => True) (fun _ => False) rfl rfl ?aP (fun _ hk => hk.elim) ?aF ?aO ?aB ?aS ?aL ?_; (case aP => exact rfl); (case aB => exact HB2.out); (case aF => exact (fun _ _ => trivial)); (case aO => exact HO2.out); (case aS => have := HB2.out.size; have := HSZ.out; omega); (case aL => have := hxl.out; omega); intro v1 w3 ho hb hg hat; have HO3 := Aside0.mk ho; have HB3 := Aside0.mk hb; clear ho hb hg hat)
        go_roundg (gk - 1)
        case measure => omega
        case rel =>
          refine ⟨k + 1, xs ++ [y.f1], by omega, by omega, by go_num, ⟨?_⟩, HO3, HB3⟩
          rw [HX.out, List.take_add_one, HK.out]
          simp [HQ.out]
      | false =>
        rw [hq] at HP
        have HQ := Aside0.mk hq
        clear hq
        go_wp2_with fail
        refine HP.out.mono ?_
        rintro e w2 ⟨rfl, hb⟩
        have HBX := Aside0.mk hb
        clear hb
        go_wp2
        go_roundg (gk - 1)
        case measure => omega
        case rel =>
          refine ⟨k + 1, xs, by omega, by omega, by go_num, ⟨?_⟩, ⟨?_⟩, ⟨?_⟩⟩
          · rw [HX.out, List.take_add_one, HK.out]
            simp [HQ.out]
          · exact Kd.R_below (Kd.R_alloc HO.out _) HBX.out
          · exact (HB.out.alloc (by have := HB.out.size; have := HF0.out.1; omega) _).trans (HBX.out.mono (by have := HB.out.size; have := HF0.out.1; simp; omega))
    · go_wp2
      refine bodyPost_ret (v := u6) (by simp [results, Try.results116, go_sem]) rfl ⟨u6, rfl, ?_, HBw.out⟩
      have e : l0.take k = l0 := List.take_of_length_le (by omega)
      rw [← HH.out, ← e, ← HX.out]
      exact Kd.R_lower HO.out (by omega)
end Go.Proofs.Ytjnhghplfdiijaa.Q

namespace Go.Proofs
open Go.Shelf
def Try.lays156_ren : Go.Shelf.Ren := ⟨fun | 156 => 143 | 165 => 177 | 166 => 178 | 169 => 179 | 240 => 192 | 241 => 193 | 276 => 199 | 277 => 200 | n => n, fun | 31 => 93 | 9 => 9 | 3 => 3 | 4 => 4 | 0 => 0 | 20 => 20 | 72 => 180 | 76 => 184 | 70 => 178 | 37 => 149 | 75 => 183 | 127 => 192 | 164 => 201 | 5 => 5 | 80 => 152 | n => n, fun | n => n⟩
theorem Try.lays156 : Go.Proofs.Lays.n156 Try.prog Try.lays156_ren := {
  mixed := by kernel_rfl
  f156 := Try.func143.trans (congrArg some (by kernel_rfl))
  f165 := Try.func177.trans (congrArg some (by kernel_rfl))
  f166 := Try.func178.trans (congrArg some (by kernel_rfl))
  f169 := Try.func179.trans (congrArg some (by kernel_rfl))
  f240 := Try.func192.trans (congrArg some (by kernel_rfl))
  f241 := Try.func193.trans (congrArg some (by kernel_rfl))
  f276 := Try.func199.trans (congrArg some (by kernel_rfl))
  f277 := Try.func200.trans (congrArg some (by kernel_rfl))
  t0 := Try.underlying0
  a0 := Try.isAgg0
  z0 := Try.sizeOf0
  v0 := Try.zeroValue0
  t3 := Try.underlying3
  a3 := Try.isAgg3
  z3 := Try.sizeOf3
  v3 := Try.zeroValue3
  t4 := Try.underlying4
  a4 := Try.isAgg4
  z4 := Try.sizeOf4
  v4 := Try.zeroValue4
  t9 := Try.underlying9
  a9 := Try.isAgg9
  z9 := Try.sizeOf9
  v9 := Try.zeroValue9
  t20 := Try.underlying20
  a20 := Try.isAgg20
  z20 := Try.sizeOf20
  v20 := Try.zeroValue20
  t31 := Try.underlying93
  a31 := Try.isAgg93
  z31 := Try.sizeOf93
  v31 := Try.zeroValue93
  t37 := Try.underlying149
  a37 := Try.isAgg149
  z37 := Try.sizeOf149
  v37 := Try.zeroValue149
  t70 := Try.underlying178
  a70 := Try.isAgg178
  z70 := Try.sizeOf178
  v70 := Try.zeroValue178
  t72 := Try.underlying180
  a72 := Try.isAgg180
  z72 := Try.sizeOf180
  v72 := Try.zeroValue180
  t75 := Try.underlying183
  a75 := Try.isAgg183
  z75 := Try.sizeOf183
  v75 := Try.zeroValue183
  t76 := Try.underlying184
  a76 := Try.isAgg184
  z76 := Try.sizeOf184
  v76 := Try.zeroValue184
  t127 := Try.underlying192
  a127 := Try.isAgg192
  z127 := Try.sizeOf192
  v127 := Try.zeroValue192
  t164 := Try.underlying201
  a164 := Try.isAgg201
  z164 := Try.sizeOf201
  v164 := Try.zeroValue201 }
theorem Try.Builder_Extra_156 : Builder.Extra Try.prog Try.lays156_ren := {
  sizeBuilder := by kernel_rfl
  liesBuilder := by kernel_rfl
  t5 := Try.underlying5
  a5 := Try.isAgg5
  z5 := Try.sizeOf5
  v5 := Try.zeroValue5
  infoByte := by kernel_rfl
  cellsByte := by kernel_rfl
  sizeByte := by kernel_rfl
  neB5 := by decide }
open Go.RowKit in
/-- No element: the empty string; the world is as it was. (Whatever the slice's address and capacity: a nil slice too.) (LAID: no walk: one application.) -/
theorem Try.strings_Join_none (a : Option Addr) (c : Nat) (sep : ByteArray) (w : World) :
    Calls Try.prog 143 #[.slice a 0 c, .string sep] w fun e w' => e = .returned (.string ⟨#[]⟩) ∧ w' = w := Any.strings_Join_none Try.lays156 Try.Builder_Extra_156 a c sep w
open Go.RowKit in
/-- strings.Join: "Join concatenates the elements of its first argument to create a single string. The separator string sep is placed between elements in the resulting string.": HOWEVER MANY ELEMENTS. Below the heap's end the world is as it was. (LAID: no walk: one application.) -/
theorem Try.strings_Join (bk o c : Nat) (xs : List ByteArray) (sep : ByteArray) (w : World) (hcells : ∀ (j : Nat) x, xs[j]? = some x → w.cell? ⟨bk, o + j, none⟩ = some (.string x)) (hbk : bk < w.heap.size) (hN : xs.length ≤ 140737488355328) (hcap : xs.length ≤ c) (hlen : (Lib.join (xs.map (·.data.toList)) sep.data.toList).length ≤ 140737488355328) :
    Calls Try.prog 143 #[.slice (some ⟨bk, o, none⟩) xs.length c, .string sep] w fun e w' => e = .returned (.string ⟨(Lib.join (xs.map (·.data.toList)) sep.data.toList).toArray⟩) ∧ Below w.heap.size w w' := Any.strings_Join Try.lays156 Try.Builder_Extra_156 bk o c xs sep w hcells hbk hN hcap hlen
end Go.Proofs

namespace Go.Proofs.Ytjnhghplfdiijaa.Q
open Go.RowKit Go.Proofs.YtjnhghplfdiijaaW.PrintWords Go.Proofs.YtjnhghplfdiijaaW.PrintLast Go.Proofs.YtjnhghplfdiijaaW.PrintMore Go.Lib Go.Shelf
set_option linter.unusedVariables false
set_option linter.unusedSimpArgs false
/-- Texts with comma and blank between, as octets. -/
def joinL (l : List ByteArray) : List UInt8 := Lib.join (l.map (·.data.toList)) [44, 32]
def joinS (l : List ByteArray) : ByteArray := ⟨(joinL l).toArray⟩
def lists_Join.f (l : List ByteArray) : Option ByteArray := if l.length ≤ 140737488355328 ∧ (joinL l).length ≤ 140737488355328 then some (joinS l) else none
theorem C_strings {w : World} {A : Option Addr} {l : List ByteArray} (h : Kd.C Kd.string w A l.length l) (h0 : 0 < l.length) : ∃ bk o, A = some ⟨bk, o, none⟩ ∧ bk < w.heap.size ∧ ∀ (j : Nat) x, l[j]? = some x → w.cell? ⟨bk, o + j, none⟩ = some (.string x) := by
  obtain ⟨ad, e, hc⟩ := Kd.at_string h 0 (by omega) (by omega)
  have hs : ad.spot = none := by
    have h1 : ad.add (0 : Int).toNat = ad := by simp [Addr.add]
    rw [h1] at hc
    unfold World.cell? at hc
    split at hc
    · split at hc
      · cases hc
      · rename_i hsp
        cases hsp2 : ad.spot with
        | none => rfl
        | some x => rw [hsp2] at hsp; simp at hsp
    · cases hc
  obtain ⟨bk, o, sp⟩ := ad
  simp only at hs
  subst hs
  have hadd : ∀ j, (⟨bk, o, none⟩ : Addr).add j = ⟨bk, o + j, none⟩ := fun j => by unfold Addr.add; split <;> simp_all
  refine ⟨bk, o, e, ?_, fun j x hj => ?_⟩
  · have := World.block_lt_of_cell? w _ hc
    rw [hadd] at this
    exact this
  · have hlt := (List.getElem?_eq_some_iff.1 hj).1
    obtain ⟨ad2, e2, hc2⟩ := Kd.at_string h (j : Int) (by omega) (by omega)
    rw [e] at e2
    injection e2 with e2
    subst e2
    rw [hadd] at hc2
    have hx : rdOf ByteArray.empty l (j : Int) = x := by
      have := (List.getElem?_eq_some_iff.1 hj).2
      simp [rdOf, hlt, this]
    rw [hx] at hc2
    exact hc2
theorem lists_Join.calls (A0 : Option Addr) (c0 : Nat) (l0 : List ByteArray) (r : ByteArray) (w : World) (hr0 : Kd.C Kd.string w A0 l0.length l0) (hc0 : l0.length ≤ c0) (h : lists_Join.f l0 = some r) :
    Calls Try.prog 90 #[.slice A0 l0.length c0] w fun e w' => e = .returned (.string r) ∧ Below w.heap.size w w' := by
  unfold lists_Join.f at h
  split at h
  · rename_i hs
    have e := Option.some.inj h
    subst e
    clear h
    by_cases h0 : 0 < l0.length
    · obtain ⟨bk, o, e, hbk, hcells⟩ := C_strings hr0 h0
      subst e
      have HJ := Aside0.mk (Try.strings_Join bk o c0 l0 ⟨#[44, 32]⟩ w hcells hbk hs.1 hc0 hs.2)
      clear hr0 hcells hs
      go_enter Try.func90, Try.ntmps90
      go_wp2_with fail
      refine HJ.out.mono ?_
      rintro e w2 ⟨rfl, hb⟩
      have HBX := Aside0.mk hb
      clear hb
      go_wp2
      go_ret
      exact ⟨rfl, HBX.out⟩
    · obtain rfl : l0 = [] := List.eq_nil_of_length_eq_zero (by omega)
      have HJ := Aside0.mk (Try.strings_Join_none A0 c0 ⟨#[44, 32]⟩ w)
      clear hr0 hs
      go_enter Try.func90, Try.ntmps90
      go_wp2_with fail
      refine HJ.out.mono ?_
      rintro e w2 ⟨rfl, e2⟩
      subst e2
      go_wp2
      go_ret
      exact ⟨rfl, Below.refl _ _⟩
  · cases h
end Go.Proofs.Ytjnhghplfdiijaa.Q

namespace Go.Proofs.Ytjnhghplfdiijaa.Q
open Go.RowKit Go.Proofs.YtjnhghplfdiijaaW.PrintWords Go.Proofs.YtjnhghplfdiijaaW.PrintLast Go.Proofs.YtjnhghplfdiijaaW.PrintMore
attribute [local go_sem] max2_int min2_int max_two min_two max_three min_three max_four min_four
set_option linter.unusedVariables false
set_option linter.unusedSimpArgs false
def header_Combined.f (l0 : List (S60)) (a1 : ByteArray) : Option (ByteArray × Bool) := (header_All.f l0 a1).bind fun t101 => ((lists_Join.f t101).bind fun t104 => (some (t104, decide ((t101.length : Int) > 0))))
set_option maxHeartbeats 8000000 in
set_option maxRecDepth 100000 in
theorem header_Combined.calls (A0 : Option Addr) (c0 : Nat) (l0 : List (S60)) (a1 : ByteArray) (r1 : ByteArray) (r2 : Bool) (w : World) (hr0 : Kd.C k60 w A0 l0.length l0) (hc0 : l0.length ≤ c0) (h : header_Combined.f l0 a1 = some (r1, r2)) :
    Calls Try.prog 72 #[.slice A0 l0.length c0, .string a1] w fun e w' => e = .returned (.tuple #[.string r1, .bool r2]) ∧ Below w.heap.size w w' := by
  have HR0 := Aside0.mk hr0
  have HC0 := Aside0.mk hc0
  clear hr0 hc0
  have HB := Aside0.mk (Below.refl w.heap.size w)
  have H : ((header_All.f l0 a1).bind fun t101 => ((lists_Join.f t101).bind fun t104 => (some (t104, decide ((t101.length : Int) > 0))))) = some (r1, r2) := h
  clear h
  replace H := Option.bind_eq_some_iff.mp H
  obtain ⟨t101, A30, H⟩ := H
  (try dsimp only at H)
  have A3 := Aside0.mk A30
  clear A30
  replace H := Option.bind_eq_some_iff.mp H
  obtain ⟨t104, A40, H⟩ := H
  (try dsimp only at H)
  have A4 := Aside0.mk A40
  clear A40
  simp only [Option.some.injEq, Prod.mk.injEq] at H
  obtain ⟨rfl, rfl⟩ := H
  go_enter Try.func72, Try.ntmps72
  go_wp2_with (first | ((with_reducible refine gate_callee (f := 116) rfl ?_); refine goesL_ (some 9) rfl rfl Try.func116 (by kernel_rfl) rfl #[.slice A0 l0.length c0, .string a1] rfl (by (try simp only [List.map_toArray, List.map_cons, List.map_nil]); first | done | rfl | (simp only [List.length_drop, List.length_take]; rfl)) ?_; (with_reducible refine (header_All.calls _ _ l0 a1 t101 _ ?side1 ?side2 A3.out).mono ?_); (case side1 => repeat (first | exact HR0.out | (with_reducible refine Kd.C_alloc ?_ _) | (with_reducible refine Kd.C_drewN ?_ _) | (with_reducible refine Kd.C_drew ?_))); (case side2 => exact HC0.out); rintro e w5 ⟨v102, rfl, ho0, hb⟩; refine ⟨_, rfl, ?_⟩; have n0_ := Aside0.mk (Kd.R_lower ho0 (below_size (by repeat (first | (with_reducible first | exact HB.out | apply below_alloc | apply pw_below_drewN | apply below_drew1) | exact HB.out)))); have n1_ := Aside0.mk (below_step (by repeat (first | (with_reducible first | exact HB.out | apply below_alloc | apply pw_below_drewN | apply below_drew1) | exact HB.out)) hb); clear HB; have HO103 := n0_; have HB := n1_; clear n0_ n1_; (try clear hb); (try clear hb2); (try clear hk); (try clear hi); (try clear ho0); obtain ⟨Ao6, co6, eo6⟩ := Kd.R_slice HO103.out; subst eo6) | ((with_reducible refine gate_callee (f := 90) rfl ?_); refine goesL_ (some 11) rfl rfl Try.func90 (by kernel_rfl) rfl #[.slice Ao6 t101.length co6] rfl (by (try simp only [List.map_toArray, List.map_cons, List.map_nil]); first | done | rfl | (simp only [List.length_drop, List.length_take]; rfl)) ?_; (with_reducible refine (lists_Join.calls _ _ t101 t104 _ ?side1 ?side2 A4.out).mono ?_); (case side1 => repeat (first | exact (Kd.R_reads' HO103.out).2.2 | (with_reducible refine Kd.C_alloc ?_ _) | (with_reducible refine Kd.C_drewN ?_ _) | (with_reducible refine Kd.C_drew ?_))); (case side2 => exact (Kd.R_reads' HO103.out).2.1); rintro e w7 ⟨rfl, hb⟩; refine ⟨_, rfl, ?_⟩; have n0_ := Aside0.mk (Kd.R_below (by (with_reducible repeat (first | apply Kd.R_alloc | apply Kd.R_drewN | apply Kd.R_drew)); exact HO103.out) hb); have n1_ := Aside0.mk (below_step (by repeat (first | (with_reducible first | exact HB.out | apply below_alloc | apply pw_below_drewN | apply below_drew1) | exact HB.out)) hb); clear HO103; clear HB; have HO103 := n0_; have HB := n1_; clear n0_ n1_; (try clear hb); (try clear hb2); (try clear hk); (try clear hi)))
  go_ret2
  exact ⟨by first | rfl | (simp [errW_none, errW_some] <;> rfl) | (simp [*, errW_none, errW_some] <;> rfl), by repeat (first | (with_reducible first | exact HB.out | apply below_alloc | apply pw_below_drewN | apply below_drew1) | exact HB.out)⟩
end Go.Proofs.Ytjnhghplfdiijaa.Q

namespace Go.Proofs.Ytjnhghplfdiijaa.Q
open Go.RowKit Go.Proofs.YtjnhghplfdiijaaW.PrintWords Go.Proofs.YtjnhghplfdiijaaW.PrintLast Go.Proofs.YtjnhghplfdiijaaW.PrintMore
attribute [local go_sem] max2_int min2_int max_two min_two max_three min_three max_four min_four
set_option linter.unusedVariables false
set_option linter.unusedSimpArgs false
def abutmentref07_Join.l0 : Nat → List ByteArray → ByteArray → Int → Option (ByteArray)
  | 0, _, _, _ => none
  | k + 1, x0, x3, x4 => if x4 < (x0.length : Int) then (if x4 > 0 then (if x3.size + 2 ≤ 9223372036854775807 then (if 0 ≤ x4 then (if (x3 ++ (⟨#[44, 32]⟩ : ByteArray)).size + (rdOf ByteArray.empty x0 x4).size ≤ 9223372036854775807 then (abutmentref07_Join.l0 k x0 ((x3 ++ (⟨#[44, 32]⟩ : ByteArray)) ++ (rdOf ByteArray.empty x0 x4)) (wrap64 (x4 + 1))) else (none)) else (none)) else (none)) else (if 0 ≤ x4 then (if x3.size + (rdOf ByteArray.empty x0 x4).size ≤ 9223372036854775807 then (abutmentref07_Join.l0 k x0 (x3 ++ (rdOf ByteArray.empty x0 x4)) (wrap64 (x4 + 1))) else (none)) else (none))) else (some x3)
def abutmentref07_Join.f (k : Nat) (l0 : List ByteArray) : Option (ByteArray) := abutmentref07_Join.l0 k l0 (⟨#[]⟩ : ByteArray) 0
end Go.Proofs.Ytjnhghplfdiijaa.Q

namespace Go.Proofs.Ytjnhghplfdiijaa.Q
open Go.RowKit Go.Proofs.YtjnhghplfdiijaaW.PrintWords Go.Proofs.YtjnhghplfdiijaaW.PrintLast Go.Proofs.YtjnhghplfdiijaaW.PrintMore
set_option linter.unusedVariables false
set_option linter.unusedSimpArgs false
theorem toL_nil (a : ByteArray) : a.toList = [] ↔ a.size = 0 := by
  rw [ByteArray.toList_eq, ← data_length]
  exact List.length_eq_zero_iff.symm
theorem joinL_snoc (xs : List ByteArray) (x : ByteArray) (h : xs ≠ []) : joinL (xs ++ [x]) = joinL xs ++ ([44, 32] ++ tl x) := by
  unfold joinL tl
  rw [List.map_append, List.map_singleton]
  generalize hm : xs.map (fun b => b.data.toList) = ys
  have hy : ys ≠ [] := by rw [← hm]; simpa using h
  clear hm h
  generalize x.data.toList = z
  unfold Lib.join
  induction ys with
  | nil => exact absurd rfl hy
  | cons a ys ih =>
    cases ys with
    | nil => simp [List.intercalate]
    | cons b ys =>
      have := ih (by simp)
      simp only [List.intercalate, List.cons_append, List.intersperse_cons_cons, List.flatten_cons, List.append_assoc] at this ⊢
      rw [this]
theorem snoc_ind {α : Type} {P : List α → Prop} (h0 : P []) (h1 : ∀ l x, P l → P (l ++ [x])) (l : List α) : P l := by
  rw [← List.reverse_reverse l]
  induction l.reverse with
  | nil => exact h0
  | cons x r ih => rw [List.reverse_cons]; exact h1 _ _ ih
theorem joinL_len (M : Nat) : ∀ l : List ByteArray, (∀ x ∈ l, x.size ≤ M) → (joinL l).length ≤ l.length * (M + 2) := by
  intro l
  refine snoc_ind (P := fun l => (∀ x ∈ l, x.size ≤ M) → (joinL l).length ≤ l.length * (M + 2)) ?_ ?_ l
  · intro _; simp [joinL, Lib.join, List.intercalate]
  · intro l x ih h
    have h1 := ih (fun y hy => h y (by simp [hy]))
    have h2 := h x (by simp)
    by_cases e : l = []
    · subst e
      simp only [List.nil_append, List.length_singleton, Nat.one_mul]
      have : joinL [x] = tl x := by simp [joinL, Lib.join, List.intercalate, tl]
      rw [this, tl_length]; omega
    · rw [joinL_snoc l x e]
      simp only [List.length_append, List.length_cons, List.length_nil, tl_length]
      rw [Nat.add_mul, Nat.one_mul]
      omega
theorem join_loop (l : List ByteArray) (hl : l.length ≤ 1000000) (M : Nat) (hM : M ≤ 1000000) (hx : ∀ x ∈ l, x.size ≤ M) : ∀ (r : List ByteArray) (j : Nat), l.drop j = r → j ≤ l.length → Ev (fun k => abutmentref07_Join.l0 k l (ofl (joinL (l.take j))) (j : Int)) (ofl (joinL l))
  | [], j, h, hj => by
    have h1 : l.length ≤ j := by
      rcases Nat.lt_or_ge j l.length with h1 | h1
      · rw [List.drop_eq_getElem_cons h1] at h; cases h
      · exact h1
    rw [List.take_of_length_le h1]
    exact Ev.step (f := fun _ => some _) (fun k => by simp only [abutmentref07_Join.l0]; rw [if_neg (by omega)]) (Ev.now _)
  | x :: r, j, h, hj => by
    have h1 : j < l.length := by
      rcases Nat.lt_or_ge j l.length with h1 | h1
      · exact h1
      · rw [List.drop_eq_nil_of_le h1] at h; cases h
    have e := List.drop_eq_getElem_cons h1
    rw [h] at e
    injection e with e1 e2
    have hr : rdOf ByteArray.empty l (j : Int) = x := by simp [rdOf, h1, e1]
    have hxs : x.size ≤ M := hx x (by rw [e1]; exact List.getElem_mem h1)
    have hw : Aside0 (wrap64 ((j : Int) + 1) = ((j + 1 : Nat) : Int)) := ⟨by rw [wrap_small (by omega) (by omega)]; omega⟩
    have ht : l.take (j + 1) = l.take j ++ [x] := by rw [List.take_add_one, List.getElem?_eq_getElem h1, e1]; rfl
    have hlen : (ofl (joinL (l.take j))).size ≤ 1000000 * 1000002 := by
      rw [ofl_size]
      have h2 := joinL_len M (l.take j) (fun y hy => hx y (List.mem_of_mem_take hy))
      have h3 : (l.take j).length ≤ 1000000 := by rw [List.length_take]; omega
      exact Nat.le_trans h2 (Nat.mul_le_mul h3 (by omega))
    have ih := join_loop l hl M hM hx r (j + 1) e2.symm h1
    rw [ht] at ih
    by_cases h0 : 0 < j
    · have hne : l.take j ≠ [] := by
        intro hh
        have := congrArg List.length hh
        rw [List.length_take, List.length_nil] at this
        omega
      have es : ofl (joinL (l.take j ++ [x])) = (ofl (joinL (l.take j)) ++ (⟨#[44, 32]⟩ : ByteArray)) ++ x := by
        apply tl_inj
        rw [joinL_snoc _ _ hne, tl_ofl, tl_append, tl_append, tl_ofl, List.append_assoc]
        rfl
      rw [es] at ih
      have hs2 : (ofl (joinL (l.take j)) ++ (⟨#[44, 32]⟩ : ByteArray)).size = (ofl (joinL (l.take j))).size + 2 := ByteArray.size_append
      refine Ev.step (fun k => ?_) ih
      simp only [abutmentref07_Join.l0]
      rw [if_pos (by omega), if_pos (by omega), if_pos (by omega), if_pos (by omega), hr, hs2, if_pos (by omega), hw.out]
    · obtain rfl : j = 0 := by omega
      have es : ofl (joinL (l.take 0 ++ [x])) = ofl (joinL (l.take 0)) ++ x := by
        apply tl_inj
        rw [tl_ofl, tl_append, tl_ofl, List.take_zero]
        simp [joinL, Lib.join, List.intercalate, tl]
      rw [es] at ih
      refine Ev.step (fun k => ?_) ih
      simp only [abutmentref07_Join.l0]
      rw [if_pos (by omega), if_neg (by omega), if_pos (by omega), hr, if_pos (by omega), hw.out]
theorem ev_join (l : List ByteArray) (hl : l.length ≤ 1000000) (M : Nat) (hM : M ≤ 1000000) (hx : ∀ x ∈ l, x.size ≤ M) : Ev (fun k => abutmentref07_Join.f k l) (joinS l) := join_loop l hl M hM hx l 0 rfl (Nat.zero_le _)
theorem join_plain (l : List ByteArray) (hl : l.length ≤ 1000000) (M : Nat) (hM : M ≤ 1000000) (hx : ∀ x ∈ l, x.size ≤ M) : lists_Join.f l = some (joinS l) := by
  unfold lists_Join.f
  have h2 := joinL_len M l hx
  have h3 : l.length * (M + 2) ≤ 1000000 * 1000002 := Nat.mul_le_mul hl (by omega)
  rw [if_pos ⟨by omega, by omega⟩]
end Go.Proofs.Ytjnhghplfdiijaa.Q

namespace Go.Proofs.Ytjnhghplfdiijaa.Q
open Go.RowKit Go.Proofs.YtjnhghplfdiijaaW.PrintWords Go.Proofs.YtjnhghplfdiijaaW.PrintLast Go.Proofs.YtjnhghplfdiijaaW.PrintMore
attribute [local go_sem] max2_int min2_int max_two min_two max_three min_three max_four min_four
set_option linter.unusedVariables false
set_option linter.unusedSimpArgs false
def cursor_New.f (a0 : ByteArray) : Option (ByteArray × Int) := some (a0, 0)
set_option maxHeartbeats 8000000 in
set_option maxRecDepth 100000 in
theorem cursor_New.calls (a0 : ByteArray) (r1 : ByteArray) (r2 : Int) (w0 w : World) (hB : Below w0.heap.size w0 w) (h : cursor_New.f a0 = some (r1, r2)) :
    Calls Try.prog 133 #[.string a0] w fun e w' => ∃ g_ : Nat, e = .returned (.pointer (some ⟨g_, 0, none⟩)) ∧ IsS176 w0 w' g_ r1 r2 ∧ Below w0.heap.size w0 w' ∧ Below w.heap.size w w' := by
  have hu176 := Try.underlying176
  have HBW := Aside0.mk (Below.refl w.heap.size w)
  have HW0 := Aside0.mk hB.size
  have HB := Aside0.mk hB
  clear hB
  have H : (some (a0, 0)) = some (r1, r2) := h
  clear h
  simp only [Option.some.injEq, Prod.mk.injEq] at H
  obtain ⟨rfl, rfl⟩ := H
  go_enter Try.func133, Try.ntmps133
  go_wp2_with (first | ((with_reducible refine gate_dst (N := 5) rfl ?_); refine box_event ?hg (N := 5) ?hd (cs := #[.string a0, .int .i64 0]) (t := 176) ?hr ?_; (case hd => rfl); (case hg => rfl); (case hr => first | (go_simp; done) | (go_simp; rfl)); intro gb101 hg w2 hbox hb; have n0_ := Aside0.mk (below_step HBW.out hb); have n1_ := Aside0.mk (below_step (by repeat (first | (with_reducible first | exact HB.out | apply below_alloc | apply pw_below_drewN | apply below_drew1) | exact HB.out)) hb); have n2_ := Aside0.mk (hbox); have n3_ := Aside0.mk ((by rw [hg]; exact (below_size (by repeat (first | (with_reducible first | exact HBW.out | apply below_alloc | apply pw_below_drewN | apply below_drew1) | exact HBW.out))) : w.heap.size ≤ gb101)); have n4_ := Aside0.mk ((Nat.le_trans HW0.out (by rw [hg]; exact (below_size (by repeat (first | (with_reducible first | exact HBW.out | apply below_alloc | apply pw_below_drewN | apply below_drew1) | exact HBW.out))) : w.heap.size ≤ gb101) : w0.heap.size ≤ gb101)); clear HBW; clear HB; have HBW := n0_; have HB := n1_; have BK101 := n2_; have GW101 := n3_; have GE101 := n4_; clear n0_ n1_ n2_ n3_ n4_; clear hb hbox hg))
  go_ret
  exact ⟨_, rfl, (show IsS176 w0 _ gb101 a0 0 from ⟨by (with_reducible repeat (first | refine blk_drewN ?_ _ | refine blk_drew ?_ | refine blk_alloc ?_ _)); exact BK101.out, GE101.out⟩), by repeat (first | (with_reducible first | exact HB.out | apply below_alloc | apply pw_below_drewN | apply below_drew1 | refine below_set ?_ GE101.out) | exact HB.out), by repeat (first | (with_reducible first | exact HBW.out | apply below_alloc | apply pw_below_drewN | apply below_drew1 | refine below_set ?_ GW101.out) | exact HBW.out)⟩
end Go.Proofs.Ytjnhghplfdiijaa.Q

namespace Go.Proofs.Ytjnhghplfdiijaa.Q
open Go.RowKit Go.Proofs.YtjnhghplfdiijaaW.PrintWords Go.Proofs.YtjnhghplfdiijaaW.PrintLast Go.Proofs.YtjnhghplfdiijaaW.PrintMore
attribute [local go_sem] max2_int min2_int max_two min_two max_three min_three max_four min_four
set_option linter.unusedVariables false
set_option linter.unusedSimpArgs false
def cursor_Cursor_Byte.f (s0_0 : ByteArray) (s0_1 : Int) (a1 : Int) : Option (Bool × ByteArray × Int) := (cursor_Cursor_Left.f s0_0 s0_1).bind fun bt101 => (if bt101.1.toList = ([] : List UInt8) then (some (false, bt101.2.1, bt101.2.2)) else (if 0 < (bt101.1.size : Int) then (if (bt bt101.1 0) = a1 then ((cursor_Cursor_take.f bt101.2.1 bt101.2.2 1).bind fun bt104 => (some (true, bt104.2.1, bt104.2.2))) else (some (false, bt101.2.1, bt101.2.2))) else (none)))
set_option maxHeartbeats 8000000 in
set_option maxRecDepth 100000 in
theorem cursor_Cursor_Byte.calls (g : Nat) (s0_0 : ByteArray) (s0_1 : Int) (a1 : Int) (r1 : Bool) (r2 : ByteArray) (r3 : Int) (w0 w : World) (hI : IsS176 w0 w g s0_0 s0_1) (hB : Below w0.heap.size w0 w) (h : cursor_Cursor_Byte.f s0_0 s0_1 a1 = some (r1, r2, r3)) :
    Calls Try.prog 135 #[.pointer (some ⟨g, 0, none⟩), .int .u8 a1] w fun e w' => e = .returned (.bool r1) ∧ IsS176 w0 w' g r2 r3 ∧ Below w0.heap.size w0 w' ∧ KeepBut w w' g none := by
  have HI0 := Aside0.mk hI
  have HK := Aside0.mk (KeepBut.refl w g none)
  have HL := Aside0.mk hB.size
  clear hI
  have HW0 := Aside0.mk hB.size
  have HB := Aside0.mk hB
  clear hB
  have H : ((cursor_Cursor_Left.f s0_0 s0_1).bind fun bt101 => (if bt101.1.toList = ([] : List UInt8) then (some (false, bt101.2.1, bt101.2.2)) else (if 0 < (bt101.1.size : Int) then (if (bt bt101.1 0) = a1 then ((cursor_Cursor_take.f bt101.2.1 bt101.2.2 1).bind fun bt104 => (some (true, bt104.2.1, bt104.2.2))) else (some (false, bt101.2.1, bt101.2.2))) else (none)))) = some (r1, r2, r3) := h
  clear h
  replace H := Option.bind_eq_some_iff.mp H
  obtain ⟨⟨t101, t102, t103⟩, A30, H⟩ := H
  (try dsimp only at H)
  have A3 := Aside0.mk A30
  clear A30
  by_cases c4 : t101.toList = ([] : List UInt8)
  · rw [if_pos c4] at H
    have c4b0 : (t101.toList == ([] : List UInt8)) = true := beq_iff_eq.mpr c4
    have c4b1 : (t101.toList != ([] : List UInt8)) = false := bne_eq_false_iff_eq.mpr c4
    clear c4
    simp only [Option.some.injEq, Prod.mk.injEq] at H
    obtain ⟨rfl, rfl, rfl⟩ := H
    go_enter Try.func135, Try.ntmps135
    go_wp2_with (first | ((with_reducible refine gate_callee (f := 175) rfl ?_); refine goesL_ (some 7) rfl rfl Try.func175 (by kernel_rfl) rfl #[.pointer (some ⟨g, 0, none⟩)] rfl (by (try simp only [List.map_toArray, List.map_cons, List.map_nil]); first | done | rfl | (simp only [List.length_drop, List.length_take]; rfl)) ?_; (with_reducible refine (cursor_Cursor_Left.calls g s0_0 s0_1 t101 t102 t103 w0 _ ?side1 ?side2 A3.out).mono ?_); (case side1 => repeat (first | (with_reducible first | exact HI0.out | apply IsS176.alloc | apply IsS176.drewN | apply IsS176.drew | apply IsS176.set_0 | apply IsS176.set_1) | exact HI0.out)); (case side2 => repeat (first | (with_reducible first | exact HB.out | apply below_alloc | apply pw_below_drewN | apply below_drew1 | refine below_set ?_ (IsS176.ge HI0.out)) | exact HB.out)); rintro e w5 ⟨rfl, hi, hb, hk⟩; refine ⟨_, rfl, ?_⟩; have n0_ := Aside0.mk (KeepBut.trans (by repeat (first | (with_reducible first | exact HK.out | apply KeepBut.set_ | apply keep_drewN | apply keep_drew | apply keep_alloc) | exact HK.out)) hk (.inl rfl)); have n1_ := Aside0.mk (hb); have n2_ := Aside0.mk (hi); clear HK; clear HB; clear HI0; have HK := n0_; have HB := n1_; have HI0 := n2_; clear n0_ n1_ n2_; (try clear hb); (try clear hb2); (try clear hk); (try clear hi)))
    go_ret
    exact ⟨by first | rfl | (simp [errW_none, errW_some] <;> rfl) | (simp [*, errW_none, errW_some] <;> rfl), by repeat (first | (with_reducible first | exact HI0.out | apply IsS176.alloc | apply IsS176.drewN | apply IsS176.drew | apply IsS176.set_0 | apply IsS176.set_1) | exact HI0.out), by repeat (first | (with_reducible first | exact HB.out | apply below_alloc | apply pw_below_drewN | apply below_drew1 | refine below_set ?_ (IsS176.ge HI0.out)) | exact HB.out), by repeat (first | (with_reducible first | exact HK.out | apply KeepBut.set_ | apply keep_drewN | apply keep_drew | apply keep_alloc) | exact HK.out)⟩
  · rw [if_neg c4] at H
    have c4b0 : (t101.toList == ([] : List UInt8)) = false := beq_eq_false_iff_ne.mpr c4
    have c4b1 : (t101.toList != ([] : List UInt8)) = true := bne_iff_ne.mpr c4
    by_cases c6 : 0 < (t101.size : Int)
    · rw [if_pos c6] at H
      have c6b0 : decide (0 < (t101.size : Int)) = true := decide_eq_true c6
      have c6b1 : decide (0 < t101.size) = true := decide_eq_true (by omega)
      clear c6
      by_cases c8 : (bt t101 0) = a1
      · rw [if_pos c8] at H
        have c8b0 : ((bt t101 0) == a1) = true := beq_iff_eq.mpr c8
        have c8b1 : ((bt t101 0) != a1) = false := bne_eq_false_iff_eq.mpr c8
        clear c8
        replace H := Option.bind_eq_some_iff.mp H
        obtain ⟨⟨t104, t105, t106⟩, A90, H⟩ := H
        (try dsimp only at H)
        have A9 := Aside0.mk A90
        clear A90
        simp only [Option.some.injEq, Prod.mk.injEq] at H
        obtain ⟨rfl, rfl, rfl⟩ := H
        go_enter Try.func135, Try.ntmps135
        go_wp2_with (first | ((with_reducible refine gate_callee (f := 175) rfl ?_); refine goesL_ (some 7) rfl rfl Try.func175 (by kernel_rfl) rfl #[.pointer (some ⟨g, 0, none⟩)] rfl (by (try simp only [List.map_toArray, List.map_cons, List.map_nil]); first | done | rfl | (simp only [List.length_drop, List.length_take]; rfl)) ?_; (with_reducible refine (cursor_Cursor_Left.calls g s0_0 s0_1 t101 t102 t103 w0 _ ?side1 ?side2 A3.out).mono ?_); (case side1 => repeat (first | (with_reducible first | exact HI0.out | apply IsS176.alloc | apply IsS176.drewN | apply IsS176.drew | apply IsS176.set_0 | apply IsS176.set_1) | exact HI0.out)); (case side2 => repeat (first | (with_reducible first | exact HB.out | apply below_alloc | apply pw_below_drewN | apply below_drew1 | refine below_set ?_ (IsS176.ge HI0.out)) | exact HB.out)); rintro e w10 ⟨rfl, hi, hb, hk⟩; refine ⟨_, rfl, ?_⟩; have n0_ := Aside0.mk (KeepBut.trans (by repeat (first | (with_reducible first | exact HK.out | apply KeepBut.set_ | apply keep_drewN | apply keep_drew | apply keep_alloc) | exact HK.out)) hk (.inl rfl)); have n1_ := Aside0.mk (hb); have n2_ := Aside0.mk (hi); clear HK; clear HB; clear HI0; have HK := n0_; have HB := n1_; have HI0 := n2_; clear n0_ n1_ n2_; (try clear hb); (try clear hb2); (try clear hk); (try clear hi); have p7 : 0 ≤ (0 : Int) := (by omega); have q7 : 0 < t101.size := (by have : (0 : Int) < (t101.size : Int) := of_decide_eq_true (by first | (with_reducible assumption) | assumption); omega); have hx7 : ∀ h : 0 < t101.size, ((t101[0]'h).toNat : Int) = bt t101 0 := bt_at t101 0; clear p7; have qi7 : (0 < (t101.size : Int)) = True := eq_true (of_decide_eq_true (by first | (with_reducible assumption) | assumption)); replace q7 := eq_true q7) | ((with_reducible refine gate_callee (f := 172) rfl ?_); refine goesL_ (some 17) rfl rfl Try.func172 (by kernel_rfl) rfl #[.pointer (some ⟨g, 0, none⟩), .int .i64 1] rfl (by (try simp only [List.map_toArray, List.map_cons, List.map_nil]); first | done | rfl | (simp only [List.length_drop, List.length_take]; rfl)) ?_; (with_reducible refine (cursor_Cursor_take.calls g t102 t103 1 t104 t105 t106 w0 _ ?side1 ?side2 A9.out).mono ?_); (case side1 => repeat (first | (with_reducible first | exact HI0.out | apply IsS176.alloc | apply IsS176.drewN | apply IsS176.drew | apply IsS176.set_0 | apply IsS176.set_1) | exact HI0.out)); (case side2 => repeat (first | (with_reducible first | exact HB.out | apply below_alloc | apply pw_below_drewN | apply below_drew1 | refine below_set ?_ (IsS176.ge HI0.out)) | exact HB.out)); rintro e w11 ⟨rfl, hi, hb, hk⟩; refine ⟨_, rfl, ?_⟩; have n0_ := Aside0.mk (KeepBut.trans (by repeat (first | (with_reducible first | exact HK.out | apply KeepBut.set_ | apply keep_drewN | apply keep_drew | apply keep_alloc) | exact HK.out)) hk (.inl rfl)); have n1_ := Aside0.mk (hb); have n2_ := Aside0.mk (hi); clear HK; clear HB; clear HI0; have HK := n0_; have HB := n1_; have HI0 := n2_; clear n0_ n1_ n2_; (try clear hb); (try clear hb2); (try clear hk); (try clear hi)))
        go_ret
        exact ⟨by first | rfl | (simp [errW_none, errW_some] <;> rfl) | (simp [*, errW_none, errW_some] <;> rfl), by repeat (first | (with_reducible first | exact HI0.out | apply IsS176.alloc | apply IsS176.drewN | apply IsS176.drew | apply IsS176.set_0 | apply IsS176.set_1) | exact HI0.out), by repeat (first | (with_reducible first | exact HB.out | apply below_alloc | apply pw_below_drewN | apply below_drew1 | refine below_set ?_ (IsS176.ge HI0.out)) | exact HB.out), by repeat (first | (with_reducible first | exact HK.out | apply KeepBut.set_ | apply keep_drewN | apply keep_drew | apply keep_alloc) | exact HK.out)⟩
      · rw [if_neg c8] at H
        have c8b0 : ((bt t101 0) == a1) = false := beq_eq_false_iff_ne.mpr c8
        have c8b1 : ((bt t101 0) != a1) = true := bne_iff_ne.mpr c8
        simp only [Option.some.injEq, Prod.mk.injEq] at H
        obtain ⟨rfl, rfl, rfl⟩ := H
        go_enter Try.func135, Try.ntmps135
        go_wp2_with (first | ((with_reducible refine gate_callee (f := 175) rfl ?_); refine goesL_ (some 7) rfl rfl Try.func175 (by kernel_rfl) rfl #[.pointer (some ⟨g, 0, none⟩)] rfl (by (try simp only [List.map_toArray, List.map_cons, List.map_nil]); first | done | rfl | (simp only [List.length_drop, List.length_take]; rfl)) ?_; (with_reducible refine (cursor_Cursor_Left.calls g s0_0 s0_1 t101 t102 t103 w0 _ ?side1 ?side2 A3.out).mono ?_); (case side1 => repeat (first | (with_reducible first | exact HI0.out | apply IsS176.alloc | apply IsS176.drewN | apply IsS176.drew | apply IsS176.set_0 | apply IsS176.set_1) | exact HI0.out)); (case side2 => repeat (first | (with_reducible first | exact HB.out | apply below_alloc | apply pw_below_drewN | apply below_drew1 | refine below_set ?_ (IsS176.ge HI0.out)) | exact HB.out)); rintro e w12 ⟨rfl, hi, hb, hk⟩; refine ⟨_, rfl, ?_⟩; have n0_ := Aside0.mk (KeepBut.trans (by repeat (first | (with_reducible first | exact HK.out | apply KeepBut.set_ | apply keep_drewN | apply keep_drew | apply keep_alloc) | exact HK.out)) hk (.inl rfl)); have n1_ := Aside0.mk (hb); have n2_ := Aside0.mk (hi); clear HK; clear HB; clear HI0; have HK := n0_; have HB := n1_; have HI0 := n2_; clear n0_ n1_ n2_; (try clear hb); (try clear hb2); (try clear hk); (try clear hi); have p7 : 0 ≤ (0 : Int) := (by omega); have q7 : 0 < t101.size := (by have : (0 : Int) < (t101.size : Int) := of_decide_eq_true (by first | (with_reducible assumption) | assumption); omega); have hx7 : ∀ h : 0 < t101.size, ((t101[0]'h).toNat : Int) = bt t101 0 := bt_at t101 0; clear p7; have qi7 : (0 < (t101.size : Int)) = True := eq_true (of_decide_eq_true (by first | (with_reducible assumption) | assumption)); replace q7 := eq_true q7))
        go_ret
        exact ⟨by first | rfl | (simp [errW_none, errW_some] <;> rfl) | (simp [*, errW_none, errW_some] <;> rfl), by repeat (first | (with_reducible first | exact HI0.out | apply IsS176.alloc | apply IsS176.drewN | apply IsS176.drew | apply IsS176.set_0 | apply IsS176.set_1) | exact HI0.out), by repeat (first | (with_reducible first | exact HB.out | apply below_alloc | apply pw_below_drewN | apply below_drew1 | refine below_set ?_ (IsS176.ge HI0.out)) | exact HB.out), by repeat (first | (with_reducible first | exact HK.out | apply KeepBut.set_ | apply keep_drewN | apply keep_drew | apply keep_alloc) | exact HK.out)⟩
    · rw [if_neg c6] at H
      exact absurd H (by simp)
end Go.Proofs.Ytjnhghplfdiijaa.Q

namespace Go.Proofs.Ytjnhghplfdiijaa.Q
open Go.RowKit Go.Proofs.YtjnhghplfdiijaaW.PrintWords Go.Proofs.YtjnhghplfdiijaaW.PrintLast Go.Proofs.YtjnhghplfdiijaaW.PrintMore
attribute [local go_sem] max2_int min2_int max_two min_two max_three min_three max_four min_four
set_option linter.unusedVariables false
set_option linter.unusedSimpArgs false
def cursor_Cursor_Done.f (s0_0 : ByteArray) (s0_1 : Int) : Option (Bool × ByteArray × Int) := (cursor_Cursor_Left.f s0_0 s0_1).bind fun bt101 => (some ((bt101.1.toList == ([] : List UInt8)), bt101.2.1, bt101.2.2))
set_option maxHeartbeats 8000000 in
set_option maxRecDepth 100000 in
theorem cursor_Cursor_Done.calls (g : Nat) (s0_0 : ByteArray) (s0_1 : Int) (r1 : Bool) (r2 : ByteArray) (r3 : Int) (w0 w : World) (hI : IsS176 w0 w g s0_0 s0_1) (hB : Below w0.heap.size w0 w) (h : cursor_Cursor_Done.f s0_0 s0_1 = some (r1, r2, r3)) :
    Calls Try.prog 137 #[.pointer (some ⟨g, 0, none⟩)] w fun e w' => e = .returned (.bool r1) ∧ IsS176 w0 w' g r2 r3 ∧ Below w0.heap.size w0 w' ∧ KeepBut w w' g none := by
  have HI0 := Aside0.mk hI
  have HK := Aside0.mk (KeepBut.refl w g none)
  have HL := Aside0.mk hB.size
  clear hI
  have HW0 := Aside0.mk hB.size
  have HB := Aside0.mk hB
  clear hB
  have H : ((cursor_Cursor_Left.f s0_0 s0_1).bind fun bt101 => (some ((bt101.1.toList == ([] : List UInt8)), bt101.2.1, bt101.2.2))) = some (r1, r2, r3) := h
  clear h
  replace H := Option.bind_eq_some_iff.mp H
  obtain ⟨⟨t101, t102, t103⟩, A20, H⟩ := H
  (try dsimp only at H)
  have A2 := Aside0.mk A20
  clear A20
  simp only [Option.some.injEq, Prod.mk.injEq] at H
  obtain ⟨rfl, rfl, rfl⟩ := H
  go_enter Try.func137, Try.ntmps137
  go_wp2_with (first | ((with_reducible refine gate_callee (f := 175) rfl ?_); refine goesL_ (some 4) rfl rfl Try.func175 (by kernel_rfl) rfl #[.pointer (some ⟨g, 0, none⟩)] rfl (by (try simp only [List.map_toArray, List.map_cons, List.map_nil]); first | done | rfl | (simp only [List.length_drop, List.length_take]; rfl)) ?_; (with_reducible refine (cursor_Cursor_Left.calls g s0_0 s0_1 t101 t102 t103 w0 _ ?side1 ?side2 A2.out).mono ?_); (case side1 => repeat (first | (with_reducible first | exact HI0.out | apply IsS176.alloc | apply IsS176.drewN | apply IsS176.drew | apply IsS176.set_0 | apply IsS176.set_1) | exact HI0.out)); (case side2 => repeat (first | (with_reducible first | exact HB.out | apply below_alloc | apply pw_below_drewN | apply below_drew1 | refine below_set ?_ (IsS176.ge HI0.out)) | exact HB.out)); rintro e w3 ⟨rfl, hi, hb, hk⟩; refine ⟨_, rfl, ?_⟩; have n0_ := Aside0.mk (KeepBut.trans (by repeat (first | (with_reducible first | exact HK.out | apply KeepBut.set_ | apply keep_drewN | apply keep_drew | apply keep_alloc) | exact HK.out)) hk (.inl rfl)); have n1_ := Aside0.mk (hb); have n2_ := Aside0.mk (hi); clear HK; clear HB; clear HI0; have HK := n0_; have HB := n1_; have HI0 := n2_; clear n0_ n1_ n2_; (try clear hb); (try clear hb2); (try clear hk); (try clear hi)))
  go_ret
  exact ⟨by first | rfl | (simp [errW_none, errW_some] <;> rfl) | (simp [*, errW_none, errW_some] <;> rfl), by repeat (first | (with_reducible first | exact HI0.out | apply IsS176.alloc | apply IsS176.drewN | apply IsS176.drew | apply IsS176.set_0 | apply IsS176.set_1) | exact HI0.out), by repeat (first | (with_reducible first | exact HB.out | apply below_alloc | apply pw_below_drewN | apply below_drew1 | refine below_set ?_ (IsS176.ge HI0.out)) | exact HB.out), by repeat (first | (with_reducible first | exact HK.out | apply KeepBut.set_ | apply keep_drewN | apply keep_drew | apply keep_alloc) | exact HK.out)⟩
end Go.Proofs.Ytjnhghplfdiijaa.Q

namespace Go.Proofs.Ytjnhghplfdiijaa.Q
open Go.RowKit Go.Proofs.YtjnhghplfdiijaaW.PrintWords Go.Proofs.YtjnhghplfdiijaaW.PrintLast Go.Proofs.YtjnhghplfdiijaaW.PrintMore Go.Lib Go.Shelf
set_option linter.unusedVariables false
set_option linter.unusedSimpArgs false
/-- What the closure's variables hold: the cursor, whether it went wrong, and the parameters. -/
def NI (w0 W : World) (ok : Nat → Prop) (Bc Bb Bl g : Nat) (bad : Bool) (v : Value) (l : List S141) (s : ByteArray) (a : Int) : Prop :=
  W.heap[Bc]? = some (.cells #[.pointer (some ⟨g, 0, none⟩)] 150 (0, 0)) ∧ W.heap[Bb]? = some (.cells #[.bool bad] 4 (0, 0)) ∧ W.heap[Bl]? = some (.cells #[v] 98 (0, 0)) ∧
  Kd.R k141 141 W w0.heap.size ok v l ∧ IsS176 w0 W g s a ∧ Below w0.heap.size w0 W ∧ (w0.heap.size ≤ Bc ∧ w0.heap.size ≤ Bb ∧ w0.heap.size ≤ Bl)
section
variable {w0 W W1 : World} {ok : Nat → Prop} {Bc Bb Bl g : Nat} {bad : Bool} {v : Value} {l : List S141} {s s1 : ByteArray} {a a1 : Int}
theorem NI.below (h : NI w0 W ok Bc Bb Bl g bad v l s a) (hb : Below W.heap.size W W1) : NI w0 W1 ok Bc Bb Bl g bad v l s a := by
  obtain ⟨h1, h2, h3, h4, h5, h6, h7⟩ := h
  exact ⟨blk_below h1 hb, blk_below h2 hb, blk_below h3 hb, Kd.R_below h4 hb, h5.below hb, h6.trans (hb.mono h6.size), h7⟩
theorem NI.append (h : NI w0 W ok Bc Bb Bl g bad v l s a) {v1 : Value} {l1 : List S141} (hR : Kd.R k141 141 W1 w0.heap.size ok v1 l1) (hg : W.grownBy W1 v.ownBlock) (hB : Below w0.heap.size w0 W1) : NI w0 (W1.setCell ⟨Bl, 0, none⟩ v1) (fun _ => True) Bc Bb Bl g bad v1 l1 s a := by
  obtain ⟨h1, h2, h3, h4, h5, h6, h7⟩ := h
  have g1 := blk_grown h1 hg (Kd.R_ne h4 h1 (by decide))
  have g2 := blk_grown h2 hg (Kd.R_ne h4 h2 (by decide))
  have g3 := blk_grown h3 hg (Kd.R_ne h4 h3 (by decide))
  have g5 := h5.grown hg (Kd.R_ne h4 h5.1 (by decide))
  exact ⟨blk_far g1 (blk_ne g1 g3 (by decide)) _, blk_far g2 (blk_ne g2 g3 (by decide)) _, (blk_set g3 0 _).trans rfl,
    Kd.R_mono (Kd.R_far (p := ⟨Bl, 0, none⟩) (Kd.R_types hR g3 (by intro q hq; change q ∈ [141] at hq; rw [List.mem_singleton.1 hq]; decide)) (fun k hk => hk.2) _) (fun _ _ => trivial), ⟨blk_far g5.1 (blk_ne g5.1 g3 (by decide)) _, g5.2⟩, hB.setCell h7.2.2 _, h7⟩
end
end Go.Proofs.Ytjnhghplfdiijaa.Q

namespace Go.Proofs.Ytjnhghplfdiijaa.Q
open Go.RowKit Go.Proofs.YtjnhghplfdiijaaW.PrintWords Go.Proofs.YtjnhghplfdiijaaW.PrintLast Go.Proofs.YtjnhghplfdiijaaW.PrintMore Go.Lib Go.Shelf
set_option linter.unusedVariables false
set_option linter.unusedSimpArgs false
def restS (s : ByteArray) (n : Nat) : ByteArray := s.extract n s.size
theorem restS_size (s : ByteArray) (n : Nat) : (restS s n).size = s.size - n := by simp [restS]
end Go.Proofs.Ytjnhghplfdiijaa.Q
