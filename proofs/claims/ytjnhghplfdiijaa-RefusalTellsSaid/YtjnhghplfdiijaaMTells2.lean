/- Tells, part 2: contracts of functions and plain laws, one behind the other (joined by wip/merge.py out of: Q155 Shelf Hpad Hdigits Q159 Q110 Hpads Hnames Hprint Hclock Q103 Hwrite Q53 Hdates Q68 Q69 Hhead Hrefcont Q71 Hrefhead Hstatus Q19 QE60). -/
import Derived.Test.YtjnhghplfdiijaaMTells0
import Derived.Test.YtjnhghplfdiijaaMTells1
import Derived.Shelf.Strings.Builder1
import Derived.Shelf.Strings.Builder2
import Derived.Shelf.Strings.OnBuilder
import Derived.Shelf.Strings.BuilderF
import Derived.Shelf.Strings.BuilderK
import Derived.Shelf.Strings.Builder2Cap
import Derived.Shelf.Strings.Prefix
import Derived.Shelf.Bits.Mul64
import Derived.Shelf.Strings.Repeat
import Derived.Shelf.Strings.BuilderCap
import Derived.Test.YtjnhghplfdiijaaProg
import Derived.BigQuiet
import Derived.Deep.RegionHeld3
import Derived.IntWalk
import Derived.Deep.LoopGhost
import Derived.Lib.OthersKept
import Derived.Deep.DeepCutAuto
namespace Go.Proofs.Ytjnhghplfdiijaa.Q
open Go.RowKit Go.Proofs.YtjnhghplfdiijaaW.PrintWords Go.Proofs.YtjnhghplfdiijaaW.PrintLast Go.Proofs.YtjnhghplfdiijaaW.PrintMore
attribute [local go_sem] max2_int min2_int max_two min_two max_three min_three max_four min_four
set_option linter.unusedVariables false
set_option linter.unusedSimpArgs false
def digits_Text.f (a0 : Int) : Option (ByteArray) := if a0 < 0 then ((digits_figures.f a0 10).bind fun t101 => (if 1 + t101.size ≤ 9223372036854775807 then (some ((⟨#[45]⟩ : ByteArray) ++ t101)) else (none))) else ((digits_figures.f a0 10).bind fun t102 => (some t102))
set_option maxHeartbeats 8000000 in
set_option maxRecDepth 100000 in
theorem digits_Text.calls (a0 : Int) (r : ByteArray) (w : World) (h : digits_Text.f a0 = some r) :
    Calls Try.prog 155 #[.int .i64 a0] w fun e w' => e = .returned (.string r) ∧ Below w.heap.size w w' := by
  have HB := Aside0.mk (Below.refl w.heap.size w)
  have H : (if a0 < 0 then ((digits_figures.f a0 10).bind fun t101 => (if 1 + t101.size ≤ 9223372036854775807 then (some ((⟨#[45]⟩ : ByteArray) ++ t101)) else (none))) else ((digits_figures.f a0 10).bind fun t102 => (some t102))) = some r := h
  clear h
  by_cases c2 : a0 < 0
  · rw [if_pos c2] at H
    have c2b0 : decide (a0 < 0) = true := decide_eq_true c2
    clear c2
    replace H := Option.bind_eq_some_iff.mp H
    obtain ⟨t101, A30, H⟩ := H
    (try dsimp only at H)
    have A3 := Aside0.mk A30
    clear A30
    by_cases c4 : 1 + t101.size ≤ 9223372036854775807
    · rw [if_pos c4] at H
      have c4b0 := eq_true c4
      have c4b1 : decide (1 + t101.size ≤ 9223372036854775807) = true := decide_eq_true c4
      try have c4b2 : (9223372036854775807 < 1 + t101.size) = False := eq_false (Nat.not_lt.2 c4)
      obtain rfl := Option.some.inj H
      go_enter Try.func155, Try.ntmps155
      go_wp2_with (first | ((with_reducible refine gate_callee (f := 184) rfl ?_); refine goesL_ (some 6) rfl rfl Try.func184 (by kernel_rfl) rfl #[.int .i64 a0, .int .i64 10] rfl (by (try simp only [List.map_toArray, List.map_cons, List.map_nil]); first | done | rfl | (simp only [List.length_drop, List.length_take]; rfl)) ?_; (with_reducible refine (digits_figures.calls a0 10 t101 _ A3.out).mono ?_); rintro e w5 ⟨rfl, hb⟩; refine ⟨_, rfl, ?_⟩; have n0_ := Aside0.mk (below_step (by repeat (first | (with_reducible first | exact HB.out | apply below_alloc | apply pw_below_drewN | apply below_drew1) | exact HB.out)) hb); clear HB; have HB := n0_; clear n0_; (try clear hb); (try clear hb2); (try clear hk); (try clear hi)))
      go_ret
      exact ⟨by first | rfl | (simp [errW_none, errW_some] <;> rfl) | (simp [*, errW_none, errW_some] <;> rfl), by repeat (first | (with_reducible first | exact HB.out | apply below_alloc | apply pw_below_drewN | apply below_drew1) | exact HB.out)⟩
    · rw [if_neg c4] at H
      exact absurd H (by simp)
  · rw [if_neg c2] at H
    have c2b0 : decide (a0 < 0) = false := decide_eq_false c2
    clear c2
    replace H := Option.bind_eq_some_iff.mp H
    obtain ⟨t102, A60, H⟩ := H
    (try dsimp only at H)
    have A6 := Aside0.mk A60
    clear A60
    obtain rfl := Option.some.inj H
    go_enter Try.func155, Try.ntmps155
    go_wp2_with (first | ((with_reducible refine gate_callee (f := 184) rfl ?_); refine goesL_ (some 9) rfl rfl Try.func184 (by kernel_rfl) rfl #[.int .i64 a0, .int .i64 10] rfl (by (try simp only [List.map_toArray, List.map_cons, List.map_nil]); first | done | rfl | (simp only [List.length_drop, List.length_take]; rfl)) ?_; (with_reducible refine (digits_figures.calls a0 10 t102 _ A6.out).mono ?_); rintro e w7 ⟨rfl, hb⟩; refine ⟨_, rfl, ?_⟩; have n0_ := Aside0.mk (below_step (by repeat (first | (with_reducible first | exact HB.out | apply below_alloc | apply pw_below_drewN | apply below_drew1) | exact HB.out)) hb); clear HB; have HB := n0_; clear n0_; (try clear hb); (try clear hb2); (try clear hk); (try clear hi)))
    go_ret
    exact ⟨by first | rfl | (simp [errW_none, errW_some] <;> rfl) | (simp [*, errW_none, errW_some] <;> rfl), by repeat (first | (with_reducible first | exact HB.out | apply below_alloc | apply pw_below_drewN | apply below_drew1) | exact HB.out)⟩
end Go.Proofs.Ytjnhghplfdiijaa.Q

namespace Go.Proofs
open Go.Shelf
def Try.lays105_ren : Go.Shelf.Ren := ⟨fun | 105 => 156 | 212 => 185 | 99 => 182 | 165 => 177 | 166 => 178 | 170 => 186 | 169 => 179 | 263 => 197 | 264 => 198 | 206 => 194 | 240 => 192 | 241 => 193 | 276 => 199 | 277 => 200 | n => n, fun | 9 => 9 | 3 => 3 | 4 => 4 | 20 => 20 | 0 => 0 | 46 => 187 | 109 => 188 | 5 => 5 | 72 => 180 | 76 => 184 | 51 => 196 | 146 => 197 | 53 => 148 | 148 => 199 | 70 => 178 | 37 => 149 | 75 => 183 | 127 => 192 | 164 => 201 | 80 => 152 | n => n, fun | n => n⟩
theorem Try.lays105 : Go.Proofs.Lays.n105 Try.prog Try.lays105_ren := {
  mixed := by kernel_rfl
  f99 := Try.func182.trans (congrArg some (by kernel_rfl))
  f105 := Try.func156.trans (congrArg some (by kernel_rfl))
  f165 := Try.func177.trans (congrArg some (by kernel_rfl))
  f166 := Try.func178.trans (congrArg some (by kernel_rfl))
  f169 := Try.func179.trans (congrArg some (by kernel_rfl))
  f170 := Try.func186.trans (congrArg some (by kernel_rfl))
  f206 := Try.func194.trans (congrArg some (by kernel_rfl))
  f212 := Try.func185.trans (congrArg some (by kernel_rfl))
  f240 := Try.func192.trans (congrArg some (by kernel_rfl))
  f241 := Try.func193.trans (congrArg some (by kernel_rfl))
  f263 := Try.func197.trans (congrArg some (by kernel_rfl))
  f264 := Try.func198.trans (congrArg some (by kernel_rfl))
  f276 := Try.func199.trans (congrArg some (by kernel_rfl))
  f277 := Try.func200.trans (congrArg some (by kernel_rfl))
  t0 := Try.underlying0
  a0 := Try.isAgg0
  z0 := Try.sizeOf0
  v0 := Try.zeroValue0
  t3 := Try.underlying3
  a3 := Try.isAgg3
  z3 := Try.sizeOf3
  v3 := Try.zeroValue3
  t4 := Try.underlying4
  a4 := Try.isAgg4
  z4 := Try.sizeOf4
  v4 := Try.zeroValue4
  t5 := Try.underlying5
  a5 := Try.isAgg5
  z5 := Try.sizeOf5
  v5 := Try.zeroValue5
  t9 := Try.underlying9
  a9 := Try.isAgg9
  z9 := Try.sizeOf9
  v9 := Try.zeroValue9
  t20 := Try.underlying20
  a20 := Try.isAgg20
  z20 := Try.sizeOf20
  v20 := Try.zeroValue20
  t37 := Try.underlying149
  a37 := Try.isAgg149
  z37 := Try.sizeOf149
  v37 := Try.zeroValue149
  t46 := Try.underlying187
  a46 := Try.isAgg187
  z46 := Try.sizeOf187
  v46 := Try.zeroValue187
  t51 := Try.underlying196
  a51 := Try.isAgg196
  z51 := Try.sizeOf196
  v51 := Try.zeroValue196
  t53 := Try.underlying148
  a53 := Try.isAgg148
  z53 := Try.sizeOf148
  v53 := Try.zeroValue148
  t70 := Try.underlying178
  a70 := Try.isAgg178
  z70 := Try.sizeOf178
  v70 := Try.zeroValue178
  t72 := Try.underlying180
  a72 := Try.isAgg180
  z72 := Try.sizeOf180
  v72 := Try.zeroValue180
  t75 := Try.underlying183
  a75 := Try.isAgg183
  z75 := Try.sizeOf183
  v75 := Try.zeroValue183
  t76 := Try.underlying184
  a76 := Try.isAgg184
  z76 := Try.sizeOf184
  v76 := Try.zeroValue184
  t109 := Try.underlying188
  a109 := Try.isAgg188
  z109 := Try.sizeOf188
  v109 := Try.zeroValue188
  t127 := Try.underlying192
  a127 := Try.isAgg192
  z127 := Try.sizeOf192
  v127 := Try.zeroValue192
  t146 := Try.underlying197
  a146 := Try.isAgg197
  z146 := Try.sizeOf197
  v146 := Try.zeroValue197
  t148 := Try.underlying199
  a148 := Try.isAgg199
  z148 := Try.sizeOf199
  v148 := Try.zeroValue199
  t164 := Try.underlying201
  a164 := Try.isAgg201
  z164 := Try.sizeOf201
  v164 := Try.zeroValue201 }
theorem Try.Builder_Extra_105 : Builder.Extra Try.prog Try.lays105_ren := {
  sizeBuilder := by kernel_rfl
  liesBuilder := by kernel_rfl
  t5 := Try.underlying5
  a5 := Try.isAgg5
  z5 := Try.sizeOf5
  v5 := Try.zeroValue5
  infoByte := by kernel_rfl
  cellsByte := by kernel_rfl
  sizeByte := by kernel_rfl
  neB5 := by decide }
open Go.RowKit Go.Lib in
theorem Try.strings_Repeat_zero (s : ByteArray) (w : World) :
    Calls Try.prog 156 #[.string s, .int .i64 0] w fun e w' => e = .returned (.string ⟨#[]⟩) ∧ w' = w := Any.strings_Repeat_zero Try.lays105 s w
open Go.RowKit Go.Lib in
/-- **strings.Repeat: count ≥ 0, the result within one allocation: count copies of s.** (LAID: no walk: one application.) -/
theorem Try.strings_Repeat (s : ByteArray) (c : Nat) (w : World) (hc : c ≤ 9223372036854775807) (hlen : s.size * c ≤ 140737488355328) :
    Calls Try.prog 156 #[.string s, .int .i64 c] w fun e w' => e = .returned (.string ⟨(Lib.repeatL s.data.toList c).toArray⟩) ∧ Below w.heap.size w w' := Any.strings_Repeat Try.lays105 Try.Builder_Extra_105 s c w hc hlen
end Go.Proofs

namespace Go.Proofs.Ytjnhghplfdiijaa.Q
open Go.RowKit Go.Proofs.YtjnhghplfdiijaaW.PrintWords Go.Proofs.YtjnhghplfdiijaaW.PrintLast Go.Proofs.YtjnhghplfdiijaaW.PrintMore Go.Lib Go.Shelf
set_option linter.unusedVariables false
set_option linter.unusedSimpArgs false
attribute [local go_sem] max2_int min2_int max_two min_two
def zerosB (c : Nat) : ByteArray := ⟨(List.replicate c (48 : UInt8)).toArray⟩
def digits_Pad.f (n wide : Int) : Option ByteArray :=
  (digits_Text.f n).bind fun s => if n < 0 then some s else if (wide = 2 ∨ wide = 4) ∧ s.size ≤ 100 then some (zerosB (wide - (s.size : Int)).toNat ++ s) else none
theorem repeat_zeros (c : Nat) : (⟨(Lib.repeatL (⟨#[48]⟩ : ByteArray).data.toList c).toArray⟩ : ByteArray) = zerosB c := by
  unfold zerosB
  congr 2
  induction c with
  | zero => rfl
  | succ c ih => simp [Lib.repeatL, List.replicate_succ] at ih ⊢; first | exact ih | simpa using ih
theorem zerosB_size (c : Nat) : (zerosB c).size = c := by simp [zerosB, ByteArray.size]
theorem wrap_sub (k z : Int) (h0 : 0 ≤ k) (h1 : k ≤ 4) (h2 : 0 ≤ z) (h3 : z ≤ 100) : wrap64 (k - z) = k - z := by unfold wrap64; omega
set_option maxHeartbeats 1000000 in
theorem pad_pos (n wide : Int) (s : ByteArray) (c : Nat) (w : World) (ht : digits_Text.f n = some s) (hn : 0 ≤ n) (hw : wide = 2 ∨ wide = 4) (hs : s.size ≤ 100) (hc : (wide - (s.size : Int)).toNat = c) :
    Calls Try.prog 105 #[.int .i64 n, .int .i64 wide] w fun e w' => e = .returned (.string (zerosB c ++ s)) ∧ Below w.heap.size w w' := by
  have HT := Aside0.mk ht
  have hd : decide (n < 0) = false := decide_eq_false (by omega)
  have hcs : c ≤ 4 := by omega
  have hq : wrap64 (wide - (s.size : Int)) = wide - (s.size : Int) := wrap_sub wide s.size (by omega) (by omega) (by omega) (by omega)
  have hz : (0 < wide - (s.size : Int) ∧ wide - (s.size : Int) = (c : Int)) ∨ (¬ 0 < wide - (s.size : Int) ∧ c = 0) := by
    by_cases h : 0 < wide - (s.size : Int)
    · left; exact ⟨h, by omega⟩
    · right; exact ⟨h, by omega⟩
  have HC := Aside0.mk hcs
  have hs2 : (zerosB c).size + s.size ≤ 9223372036854775807 := by rw [zerosB_size]; omega
  have HS := Aside0.mk hs2
  clear ht hcs hs hs2 hn hc
  rcases hz with ⟨hz, hz2⟩ | ⟨hz, rfl⟩
  · rcases hw with rfl | rfl
    all_goals
      go_enter Try.func105, Try.ntmps105
      go_wp2_with fail
      refine (digits_Text.calls n s _ HT.out).mono ?_
      rintro e w1 ⟨rfl, hb⟩
      have HB := Aside0.mk hb
      have HQ := Aside0.mk hq
      clear hb hq
      go_wp2_with fail
      refine (Try.strings_Repeat (⟨#[48]⟩ : ByteArray) c _ (by have := HC.out; omega) (by have := HC.out; show 1 * c ≤ _; omega)).mono ?_
      rw [repeat_zeros]
      rintro e w2 ⟨rfl, hb⟩
      have HB2 := Aside0.mk (below_step HB.out hb)
      have hs2 := HS.out
      clear hb
      go_wp2
      exact bodyPost_ret (v := .string (zerosB c ++ s)) (by simp [results, Try.results105, go_sem]) rfl ⟨rfl, HB2.out⟩
  · rcases hw with rfl | rfl
    all_goals
      go_enter Try.func105, Try.ntmps105
      go_wp2_with fail
      refine (digits_Text.calls n s _ HT.out).mono ?_
      rintro e w1 ⟨rfl, hb⟩
      have HB := Aside0.mk hb
      have HQ := Aside0.mk hq
      clear hb hq
      go_wp2_with fail
      case inl h =>
        rw [HQ.out] at h
        omega
      refine (Try.strings_Repeat_zero (⟨#[48]⟩ : ByteArray) _).mono ?_
      rintro e w2 ⟨rfl, rfl⟩
      have hs2 : (⟨#[]⟩ : ByteArray).size + s.size ≤ 9223372036854775807 := HS.out
      go_wp2
      exact bodyPost_ret (v := .string (⟨#[]⟩ ++ s)) (by simp [results, Try.results105, go_sem]) rfl ⟨rfl, HB.out⟩
theorem digits_Pad.calls (n wide : Int) (r : ByteArray) (w : World) (h : digits_Pad.f n wide = some r) :
    Calls Try.prog 105 #[.int .i64 n, .int .i64 wide] w fun e w' => e = .returned (.string r) ∧ Below w.heap.size w w' := by
  unfold digits_Pad.f at h
  obtain ⟨s, ht, h⟩ := Option.bind_eq_some_iff.mp h
  by_cases hn : n < 0
  · rw [if_pos hn] at h
    injection h with h
    subst h
    have HT := Aside0.mk ht
    have hd : decide (n < 0) = true := decide_eq_true hn
    clear ht
    go_enter Try.func105, Try.ntmps105
    go_wp2_with fail
    refine (digits_Text.calls n s _ HT.out).mono ?_
    rintro e w1 ⟨rfl, hb⟩
    have HB := Aside0.mk hb
    clear hb
    go_wp2
    exact bodyPost_ret (v := .string s) (by simp [results, Try.results105, go_sem]) rfl ⟨rfl, HB.out⟩
  · rw [if_neg hn] at h
    split at h
    · rename_i hg
      injection h with h
      subst h
      exact pad_pos n wide s _ w ht (by omega) hg.1 hg.2 rfl
    · exact absurd h (by simp)
end Go.Proofs.Ytjnhghplfdiijaa.Q

namespace Go.Proofs.Ytjnhghplfdiijaa.Q
open Go.RowKit Go.Proofs.YtjnhghplfdiijaaW.PrintWords Go.Proofs.YtjnhghplfdiijaaW.PrintLast Go.Proofs.YtjnhghplfdiijaaW.PrintMore Go.Lib Go.Shelf
set_option linter.unusedVariables false
set_option linter.unusedSimpArgs false
def signsB : ByteArray := ⟨#[48, 49, 50, 51, 52, 53, 54, 55, 56, 57, 97, 98, 99, 100, 101, 102]⟩
theorem signs_cut (d : Int) (h0 : 0 ≤ d) (h1 : d ≤ 9) : signsB.extract d.toNat (d + 1).toNat = ⟨#[digC d]⟩ := by
  obtain rfl | rfl | rfl | rfl | rfl | rfl | rfl | rfl | rfl | rfl : d = 0 ∨ d = 1 ∨ d = 2 ∨ d = 3 ∨ d = 4 ∨ d = 5 ∨ d = 6 ∨ d = 7 ∨ d = 8 ∨ d = 9 := by omega
  all_goals decide
/-- What is told of digits so far, and of what is left. -/
def restL (n : Int) (l : List UInt8) (R : List UInt8) : Prop := ∃ f, figL 10 (f + 2) n l = R ∧ n.natAbs < 10 ^ (f + 1) ∧ (l = [] ∨ n ≠ 0)
theorem restL_step {n : Int} {l R : List UInt8} (h : restL n l R) (h0 : 10 ≤ n) : restL (n.tdiv 10) (digC (n.tmod 10) :: l) R := by
  obtain ⟨f, h1, h2, h3⟩ := h
  have hm : max (n.tmod 10) (-(n.tmod 10)) = n.tmod 10 := by have := Int.tmod_nonneg 10 (by omega : 0 ≤ n); omega
  rcases f with _ | f
  · simp at h2; omega
  · rw [figL, if_pos h3, hm] at h1
    exact ⟨f, h1, pow10 n (f + 1) h2, .inr (by rw [Int.tdiv_eq_ediv_of_nonneg (by omega)]; omega)⟩
theorem restL_end {n : Int} {l R : List UInt8} (h : restL n l R) (h0 : 0 ≤ n) (h1 : n < 10) : R = digC n :: l := by
  obtain ⟨f, h2, _, h3⟩ := h
  have e1 : n.tmod 10 = n := by rw [Int.tmod_eq_emod_of_nonneg h0]; omega
  have e2 : n.tdiv 10 = 0 := by rw [Int.tdiv_eq_ediv_of_nonneg h0]; omega
  have e3 : max n (-n) = n := by omega
  rw [figL, if_pos h3, e1, e2, e3, figL, if_neg (by simp)] at h2
  exact h2.symm
theorem restL_start (n : Int) (h : n.natAbs < 10 ^ 19) : restL n [] (figL 10 20 n []) := ⟨18, rfl, h, .inl rfl⟩
theorem append_digit (c : UInt8) (l : List UInt8) : (⟨#[c]⟩ ++ ⟨l.toArray⟩ : ByteArray) = ⟨(c :: l).toArray⟩ := by apply ByteArray.ext; simp
theorem digits_less {m : Int} {g : Nat} (h : 10 ≤ m) (hg : m.natAbs < 10 ^ g) : g - 1 < g := by
  rcases g with _ | g
  · simp at hg; omega
  · omega
theorem digits_len {m : Int} {g : Nat} {c : UInt8} {l : List UInt8} (h : 10 ≤ m) (hg : m.natAbs < 10 ^ g) (hl : l.length + g ≤ 30) : (c :: l).length + (g - 1) ≤ 30 := by
  rcases g with _ | g
  · simp at hg; omega
  · simp; omega
theorem digits_pow {m : Int} {g : Nat} (h : 10 ≤ m) (hg : m.natAbs < 10 ^ g) : (m.tdiv 10).natAbs < 10 ^ (g - 1) := by
  rcases g with _ | g
  · simp at hg; omega
  · exact pow10 m g hg
theorem u64_small (n : Int) (h0 : 0 ≤ n) (h1 : n ≤ 9223372036854775808) : IntKind.u64.wrap n = n := by rw [IntKind.wrap_u64]; omega
set_option maxRecDepth 100000 in
set_option maxHeartbeats 4000000 in
theorem refdigits_10 (n : Int) (w : World) (h0 : 0 ≤ n) (h1 : n ≤ 9223372036854775808) :
    Calls Try.prog 188 #[.int .u64 n, .int .u64 10] w fun e w' => e = .returned (.string ⟨(figL 10 20 n []).toArray⟩) ∧ Drawn0 w w' := by
  obtain ⟨R, hR⟩ : ∃ R, figL 10 20 n [] = R := ⟨_, rfl⟩
  have HS := restL_start n (by omega)
  rw [hR] at HS ⊢
  clear hR
  go_enter Try.func188, Try.ntmps188
  go_wp2
  go_loopg [0, 6] 30 (fun gg vn vo wr => ∃ (m : Int) (l : List UInt8), vn = .int .u64 m ∧ vo = .string ⟨l.toArray⟩ ∧ 0 ≤ m ∧ m ≤ 9223372036854775808 ∧ l.length + gg ≤ 30 ∧ Aside0 (m.natAbs < 10 ^ gg) ∧ Aside0 (restL m l R) ∧ Aside0 (Drawn0 w wr))
  case atStart => exact ⟨n, [], rfl, rfl, h0, h1, by simp, ⟨by omega⟩, ⟨HS⟩, ⟨Drawn0.refl _⟩⟩
  case round =>
    obtain ⟨m, l, rfl, rfl, hm0, hm1, hl, HG, HS, HB⟩ := hrel
    by_cases hc : 10 ≤ m
    · have hb : decide (10 ≤ m) = true := decide_eq_true hc
      have hd0 : 0 ≤ m.tmod 10 := Int.tmod_nonneg 10 hm0
      have hd1 : m.tmod 10 ≤ 9 := (tmod10 m).2
      have hu := u64_small (m.tmod 10 + 1) (by omega) (by omega)
      have HSC := Aside0.mk (signs_cut (m.tmod 10) hd0 hd1)
      have hsl : ∀ W : World, (Instr.slice 9 (.string ⟨#[48, 49, 50, 51, 52, 53, 54, 55, 56, 57, 97, 98, 99, 100, 101, 102]⟩) (some (.int .u64 (m.tmod 10))) (some (.int .u64 (m.tmod 10 + 1))) none).run Try.prog W = .ok (.string ⟨#[digC (m.tmod 10)]⟩) W := fun W => by
        rw [run_slice_string W 9 _ .u64 .u64 _ _ Try.underlying9 hd0 (by omega) (by show m.tmod 10 + 1 ≤ 16; omega)]
        rw [show (⟨#[48, 49, 50, 51, 52, 53, 54, 55, 56, 57, 97, 98, 99, 100, 101, 102]⟩ : ByteArray).extract (m.tmod 10).toNat (m.tmod 10 + 1).toNat = ⟨#[digC (m.tmod 10)]⟩ from HSC.out]
      have hz : (⟨#[digC (m.tmod 10)]⟩ : ByteArray).size + (⟨l.toArray⟩ : ByteArray).size ≤ 9223372036854775807 := by show 1 + l.toArray.size ≤ _; simp; omega
      have HA := Aside0.mk (append_digit (digC (m.tmod 10)) l)
      obtain ⟨B1, hB1⟩ : ∃ B1, (⟨#[digC (m.tmod 10)]⟩ : ByteArray) = B1 := ⟨_, rfl⟩
      obtain ⟨B2, hB2⟩ : ∃ B2, (⟨l.toArray⟩ : ByteArray) = B2 := ⟨_, rfl⟩
      simp only [hB1] at hsl
      rw [hB1, hB2] at hz HA
      rw [hB2]
      clear hB1 hB2 HSC
      have hz1 : decide (B1.size + B2.size ≤ 9223372036854775807) = true := decide_eq_true hz
      have hz2 : (9223372036854775807 < B1.size + B2.size) = False := eq_false (Nat.not_lt.2 hz)
      have hz0 := eq_true hz
      have HD := Aside0.mk (And.intro hd0 hd1)
      clear hd0 hd1
      go_wp2_with fail
      go_quiet (fail)
      have hw2 : ∀ u : Unit, IntKind.u64.wrap (m.tdiv 10) = m.tdiv 10 := fun _ => u64_small _ (by rw [Int.tdiv_eq_ediv_of_nonneg hm0]; omega) (by rw [Int.tdiv_eq_ediv_of_nonneg hm0]; omega)
      go_wp2_with fail
      go_roundg (gk - 1)
      case measure => exact digits_less hc HG.out
      case rel => exact ⟨m.tdiv 10, digC (m.tmod 10) :: l, by rw [Int.tdiv_eq_ediv_of_nonneg hm0], by rw [HA.out], by rw [Int.tdiv_eq_ediv_of_nonneg hm0]; omega, by rw [Int.tdiv_eq_ediv_of_nonneg hm0]; omega, digits_len hc HG.out hl, ⟨digits_pow hc HG.out⟩, ⟨restL_step HS.out hc⟩, ⟨Drawn0.step HB.out nq⟩⟩
    · have hb : decide (10 ≤ m) = false := decide_eq_false hc
      have HE := Aside0.mk (restL_end HS.out hm0 (by omega))
      have HSC := Aside0.mk (signs_cut m hm0 (by omega))
      have hz : (⟨#[digC m]⟩ : ByteArray).size + (⟨l.toArray⟩ : ByteArray).size ≤ 9223372036854775807 := by show 1 + l.toArray.size ≤ _; simp; omega
      go_wp2_with fail
      rw [run_slice_string wr 9 _ .u64 .u64 m (m + 1) Try.underlying9 (by omega) (by omega) (by show m + 1 ≤ 16; omega)]
      rw [show (⟨#[48, 49, 50, 51, 52, 53, 54, 55, 56, 57, 97, 98, 99, 100, 101, 102]⟩ : ByteArray).extract m.toNat (m + 1).toNat = ⟨#[digC m]⟩ from HSC.out]
      go_wp2
      have he : (⟨#[digC m]⟩ ++ ⟨l.toArray⟩ : ByteArray) = ⟨R.toArray⟩ := by rw [HE.out]; exact append_digit _ _
      rw [he]
      exact bodyPost_ret (v := .string ⟨R.toArray⟩) (by simp [results, Try.results188, go_sem]) rfl ⟨rfl, HB.out⟩
def abutmentref02_Digits.f (n b : Int) : Option ByteArray :=
  if b = 10 ∧ 0 ≤ n ∧ n ≤ 9223372036854775808 then some ⟨(figL 10 20 n []).toArray⟩ else none
theorem abutmentref02_Digits.calls (n b : Int) (r : ByteArray) (w : World) (h : abutmentref02_Digits.f n b = some r) :
    Calls Try.prog 188 #[.int .u64 n, .int .u64 b] w fun e w' => e = .returned (.string r) ∧ Drawn0 w w' := by
  unfold abutmentref02_Digits.f at h
  split at h
  · rename_i hg
    obtain ⟨rfl, h0, h1⟩ := hg
    injection h with h
    subst h
    exact refdigits_10 n w h0 h1
  · exact absurd h (by simp)
end Go.Proofs.Ytjnhghplfdiijaa.Q

namespace Go.Proofs.Ytjnhghplfdiijaa.Q
open Go.RowKit Go.Proofs.YtjnhghplfdiijaaW.PrintWords Go.Proofs.YtjnhghplfdiijaaW.PrintLast Go.Proofs.YtjnhghplfdiijaaW.PrintMore
attribute [local go_sem] max2_int min2_int max_two min_two max_three min_three max_four min_four
set_option linter.unusedVariables false
set_option linter.unusedSimpArgs false
def abutmentref02_Text.f (a0 : Int) : Option (ByteArray) := if a0 < 0 then ((abutmentref02_Digits.f (IntKind.u64.wrap ((IntKind.u64.wrap (wrap64 (-(wrap64 (a0 + 1))))) + 1)) 10).bind fun t101 => (if 1 + t101.size ≤ 9223372036854775807 then (some ((⟨#[45]⟩ : ByteArray) ++ t101)) else (none))) else ((abutmentref02_Digits.f (IntKind.u64.wrap (a0)) 10).bind fun t102 => (some t102))
set_option maxHeartbeats 8000000 in
set_option maxRecDepth 100000 in
theorem abutmentref02_Text.calls (a0 : Int) (r : ByteArray) (w : World) (h : abutmentref02_Text.f a0 = some r) :
    Calls Try.prog 159 #[.int .i64 a0] w fun e w' => e = .returned (.string r) ∧ Drawn0 w w' := by
  have H : (if a0 < 0 then ((abutmentref02_Digits.f (IntKind.u64.wrap ((IntKind.u64.wrap (wrap64 (-(wrap64 (a0 + 1))))) + 1)) 10).bind fun t101 => (if 1 + t101.size ≤ 9223372036854775807 then (some ((⟨#[45]⟩ : ByteArray) ++ t101)) else (none))) else ((abutmentref02_Digits.f (IntKind.u64.wrap (a0)) 10).bind fun t102 => (some t102))) = some r := h
  clear h
  by_cases c2 : a0 < 0
  · rw [if_pos c2] at H
    have c2b0 : decide (a0 < 0) = true := decide_eq_true c2
    clear c2
    replace H := Option.bind_eq_some_iff.mp H
    obtain ⟨t101, A30, H⟩ := H
    (try dsimp only at H)
    have A3 := Aside0.mk A30
    clear A30
    by_cases c4 : 1 + t101.size ≤ 9223372036854775807
    · rw [if_pos c4] at H
      have c4b0 := eq_true c4
      have c4b1 : decide (1 + t101.size ≤ 9223372036854775807) = true := decide_eq_true c4
      try have c4b2 : (9223372036854775807 < 1 + t101.size) = False := eq_false (Nat.not_lt.2 c4)
      obtain rfl := Option.some.inj H
      go_enter Try.func159, Try.ntmps159
      go_wp2_with (first | ((with_reducible refine gate_callee (f := 188) rfl ?_); refine goesL_ (some 10) rfl rfl Try.func188 (by kernel_rfl) rfl #[.int .u64 (IntKind.u64.wrap ((IntKind.u64.wrap (wrap64 (-(wrap64 (a0 + 1))))) + 1)), .int .u64 10] rfl (by (try simp only [List.map_toArray, List.map_cons, List.map_nil]); first | done | rfl | (simp only [List.length_drop, List.length_take]; rfl)) ?_; (with_reducible refine (abutmentref02_Digits.calls (IntKind.u64.wrap ((IntKind.u64.wrap (wrap64 (-(wrap64 (a0 + 1))))) + 1)) 10 t101 _ A3.out).mono ?_); rintro e w' ⟨rfl, ⟨nd, rfl⟩⟩; refine ⟨_, rfl, ?_⟩))
      go_ret
      exact ⟨by first | rfl | (simp; done) | (simp [*]; done), by repeat (first | exact Drawn0.refl _ | apply Drawn0.step)⟩
    · rw [if_neg c4] at H
      exact absurd H (by simp)
  · rw [if_neg c2] at H
    have c2b0 : decide (a0 < 0) = false := decide_eq_false c2
    clear c2
    replace H := Option.bind_eq_some_iff.mp H
    obtain ⟨t102, A50, H⟩ := H
    (try dsimp only at H)
    have A5 := Aside0.mk A50
    clear A50
    obtain rfl := Option.some.inj H
    go_enter Try.func159, Try.ntmps159
    go_wp2_with (first | ((with_reducible refine gate_callee (f := 188) rfl ?_); refine goesL_ (some 14) rfl rfl Try.func188 (by kernel_rfl) rfl #[.int .u64 (IntKind.u64.wrap (a0)), .int .u64 10] rfl (by (try simp only [List.map_toArray, List.map_cons, List.map_nil]); first | done | rfl | (simp only [List.length_drop, List.length_take]; rfl)) ?_; (with_reducible refine (abutmentref02_Digits.calls (IntKind.u64.wrap (a0)) 10 t102 _ A5.out).mono ?_); rintro e w' ⟨rfl, ⟨nd, rfl⟩⟩; refine ⟨_, rfl, ?_⟩))
    go_ret
    exact ⟨by first | rfl | (simp; done) | (simp [*]; done), by repeat (first | exact Drawn0.refl _ | apply Drawn0.step)⟩
end Go.Proofs.Ytjnhghplfdiijaa.Q

namespace Go.Proofs.Ytjnhghplfdiijaa.Q
open Go.RowKit Go.Proofs.YtjnhghplfdiijaaW.PrintWords Go.Proofs.YtjnhghplfdiijaaW.PrintLast Go.Proofs.YtjnhghplfdiijaaW.PrintMore
attribute [local go_sem] max2_int min2_int max_two min_two max_three min_three max_four min_four
set_option linter.unusedVariables false
set_option linter.unusedSimpArgs false
def abutmentref02_Pad.l0 : Nat → Int → Int → ByteArray → Option (ByteArray)
  | 0, _, _, _ => none
  | k + 1, x0, x1, x5 => if x0 ≥ 0 then (if (x5.size : Int) < x1 then (if (x5.size : Int) < 20 then (if 1 + x5.size ≤ 9223372036854775807 then (abutmentref02_Pad.l0 k x0 x1 ((⟨#[48]⟩ : ByteArray) ++ x5)) else (none)) else (some x5)) else (some x5)) else (some x5)
def abutmentref02_Pad.f (k : Nat) (a0 : Int) (a1 : Int) : Option (ByteArray) := (abutmentref02_Text.f a0).bind fun t101 => (abutmentref02_Pad.l0 k a0 a1 t101)
set_option maxHeartbeats 8000000 in
set_option maxRecDepth 100000 in
theorem abutmentref02_Pad.calls (k : Nat) (a0 : Int) (a1 : Int) (r : ByteArray) (w : World) (h : abutmentref02_Pad.f k a0 a1 = some r) :
    Calls Try.prog 110 #[.int .i64 a0, .int .i64 a1] w fun e w' => e = .returned (.string r) ∧ Drawn0 w w' := by
  have H : ((abutmentref02_Text.f a0).bind fun t101 => (abutmentref02_Pad.l0 k a0 a1 t101)) = some r := h
  clear h
  replace H := Option.bind_eq_some_iff.mp H
  obtain ⟨t101, A30, H⟩ := H
  (try dsimp only at H)
  have A3 := Aside0.mk A30
  clear A30
  have H' := Aside0.mk H
  clear H
  go_enter Try.func110, Try.ntmps110
  go_wp2_with (first | ((with_reducible refine gate_callee (f := 159) rfl ?_); refine goesL_ (some 7) rfl rfl Try.func159 (by kernel_rfl) rfl #[.int .i64 a0] rfl (by (try simp only [List.map_toArray, List.map_cons, List.map_nil]); first | done | rfl | (simp only [List.length_drop, List.length_take]; rfl)) ?_; (with_reducible refine (abutmentref02_Text.calls a0 t101 _ A3.out).mono ?_); rintro e w' ⟨rfl, ⟨nd, rfl⟩⟩; refine ⟨_, rfl, ?_⟩))
  go_loopg [5] k (fun kq v5 w' => ∃ (x5_1 : ByteArray), v5 = .string x5_1 ∧ Aside0 (abutmentref02_Pad.l0 kq a0 a1 x5_1 = some r) ∧ Aside0 (kq ≤ k) ∧ Drawn0 w w')
  case atStart => exact ⟨(t101), (by first | rfl | (simp; done) | (simp [*]; done)), H', ⟨Nat.le_refl _⟩, by repeat (first | exact Drawn0.refl _ | apply Drawn0.step)⟩
  case round =>
    clear H'
    try clear c1
    try clear p2
    obtain ⟨x5_1, rfl, HA, HK1, ⟨m1, rfl⟩⟩ := hrel
    cases gk with
    | zero => exact absurd HA.out (by simp [abutmentref02_Pad.l0])
    | succ k1 =>
      have H := HA.out
      clear HA
      simp only [abutmentref02_Pad.l0] at H
      by_cases c4 : a0 ≥ 0
      · rw [if_pos c4] at H
        have c4b0 : decide (0 ≤ a0) = true := decide_eq_true c4
        clear c4
        by_cases c5 : (x5_1.size : Int) < a1
        · rw [if_pos c5] at H
          have c5b0 : decide ((x5_1.size : Int) < a1) = true := decide_eq_true c5
          clear c5
          by_cases c6 : (x5_1.size : Int) < 20
          · rw [if_pos c6] at H
            have c6b0 : decide ((x5_1.size : Int) < 20) = true := decide_eq_true c6
            have c6b1 : decide (x5_1.size < 20) = true := decide_eq_true (by omega)
            clear c6
            by_cases c7 : 1 + x5_1.size ≤ 9223372036854775807
            · rw [if_pos c7] at H
              have c7b0 := eq_true c7
              have c7b1 : decide (1 + x5_1.size ≤ 9223372036854775807) = true := decide_eq_true c7
              try have c7b2 : (9223372036854775807 < 1 + x5_1.size) = False := eq_false (Nat.not_lt.2 c7)
              have H' := Aside0.mk H
              clear H
              go_wp2
              go_roundg k1
              case measure => have := HK1.out; omega
              case rel => exact ⟨((⟨#[48]⟩ : ByteArray) ++ x5_1), (by first | rfl | (simp; done) | (simp [*]; done)), H', ⟨by have := HK1.out; omega⟩, by repeat (first | exact Drawn0.refl _ | apply Drawn0.step)⟩
            · rw [if_neg c7] at H
              exact absurd H (by simp)
          · rw [if_neg c6] at H
            have c6b0 : decide ((x5_1.size : Int) < 20) = false := decide_eq_false c6
            have c6b1 : decide (x5_1.size < 20) = false := decide_eq_false (by omega)
            clear c6
            obtain rfl := Option.some.inj H
            go_wp2
            go_ret
            exact ⟨by first | rfl | (simp; done) | (simp [*]; done), by repeat (first | exact Drawn0.refl _ | apply Drawn0.step)⟩
        · rw [if_neg c5] at H
          have c5b0 : decide ((x5_1.size : Int) < a1) = false := decide_eq_false c5
          clear c5
          obtain rfl := Option.some.inj H
          go_wp2
          go_ret
          exact ⟨by first | rfl | (simp; done) | (simp [*]; done), by repeat (first | exact Drawn0.refl _ | apply Drawn0.step)⟩
      · rw [if_neg c4] at H
        have c4b0 : decide (0 ≤ a0) = false := decide_eq_false c4
        clear c4
        obtain rfl := Option.some.inj H
        go_wp2
        go_ret
        exact ⟨by first | rfl | (simp; done) | (simp [*]; done), by repeat (first | exact Drawn0.refl _ | apply Drawn0.step)⟩
end Go.Proofs.Ytjnhghplfdiijaa.Q

namespace Go.Proofs.Ytjnhghplfdiijaa.Q
open Go.RowKit Go.Proofs.YtjnhghplfdiijaaW.PrintWords Go.Proofs.YtjnhghplfdiijaaW.PrintLast Go.Proofs.YtjnhghplfdiijaaW.PrintMore
set_option linter.unusedVariables false
set_option linter.unusedSimpArgs false
def figS (n : Int) : ByteArray := ⟨(figL 10 20 n []).toArray⟩
theorem figL_len (b : Int) : ∀ (f : Nat) (n : Int) (l : List UInt8), (figL b f n l).length ≤ f + l.length
  | 0, n, l => by simp [figL]
  | f + 1, n, l => by
    unfold figL
    split
    · refine Nat.le_trans (figL_len b f _ _) ?_
      simp only [List.length_cons]
      omega
    · omega
theorem figS_size (n : Int) : (figS n).size ≤ 20 := by
  have := figL_len 10 20 n []
  simpa [figS, ByteArray.size] using this
theorem text_p (n : Int) (h0 : 0 ≤ n) (h1 : n ≤ 9223372036854775807) : digits_Text.f n = some (figS n) := by
  unfold digits_Text.f digits_figures.f
  rw [if_neg (by omega)]
  rw [if_pos ⟨rfl, by omega, by omega⟩]
  rfl
theorem text_r (n : Int) (h0 : 0 ≤ n) (h1 : n ≤ 9223372036854775807) : abutmentref02_Text.f n = some (figS n) := by
  unfold abutmentref02_Text.f abutmentref02_Digits.f
  rw [if_neg (by omega), u64_small n h0 (by omega)]
  rw [if_pos ⟨rfl, by omega, by omega⟩]
  rfl
def padS (n wide : Int) : ByteArray := zerosB (wide - ((figS n).size : Int)).toNat ++ figS n
theorem pad_p (n wide : Int) (h0 : 0 ≤ n) (h1 : n ≤ 9223372036854775807) (hw : wide = 2 ∨ wide = 4) : digits_Pad.f n wide = some (padS n wide) := by
  unfold digits_Pad.f
  rw [text_p n h0 h1]
  have := figS_size n
  simp only [Option.bind_some]
  rw [if_neg (by omega), if_pos ⟨hw, by omega⟩]
  rfl
theorem zeros_succ (c : Nat) (s : ByteArray) : zerosB c ++ ((⟨#[48]⟩ : ByteArray) ++ s) = zerosB (c + 1) ++ s := by
  apply tl_inj
  rw [tl_append, tl_append, tl_append]
  show List.replicate c 48 ++ ([48] ++ tl s) = List.replicate (c + 1) 48 ++ tl s
  rw [List.replicate_succ', List.append_assoc]
theorem rpad_loop (n wide : Int) (h0 : 0 ≤ n) (hw : wide ≤ 10) : ∀ (c : Nat) (s : ByteArray), s.size ≤ 40 → (wide - (s.size : Int)).toNat = c → Ev (fun k => abutmentref02_Pad.l0 k n wide s) (zerosB c ++ s)
  | 0, s, hs, hc => by
    have e : zerosB 0 ++ s = s := by apply tl_inj; rw [tl_append]; rfl
    rw [e]
    refine Ev.step (fun k => ?_) (Ev.now _)
    simp only [abutmentref02_Pad.l0]
    rw [if_pos (by omega), if_neg (by omega)]
  | c + 1, s, hs, hc => by
    have hz : ((⟨#[48]⟩ : ByteArray) ++ s).size = 1 + s.size := by rw [ByteArray.size_append]; rfl
    have ih := rpad_loop n wide h0 hw c ((⟨#[48]⟩ : ByteArray) ++ s) (by omega) (by omega)
    rw [zeros_succ] at ih
    refine Ev.step (fun k => ?_) ih
    simp only [abutmentref02_Pad.l0]
    rw [if_pos (by omega), if_pos (by omega), if_pos (by omega), if_pos (by omega)]
theorem ev_pad (n wide : Int) (h0 : 0 ≤ n) (h1 : n ≤ 9223372036854775807) (hw : wide ≤ 10) : Ev (fun k => abutmentref02_Pad.f k n wide) (padS n wide) := by
  unfold abutmentref02_Pad.f
  rw [text_r n h0 h1]
  simp only [Option.bind_some]
  have := figS_size n
  exact rpad_loop n wide h0 hw _ (figS n) (by omega) rfl
theorem padS_size (n wide : Int) (hw : wide ≤ 10) : (padS n wide).size ≤ 30 := by
  unfold padS
  rw [ByteArray.size_append, zerosB_size]
  have := figS_size n
  omega
end Go.Proofs.Ytjnhghplfdiijaa.Q

namespace Go.Proofs.Ytjnhghplfdiijaa.Q
open Go.RowKit Go.Proofs.YtjnhghplfdiijaaW.PrintWords Go.Proofs.YtjnhghplfdiijaaW.PrintLast Go.Proofs.YtjnhghplfdiijaaW.PrintMore
set_option linter.unusedVariables false
set_option linter.unusedSimpArgs false
def daysA : Array Value := #[.string ⟨#[83, 117, 110, 100, 97, 121]⟩, .string ⟨#[77, 111, 110, 100, 97, 121]⟩, .string ⟨#[84, 117, 101, 115, 100, 97, 121]⟩, .string ⟨#[87, 101, 100, 110, 101, 115, 100, 97, 121]⟩, .string ⟨#[84, 104, 117, 114, 115, 100, 97, 121]⟩, .string ⟨#[70, 114, 105, 100, 97, 121]⟩, .string ⟨#[83, 97, 116, 117, 114, 100, 97, 121]⟩]
def monthsA : Array Value := #[.string ⟨#[74, 97, 110]⟩, .string ⟨#[70, 101, 98]⟩, .string ⟨#[77, 97, 114]⟩, .string ⟨#[65, 112, 114]⟩, .string ⟨#[77, 97, 121]⟩, .string ⟨#[74, 117, 110]⟩, .string ⟨#[74, 117, 108]⟩, .string ⟨#[65, 117, 103]⟩, .string ⟨#[83, 101, 112]⟩, .string ⟨#[79, 99, 116]⟩, .string ⟨#[78, 111, 118]⟩, .string ⟨#[68, 101, 99]⟩]
def fixdateB : ByteArray := ⟨#[119, 44, 32, 100, 32, 109, 32, 121, 32, 116, 32, 122]⟩
def elderB : ByteArray := ⟨#[87, 44, 32, 100, 45, 109, 45, 107, 32, 116, 32, 122]⟩
def plainB : ByteArray := ⟨#[119, 32, 109, 32, 98, 32, 116, 32, 121]⟩
theorem httpdate_days (w : World) : Calls Try.prog 104 #[] w fun e w' => e = .returned (.agg daysA) ∧ Below w.heap.size w w' := by
  go_enter Try.func104, Try.ntmps104
  go_wp2
  exact bodyPost_ret (v := .agg daysA) (by simp [results, Try.results104, go_sem, daysA]) rfl ⟨rfl, (Below.refl _ _).alloc (Nat.le_refl _) _⟩
theorem httpdate_months (w : World) : Calls Try.prog 106 #[] w fun e w' => e = .returned (.agg monthsA) ∧ Below w.heap.size w w' := by
  go_enter Try.func106, Try.ntmps106
  go_wp2
  exact bodyPost_ret (v := .agg monthsA) (by simp [results, Try.results106, go_sem, monthsA]) rfl ⟨rfl, (Below.refl _ _).alloc (Nat.le_refl _) _⟩
theorem httpdate_patterns (w : World) : Calls Try.prog 95 #[] w fun e w' => e = .returned (.agg #[.string fixdateB, .string elderB, .string plainB]) ∧ Below w.heap.size w w' := by
  go_enter Try.func95, Try.ntmps95
  go_wp2
  exact bodyPost_ret (v := .agg #[.string fixdateB, .string elderB, .string plainB]) (by simp [results, Try.results95, go_sem, fixdateB, elderB, plainB]) rfl ⟨rfl, (Below.refl _ _).alloc (Nat.le_refl _) _⟩
theorem run_days (w : World) (cs : Array Value) (k : IntKind) (i : Int) (v : ByteArray) (h0 : 0 ≤ i) (h1 : i < 7) (hv : cs[i.toNat]? = some (.string v)) : (Instr.index 124 (.agg cs) (.int k i)).run Try.prog w = .ok (.string v) w := by
  obtain ⟨i0, hi, _, hz0, _⟩ := info_parts info9
  exact run_index_array w _ _ 7 cs k i _ i0 _ Try.underlying124 hi hz0 Try.underlying9 rfl h0 h1 hv
theorem run_monthnames (w : World) (cs : Array Value) (k : IntKind) (i : Int) (v : ByteArray) (h0 : 0 ≤ i) (h1 : i < 12) (hv : cs[i.toNat]? = some (.string v)) : (Instr.index 127 (.agg cs) (.int k i)).run Try.prog w = .ok (.string v) w := by
  obtain ⟨i0, hi, _, hz0, _⟩ := info_parts info9
  exact run_index_array w _ _ 12 cs k i _ i0 _ Try.underlying127 hi hz0 Try.underlying9 rfl h0 h1 hv
theorem run_patterns (w : World) (cs : Array Value) (k : IntKind) (i : Int) (v : ByteArray) (h0 : 0 ≤ i) (h1 : i < 3) (hv : cs[i.toNat]? = some (.string v)) : (Instr.index 112 (.agg cs) (.int k i)).run Try.prog w = .ok (.string v) w := by
  obtain ⟨i0, hi, _, hz0, _⟩ := info_parts info9
  exact run_index_array w _ _ 3 cs k i _ i0 _ Try.underlying112 hi hz0 Try.underlying9 rfl h0 h1 hv
end Go.Proofs.Ytjnhghplfdiijaa.Q

namespace Go.Proofs.Ytjnhghplfdiijaa.Q
open Go.RowKit Go.Proofs.YtjnhghplfdiijaaW.PrintWords Go.Proofs.YtjnhghplfdiijaaW.PrintLast Go.Proofs.YtjnhghplfdiijaaW.PrintMore Go.Lib
set_option linter.unusedVariables false
set_option linter.unusedSimpArgs false
def catL (l : List ByteArray) : ByteArray := l.foldl (· ++ ·) ⟨#[]⟩
def dayS (n : Int) : ByteArray := if n = 0 then ⟨#[83, 117, 110, 100, 97, 121]⟩ else if n = 1 then ⟨#[77, 111, 110, 100, 97, 121]⟩ else if n = 2 then ⟨#[84, 117, 101, 115, 100, 97, 121]⟩ else if n = 3 then ⟨#[87, 101, 100, 110, 101, 115, 100, 97, 121]⟩ else if n = 4 then ⟨#[84, 104, 117, 114, 115, 100, 97, 121]⟩ else if n = 5 then ⟨#[70, 114, 105, 100, 97, 121]⟩ else ⟨#[83, 97, 116, 117, 114, 100, 97, 121]⟩
def monS (n : Int) : ByteArray := if n = 1 then ⟨#[74, 97, 110]⟩ else if n = 2 then ⟨#[70, 101, 98]⟩ else if n = 3 then ⟨#[77, 97, 114]⟩ else if n = 4 then ⟨#[65, 112, 114]⟩ else if n = 5 then ⟨#[77, 97, 121]⟩ else if n = 6 then ⟨#[74, 117, 110]⟩ else if n = 7 then ⟨#[74, 117, 108]⟩ else if n = 8 then ⟨#[65, 117, 103]⟩ else if n = 9 then ⟨#[83, 101, 112]⟩ else if n = 10 then ⟨#[79, 99, 116]⟩ else if n = 11 then ⟨#[78, 111, 118]⟩ else ⟨#[68, 101, 99]⟩
theorem daysA_at (n : Int) (h0 : 0 ≤ n) (h1 : n < 7) : daysA[n.toNat]? = some (.string (dayS n)) ∧ 3 ≤ (dayS n).size ∧ (dayS n).size ≤ 9 := by
  obtain rfl | rfl | rfl | rfl | rfl | rfl | rfl : n = 0 ∨ n = 1 ∨ n = 2 ∨ n = 3 ∨ n = 4 ∨ n = 5 ∨ n = 6 := by omega
  all_goals exact ⟨rfl, by decide, by decide⟩
theorem monthsA_at (n : Int) (h0 : 1 ≤ n) (h1 : n ≤ 12) : monthsA[(n - 1).toNat]? = some (.string (monS n)) ∧ (monS n).size = 3 := by
  obtain rfl | rfl | rfl | rfl | rfl | rfl | rfl | rfl | rfl | rfl | rfl | rfl : n = 1 ∨ n = 2 ∨ n = 3 ∨ n = 4 ∨ n = 5 ∨ n = 6 ∨ n = 7 ∨ n = 8 ∨ n = 9 ∨ n = 10 ∨ n = 11 ∨ n = 12 := by omega
  all_goals exact ⟨rfl, by decide⟩
def comB : ByteArray := ⟨#[44]⟩
def blaB : ByteArray := ⟨#[32]⟩
def colB : ByteArray := ⟨#[58]⟩
def gmtB : ByteArray := ⟨#[71, 77, 84]⟩
def day3 (n : Int) : ByteArray := (dayS n).extract 0 3
def clkB (ph pm ps : ByteArray) : ByteArray := (((ph ++ colB) ++ pm) ++ colB) ++ ps
def fixPieces (wd m : Int) (pd py ph pm ps : ByteArray) : List ByteArray := [day3 wd, comB, blaB, pd, blaB, monS m, blaB, py, blaB, clkB ph pm ps, blaB, gmtB]
def fixText (wd m : Int) (pd py ph pm ps : ByteArray) : ByteArray := catL (fixPieces wd m pd py ph pm ps)
set_option maxHeartbeats 16000000 in
set_option maxRecDepth 100000 in
theorem print_ok (s y m d h' mi se n wd : Int) (nb : Bool) (pd py ph pm ps : ByteArray) (w : World) (hD : civil_Date.f 8 s = some (y, m, d, h', mi, se, true)) (hN : civil_Days.f y m d = some (n, nb)) (hW : civil_Weekday.f n = some wd)
    (hw0 : 0 ≤ wd) (hw1 : wd < 7) (hm0 : 1 ≤ m) (hm1 : m ≤ 12) (hpd : digits_Pad.f d 2 = some pd) (hpy : digits_Pad.f y 4 = some py) (hph : digits_Pad.f h' 2 = some ph) (hpm : digits_Pad.f mi 2 = some pm) (hps : digits_Pad.f se 2 = some ps)
    (zd : pd.size ≤ 1000) (zy : py.size ≤ 1000) (zh : ph.size ≤ 1000) (zm : pm.size ≤ 1000) (zs : ps.size ≤ 1000) :
    Calls Try.prog 52 #[.int .i64 s] w fun e w' => e = .returned (.string (fixText wd m pd py ph pm ps)) ∧ Below w.heap.size w w' := by
  obtain ⟨T, hT⟩ : ∃ T, fixText wd m pd py ph pm ps = T := ⟨_, rfl⟩
  rw [hT]
  have HT := Aside0.mk hT
  clear hT
  have hu75 := Try.underlying75
  have HB := Aside0.mk (Below.refl w.heap.size w)
  have HD := Aside0.mk hD
  have HN := Aside0.mk hN
  have HW := Aside0.mk hW
  have HPd := Aside0.mk hpd
  have HPy := Aside0.mk hpy
  have HPh := Aside0.mk hph
  have HPm := Aside0.mk hpm
  have HPs := Aside0.mk hps
  clear hD hN hW hpd hpy hph hpm hps
  go_enter Try.func52, Try.ntmps52
  go_wp2_with fail
  refine (civil_Date.calls 8 s y m d h' mi se true _ HD.out).mono ?_
  rintro e w1 ⟨rfl, hb⟩
  have HB_ := Aside0.mk (below_step HB.out hb)
  clear HB hb
  have HB := HB_
  clear HB_
  go_upto_region 2 with (first | ((with_reducible refine gate_dst (N := 3) rfl ?_); refine box_event ?hg (N := 3) ?hd (cs := #[.int .i64 0, .int .i64 0, .int .i64 0, .int .i64 0, .int .i64 0, .int .i64 0]) (t := 75) ?hr ?_; (case hd => rfl); (case hg => rfl); (case hr => first | (go_simp; done) | (go_simp; rfl)); intro gd hg w2 hbox hb; have HB_ := Aside0.mk (below_step HB.out hb); have BKgd := Aside0.mk hbox; have GEgd := Aside0.mk ((by rw [hg]; exact (below_size HB.out) : w.heap.size ≤ gd)); clear HB ; have HB := HB_; clear HB_ ; clear hb hbox hg; have hcz0 : w2.cell? ⟨gd, 0, none⟩ = some (.int .i64 0) := (blk_cell BKgd.out 0).trans rfl; have hcz1 : w2.cell? ⟨gd, 1, none⟩ = some (.int .i64 0) := (blk_cell BKgd.out 1).trans rfl; have hcz2 : w2.cell? ⟨gd, 2, none⟩ = some (.int .i64 0) := (blk_cell BKgd.out 2).trans rfl; have hcz3 : w2.cell? ⟨gd, 3, none⟩ = some (.int .i64 0) := (blk_cell BKgd.out 3).trans rfl; have hcz4 : w2.cell? ⟨gd, 4, none⟩ = some (.int .i64 0) := (blk_cell BKgd.out 4).trans rfl; have hcz5 : w2.cell? ⟨gd, 5, none⟩ = some (.int .i64 0) := (blk_cell BKgd.out 5).trans rfl; have hfz0 := blk_frozen BKgd.out 0; have hfz1 := blk_frozen BKgd.out 1; have hfz2 := blk_frozen BKgd.out 2; have hfz3 := blk_frozen BKgd.out 3; have hfz4 := blk_frozen BKgd.out 4; have hfz5 := blk_frozen BKgd.out 5))
  clear hcz0 hcz1 hcz2 hcz3 hcz4 hcz5 hfz0 hfz1 hfz2 hfz3 hfz4 hfz5
  refine world_gen (fun w' => w'.heap[gd]? = some (.cells #[.int .i64 y, .int .i64 m, .int .i64 d, .int .i64 h', .int .i64 mi, .int .i64 se] 75 (0, 0)) ∧ Below w.heap.size w w') ⟨?_, ?_⟩ ?_
  · exact blk_put6 _ _ _ _ _ _ BKgd.out
  · exact below_put6 _ _ _ _ _ _ HB.out GEgd.out
  rintro w3 ⟨b1, b2⟩
  have BD := Aside0.mk b1
  have HB2 := Aside0.mk b2
  have hc0 : w3.cell? ⟨gd, 0, none⟩ = some (.int .i64 y) := (blk_cell b1 0).trans rfl
  have hc1 : w3.cell? ⟨gd, 1, none⟩ = some (.int .i64 m) := (blk_cell b1 1).trans rfl
  have hc2 : w3.cell? ⟨gd, 2, none⟩ = some (.int .i64 d) := (blk_cell b1 2).trans rfl
  clear b1 b2 BKgd HB
  go_wp2_with fail
  refine (civil_Days.calls y m d n nb _ HN.out).mono ?_
  rintro e w4 ⟨rfl, hb⟩
  have BD_ := Aside0.mk (blk_below BD.out hb)
  have HB_ := Aside0.mk (below_step HB2.out hb)
  clear hb BD HB2 hc0 hc1 hc2
  go_wp2_with fail
  refine (httpdate_patterns _).mono ?_
  rintro e w5 ⟨rfl, hb⟩
  have BD := Aside0.mk (blk_below BD_.out hb)
  have HB := Aside0.mk (below_step HB_.out hb)
  clear hb BD_ HB_
  have HI := Aside0.mk (fun (W : World) => run_patterns W #[.string fixdateB, .string elderB, .string plainB] .i64 0 fixdateB (by decide) (by decide) rfl)
  go_wp2
  rw [HI.out]
  go_wp2
  obtain ⟨gi, hgi⟩ : ∃ gi, w5.heap.size = gi := ⟨_, rfl⟩
  have IT : Aside0 ((w5.iter fixdateB 0).heap[gi]? = some (.stringIter fixdateB 0)) := ⟨by rw [← hgi]; exact World.iter_heap w5 fixdateB 0⟩
  have GI := Aside0.mk ((by rw [← hgi]; exact below_size HB.out) : w.heap.size ≤ gi)
  have NE := Aside0.mk ((by rw [← hgi]; exact Nat.ne_of_lt (blk_lt BD.out)) : gd ≠ gi)
  have BD2 : Aside0 ((w5.iter fixdateB 0).heap[gd]? = some (.cells #[.int .i64 y, .int .i64 m, .int .i64 d, .int .i64 h', .int .i64 mi, .int .i64 se] 75 (0, 0))) := ⟨by unfold World.iter; exact blk_alloc BD.out _⟩
  have HB2 : Aside0 (Below w.heap.size w (w5.iter fixdateB 0)) := ⟨by unfold World.iter; exact HB.out.alloc (below_size HB.out) _⟩
  rw [hgi]
  clear HI hgi BD HB
  obtain ⟨L, hL⟩ : ∃ L, fixPieces wd m pd py ph pm ps = L := ⟨_, rfl⟩
  have HL := Aside0.mk hL
  have e0 : Aside0 ((⟨#[]⟩ : ByteArray) = catL (L.take 0)) := ⟨rfl⟩
  clear hL
  go_loopg [7] 13 (fun gg v7 wr => ∃ (i : Nat) (O : ByteArray), v7 = .string O ∧ i ≤ 12 ∧ 13 - i ≤ gg ∧ O.size ≤ 4000 * i ∧ Aside0 (O = catL (L.take i)) ∧ Aside0 (wr.heap[gi]? = some (.stringIter fixdateB i)) ∧ Aside0 (wr.heap[gd]? = some (.cells #[.int .i64 y, .int .i64 m, .int .i64 d, .int .i64 h', .int .i64 mi, .int .i64 se] 75 (0, 0))) ∧ Aside0 (Below w.heap.size w wr))
  case atStart => exact ⟨0, _, rfl, by omega, by omega, Nat.le_refl _, e0, IT, BD2, HB2⟩
  case round =>
    clear IT BD2 HB2 e0
    obtain ⟨i, O, rfl, hi, hg, hz, HO, IT, BD, HB⟩ := hrel
    by_cases h12 : i = 12
    · subst h12
      have hnx : ∀ ty, (Instr.next (.pointer (some ⟨gi, 0, none⟩)) true ty).run Try.prog wr = _ := fun ty => run_next_end_at wr gi fixdateB 12 ty IT.out (by decide)
      go_wp2
      exact bodyPost_ret (v := .string O) (by simp [results, Try.results52, go_sem]) rfl ⟨by rw [HO.out, ← HL.out, ← HT.out]; rfl, HB.out⟩
    have hlt : i < fixdateB.size := by show i < 12; omega
    obtain ⟨C, hC⟩ : ∃ C : Nat, (Utf8.decode fixdateB i).1 = C := ⟨_, rfl⟩
    have hD1 : (Utf8.decode fixdateB i).2 = 1 := by
      obtain rfl | rfl | rfl | rfl | rfl | rfl | rfl | rfl | rfl | rfl | rfl | rfl : i = 0 ∨ i = 1 ∨ i = 2 ∨ i = 3 ∨ i = 4 ∨ i = 5 ∨ i = 6 ∨ i = 7 ∨ i = 8 ∨ i = 9 ∨ i = 10 ∨ i = 11 := by omega
      all_goals rfl
    have hnx : ∀ ty, (Instr.next (.pointer (some ⟨gi, 0, none⟩)) true ty).run Try.prog wr = _ := fun ty => run_next_any_at wr gi fixdateB i ty IT.out hlt
    have IT1 := Aside0.mk (iterAt_heap wr gi fixdateB i (i + (Utf8.decode fixdateB i).2) IT.out)
    have BD1 := Aside0.mk ((iterAt_other wr gi gd fixdateB (i + (Utf8.decode fixdateB i).2) NE.out).trans BD.out)
    have HB1 := Aside0.mk (below_iterAt HB.out GI.out fixdateB (i + (Utf8.decode fixdateB i).2))
    obtain ⟨W1, hW⟩ : ∃ W1, wr.iterAt gi fixdateB (i + (Utf8.decode fixdateB i).2) = W1 := ⟨_, rfl⟩
    rw [hW] at hnx IT1 BD1 HB1
    rw [hC] at hnx
    rw [hD1] at IT1
    clear hW IT BD HB hlt hD1
    have hcd : ∀ j v, (#[.int .i64 y, .int .i64 m, .int .i64 d, .int .i64 h', .int .i64 mi, .int .i64 se])[j]? = some v → W1.cell? ⟨gd, j, none⟩ = some v := fun j v hj => (blk_cell BD1.out j).trans hj
    have hc0 : W1.cell? ⟨gd, 0, none⟩ = some (.int .i64 y) := hcd 0 _ rfl
    have hc1 : W1.cell? ⟨gd, 1, none⟩ = some (.int .i64 m) := hcd 1 _ rfl
    have hc2 : W1.cell? ⟨gd, 2, none⟩ = some (.int .i64 d) := hcd 2 _ rfl
    have hc3 : W1.cell? ⟨gd, 3, none⟩ = some (.int .i64 h') := hcd 3 _ rfl
    have hc4 : W1.cell? ⟨gd, 4, none⟩ = some (.int .i64 mi) := hcd 4 _ rfl
    have hc5 : W1.cell? ⟨gd, 5, none⟩ = some (.int .i64 se) := hcd 5 _ rfl
    clear hcd
    obtain rfl | h : i = 0 ∨ i = 1 ∨ i = 2 ∨ i = 3 ∨ i = 4 ∨ i = 5 ∨ i = 6 ∨ i = 7 ∨ i = 8 ∨ i = 9 ∨ i = 10 ∨ i = 11 := by omega
    · -- the weekday
      obtain rfl : 119 = C := hC
      clear h12 hc0 hc1 hc2 hc3 hc4 hc5
      have hsz3 := (daysA_at wd hw0 hw1).2
      have HI := Aside0.mk (fun (W : World) => run_days W daysA .i64 wd _ hw0 hw1 (daysA_at wd hw0 hw1).1)
      obtain ⟨DS, hDS⟩ : ∃ DS, dayS wd = DS := ⟨_, rfl⟩
      have HDS := Aside0.mk hDS
      rw [hDS] at hsz3 HI
      clear hDS
      have hcat : O.size + (DS.extract 0 3).size ≤ 9223372036854775807 := by rw [ByteArray.size_extract]; omega
      go_wp2_with fail
      refine (httpdate_days _).mono ?_
      rintro e w6 ⟨rfl, hb⟩
      have BD2 := Aside0.mk (blk_below BD1.out hb)
      have IT2 := Aside0.mk (blk_below IT1.out hb)
      have HB2 := Aside0.mk (below_step HB1.out hb)
      clear hb BD1 IT1 HB1
      go_wp2_with fail
      refine (civil_Weekday.calls n wd _ HW.out).mono ?_
      rintro e w7 ⟨rfl, ⟨nd, rfl⟩⟩
      go_wp2
      rw [HI.out]
      go_wp2
      go_roundg (gk - 1)
      case measure => omega
      case rel => exact ⟨1, _, rfl, by omega, by omega, by rw [ByteArray.size_append, ByteArray.size_extract]; omega, ⟨by rw [HO.out, ← HL.out, ← HDS.out]; rfl⟩, ⟨blk_drewN IT2.out nd⟩, ⟨blk_drewN BD2.out nd⟩, ⟨pw_below_drewN HB2.out nd⟩⟩
    obtain rfl | h : i = 1 ∨ i = 2 ∨ i = 3 ∨ i = 4 ∨ i = 5 ∨ i = 6 ∨ i = 7 ∨ i = 8 ∨ i = 9 ∨ i = 10 ∨ i = 11 := by omega
    · obtain rfl : 44 = C := hC
      clear h12
      have hcat : O.size + (⟨#[44]⟩ : ByteArray).size ≤ 9223372036854775807 := by show O.size + 1 ≤ _; omega
      have hen : Utf8.encode 44 = ⟨#[44]⟩ := rfl
      clear hc0 hc1 hc2 hc3 hc4 hc5
      go_wp2
      go_roundg (gk - 1)
      case measure => omega
      case rel => exact ⟨2, _, rfl, by omega, by omega, by rw [ByteArray.size_append]; show O.size + 1 ≤ _; omega, ⟨by rw [HO.out, ← HL.out]; rfl⟩, ⟨IT1.out⟩, ⟨BD1.out⟩, ⟨HB1.out⟩⟩
    obtain rfl | h : i = 2 ∨ i = 3 ∨ i = 4 ∨ i = 5 ∨ i = 6 ∨ i = 7 ∨ i = 8 ∨ i = 9 ∨ i = 10 ∨ i = 11 := by omega
    · obtain rfl : 32 = C := hC
      clear h12
      have hcat : O.size + (⟨#[32]⟩ : ByteArray).size ≤ 9223372036854775807 := by show O.size + 1 ≤ _; omega
      have hen : Utf8.encode 32 = ⟨#[32]⟩ := rfl
      clear hc0 hc1 hc2 hc3 hc4 hc5
      go_wp2
      go_roundg (gk - 1)
      case measure => omega
      case rel => exact ⟨3, _, rfl, by omega, by omega, by rw [ByteArray.size_append]; show O.size + 1 ≤ _; omega, ⟨by rw [HO.out, ← HL.out]; rfl⟩, ⟨IT1.out⟩, ⟨BD1.out⟩, ⟨HB1.out⟩⟩
    obtain rfl | h : i = 3 ∨ i = 4 ∨ i = 5 ∨ i = 6 ∨ i = 7 ∨ i = 8 ∨ i = 9 ∨ i = 10 ∨ i = 11 := by omega
    · obtain rfl : 100 = C := hC
      clear h12
      have hcat : O.size + pd.size ≤ 9223372036854775807 := by omega
      go_wp2_with fail
      refine (digits_Pad.calls d 2 pd _ HPd.out).mono ?_
      rintro e w6 ⟨rfl, hb⟩
      have BD2 := Aside0.mk (blk_below BD1.out hb)
      have IT2 := Aside0.mk (blk_below IT1.out hb)
      have HB2 := Aside0.mk (below_step HB1.out hb)
      clear hb BD1 IT1 HB1
      clear hc0 hc1 hc2 hc3 hc4 hc5
      go_wp2
      go_roundg (gk - 1)
      case measure => omega
      case rel => exact ⟨4, _, rfl, by omega, by omega, by rw [ByteArray.size_append]; omega, ⟨by rw [HO.out, ← HL.out]; rfl⟩, ⟨IT2.out⟩, ⟨BD2.out⟩, ⟨HB2.out⟩⟩
    obtain rfl | h : i = 4 ∨ i = 5 ∨ i = 6 ∨ i = 7 ∨ i = 8 ∨ i = 9 ∨ i = 10 ∨ i = 11 := by omega
    · obtain rfl : 32 = C := hC
      clear h12
      have hcat : O.size + (⟨#[32]⟩ : ByteArray).size ≤ 9223372036854775807 := by show O.size + 1 ≤ _; omega
      have hen : Utf8.encode 32 = ⟨#[32]⟩ := rfl
      clear hc0 hc1 hc2 hc3 hc4 hc5
      go_wp2
      go_roundg (gk - 1)
      case measure => omega
      case rel => exact ⟨5, _, rfl, by omega, by omega, by rw [ByteArray.size_append]; show O.size + 1 ≤ _; omega, ⟨by rw [HO.out, ← HL.out]; rfl⟩, ⟨IT1.out⟩, ⟨BD1.out⟩, ⟨HB1.out⟩⟩
    obtain rfl | h : i = 5 ∨ i = 6 ∨ i = 7 ∨ i = 8 ∨ i = 9 ∨ i = 10 ∨ i = 11 := by omega
    · obtain rfl : 109 = C := hC
      clear h12
      have hms := (monthsA_at m hm0 hm1).2
      have hwm : IntKind.i64.wrap (m - 1) = m - 1 := IntWalk.i64_in _ (by omega)
      have HI := Aside0.mk (fun (W : World) => run_monthnames W monthsA .i64 (m - 1) _ (by omega) (by omega) (monthsA_at m hm0 hm1).1)
      obtain ⟨MS, hMS⟩ : ∃ MS, monS m = MS := ⟨_, rfl⟩
      have HMS := Aside0.mk hMS
      rw [hMS] at hms HI
      clear hMS hc0 hc2 hc3 hc4 hc5
      have hcat : O.size + MS.size ≤ 9223372036854775807 := by omega
      have hcat2 := eq_false (Nat.not_lt.2 hcat)
      have HMz := Aside0.mk hms
      clear hms
      go_wp2_with fail
      have HIo := HI.out
      go_region_held3 (fun w' => w'.cell? ⟨gd, 1, none⟩ = some (.int .i64 m) ∧ w'.heap[gd]? = some (.cells #[.int .i64 y, .int .i64 m, .int .i64 d, .int .i64 h', .int .i64 mi, .int .i64 se] 75 (0, 0)) ∧ w'.heap[gi]? = some (.stringIter fixdateB (5 + 1)) ∧ Below w.heap.size w w')
        (first | exact ⟨(blk_cell BD1.out 1).trans rfl, BD1.out, IT1.out, below_drew1 HB1.out⟩ | assumption | (go_split_ands; exact ⟨(blk_cell (blk_below (by assumption) (by assumption)) 1).trans rfl, blk_below (by assumption) (by assumption), blk_below (by assumption) (by assumption), below_step (by assumption) (by assumption)⟩))
        ((go_at_call 106; refine (httpdate_months _).mono ?_; rintro e w6 ⟨rfl, hb⟩))
      rename_i hHeld
      obtain ⟨_, b1, b2, b3⟩ := hHeld
      have BD3 := Aside0.mk b1
      have IT3 := Aside0.mk b2
      have HB3 := Aside0.mk b3
      clear b1 b2 b3 HIo
      go_wp2
      go_roundg (gk - 1)
      case measure => omega
      case rel => exact ⟨6, _, rfl, by omega, by omega, by have := HMz.out; rw [ByteArray.size_append]; omega, ⟨by rw [HO.out, ← HL.out, ← HMS.out]; rfl⟩, ⟨IT3.out⟩, ⟨BD3.out⟩, ⟨HB3.out⟩⟩
    obtain rfl | h : i = 6 ∨ i = 7 ∨ i = 8 ∨ i = 9 ∨ i = 10 ∨ i = 11 := by omega
    · obtain rfl : 32 = C := hC
      clear h12
      have hcat : O.size + (⟨#[32]⟩ : ByteArray).size ≤ 9223372036854775807 := by show O.size + 1 ≤ _; omega
      have hen : Utf8.encode 32 = ⟨#[32]⟩ := rfl
      clear hc0 hc1 hc2 hc3 hc4 hc5
      go_wp2
      go_roundg (gk - 1)
      case measure => omega
      case rel => exact ⟨7, _, rfl, by omega, by omega, by rw [ByteArray.size_append]; show O.size + 1 ≤ _; omega, ⟨by rw [HO.out, ← HL.out]; rfl⟩, ⟨IT1.out⟩, ⟨BD1.out⟩, ⟨HB1.out⟩⟩
    obtain rfl | h : i = 7 ∨ i = 8 ∨ i = 9 ∨ i = 10 ∨ i = 11 := by omega
    · obtain rfl : 121 = C := hC
      clear h12
      have hcat : O.size + py.size ≤ 9223372036854775807 := by omega
      go_wp2_with fail
      refine (digits_Pad.calls y 4 py _ HPy.out).mono ?_
      rintro e w6 ⟨rfl, hb⟩
      have BD2 := Aside0.mk (blk_below BD1.out hb)
      have IT2 := Aside0.mk (blk_below IT1.out hb)
      have HB2 := Aside0.mk (below_step HB1.out hb)
      clear hb BD1 IT1 HB1
      clear hc0 hc1 hc2 hc3 hc4 hc5
      go_wp2
      go_roundg (gk - 1)
      case measure => omega
      case rel => exact ⟨8, _, rfl, by omega, by omega, by rw [ByteArray.size_append]; omega, ⟨by rw [HO.out, ← HL.out]; rfl⟩, ⟨IT2.out⟩, ⟨BD2.out⟩, ⟨HB2.out⟩⟩
    obtain rfl | h : i = 8 ∨ i = 9 ∨ i = 10 ∨ i = 11 := by omega
    · obtain rfl : 32 = C := hC
      clear h12
      have hcat : O.size + (⟨#[32]⟩ : ByteArray).size ≤ 9223372036854775807 := by show O.size + 1 ≤ _; omega
      have hen : Utf8.encode 32 = ⟨#[32]⟩ := rfl
      clear hc0 hc1 hc2 hc3 hc4 hc5
      go_wp2
      go_roundg (gk - 1)
      case measure => omega
      case rel => exact ⟨9, _, rfl, by omega, by omega, by rw [ByteArray.size_append]; show O.size + 1 ≤ _; omega, ⟨by rw [HO.out, ← HL.out]; rfl⟩, ⟨IT1.out⟩, ⟨BD1.out⟩, ⟨HB1.out⟩⟩
    obtain rfl | h : i = 9 ∨ i = 10 ∨ i = 11 := by omega
    · obtain rfl : 116 = C := hC
      clear h12
      have z1 : colB.size = 1 := rfl
      have a1 : ph.size + (⟨#[58]⟩ : ByteArray).size ≤ 9223372036854775807 := by show ph.size + 1 ≤ _; omega
      have a2 : (ph ++ ⟨#[58]⟩).size + pm.size ≤ 9223372036854775807 := by rw [ByteArray.size_append]; show ph.size + 1 + pm.size ≤ _; omega
      have a3 : ((ph ++ ⟨#[58]⟩) ++ pm).size + (⟨#[58]⟩ : ByteArray).size ≤ 9223372036854775807 := by rw [ByteArray.size_append, ByteArray.size_append]; show ph.size + 1 + pm.size + 1 ≤ _; omega
      have a4 : (((ph ++ ⟨#[58]⟩) ++ pm) ++ ⟨#[58]⟩).size + ps.size ≤ 9223372036854775807 := by rw [ByteArray.size_append, ByteArray.size_append, ByteArray.size_append]; show ph.size + 1 + pm.size + 1 + ps.size ≤ _; omega
      have a5 : O.size + ((((ph ++ ⟨#[58]⟩) ++ pm) ++ ⟨#[58]⟩) ++ ps).size ≤ 9223372036854775807 := by rw [ByteArray.size_append, ByteArray.size_append, ByteArray.size_append, ByteArray.size_append]; show O.size + (ph.size + 1 + pm.size + 1 + ps.size) ≤ _; omega
      have HZ : Aside0 ((O ++ ((((ph ++ ⟨#[58]⟩) ++ pm) ++ ⟨#[58]⟩) ++ ps)).size ≤ 4000 * (9 + 1)) := ⟨by rw [ByteArray.size_append, ByteArray.size_append, ByteArray.size_append, ByteArray.size_append, ByteArray.size_append]; show O.size + (ph.size + 1 + pm.size + 1 + ps.size) ≤ _; omega⟩
      have q1 : ph.size + 1 ≤ 9223372036854775807 := a1
      have q2 : ph.size + 1 + pm.size ≤ 9223372036854775807 := by omega
      have q3 : ph.size + 1 + pm.size + 1 ≤ 9223372036854775807 := by omega
      have q4 : ph.size + 1 + pm.size + 1 + ps.size ≤ 9223372036854775807 := by omega
      have q5 : O.size + (ph.size + 1 + pm.size + 1 + ps.size) ≤ 9223372036854775807 := by omega
      have n1 := eq_false (Nat.not_lt.2 q1)
      have n2 := eq_false (Nat.not_lt.2 q2)
      have n3 := eq_false (Nat.not_lt.2 q3)
      have n4 := eq_false (Nat.not_lt.2 q4)
      have n5 := eq_false (Nat.not_lt.2 q5)
      have m1 := eq_false (Nat.not_lt.2 a1)
      have m2 := eq_false (Nat.not_lt.2 a2)
      have m3 := eq_false (Nat.not_lt.2 a3)
      have m4 := eq_false (Nat.not_lt.2 a4)
      have m5 := eq_false (Nat.not_lt.2 a5)
      clear hc0 hc1 hc2 z1 zd zy zh zm zs
      go_wp2_with fail
      go_region_held3 (fun w' => w'.cell? ⟨gd, 3, none⟩ = some (.int .i64 h') ∧ w'.cell? ⟨gd, 4, none⟩ = some (.int .i64 mi) ∧ w'.cell? ⟨gd, 5, none⟩ = some (.int .i64 se) ∧ w'.heap[gd]? = some (.cells #[.int .i64 y, .int .i64 m, .int .i64 d, .int .i64 h', .int .i64 mi, .int .i64 se] 75 (0, 0)) ∧ w'.heap[gi]? = some (.stringIter fixdateB (9 + 1)) ∧ Below w.heap.size w w')
        (first | exact ⟨(blk_cell BD1.out 3).trans rfl, (blk_cell BD1.out 4).trans rfl, (blk_cell BD1.out 5).trans rfl, BD1.out, IT1.out, below_drew1 HB1.out⟩ | assumption | (go_split_ands; exact ⟨(blk_cell (blk_below (by assumption) hb) 3).trans rfl, (blk_cell (blk_below (by assumption) hb) 4).trans rfl, (blk_cell (blk_below (by assumption) hb) 5).trans rfl, blk_below (by assumption) hb, blk_below (by assumption) hb, below_step (by assumption) hb⟩))
        ((go_at_call 105; first | ((with_reducible refine (digits_Pad.calls h' 2 ph _ HPh.out).mono ?_); rintro e w6 ⟨rfl, hb⟩) | ((with_reducible refine (digits_Pad.calls mi 2 pm _ HPm.out).mono ?_); rintro e w6 ⟨rfl, hb⟩) | ((with_reducible refine (digits_Pad.calls se 2 ps _ HPs.out).mono ?_); rintro e w6 ⟨rfl, hb⟩)))
      all_goals
        rename_i hHeld
        obtain ⟨_, _, _, b1, b2, b3⟩ := hHeld
        have BD3 := Aside0.mk b1
        have IT3 := Aside0.mk b2
        have HB3 := Aside0.mk b3
        clear b1 b2 b3
        go_wp2
        go_roundg (gk - 1)
        case measure => omega
        case rel => exact ⟨10, _, rfl, by omega, by omega, HZ.out, ⟨by rw [HO.out, ← HL.out]; rfl⟩, ⟨IT3.out⟩, ⟨BD3.out⟩, ⟨HB3.out⟩⟩
    obtain rfl | h : i = 10 ∨ i = 11 := by omega
    · obtain rfl : 32 = C := hC
      clear h12
      have hcat : O.size + (⟨#[32]⟩ : ByteArray).size ≤ 9223372036854775807 := by show O.size + 1 ≤ _; omega
      have hen : Utf8.encode 32 = ⟨#[32]⟩ := rfl
      clear hc0 hc1 hc2 hc3 hc4 hc5
      go_wp2
      go_roundg (gk - 1)
      case measure => omega
      case rel => exact ⟨11, _, rfl, by omega, by omega, by rw [ByteArray.size_append]; show O.size + 1 ≤ _; omega, ⟨by rw [HO.out, ← HL.out]; rfl⟩, ⟨IT1.out⟩, ⟨BD1.out⟩, ⟨HB1.out⟩⟩
    obtain rfl : i = 11 := h
    · obtain rfl : 122 = C := hC
      clear h12
      have hcat : O.size + (⟨#[71, 77, 84]⟩ : ByteArray).size ≤ 9223372036854775807 := by show O.size + 3 ≤ _; omega
      clear hc0 hc1 hc2 hc3 hc4 hc5
      go_wp2
      go_roundg (gk - 1)
      case measure => omega
      case rel => exact ⟨12, _, rfl, by omega, by omega, by rw [ByteArray.size_append]; show O.size + 3 ≤ _; omega, ⟨by rw [HO.out, ← HL.out]; rfl⟩, ⟨IT1.out⟩, ⟨BD1.out⟩, ⟨HB1.out⟩⟩
set_option maxHeartbeats 4000000 in
set_option maxRecDepth 100000 in
theorem print_no (s y m d h' mi se : Int) (w : World) (hD : civil_Date.f 8 s = some (y, m, d, h', mi, se, false)) :
    Calls Try.prog 52 #[.int .i64 s] w fun e w' => e = .returned (.string ⟨#[]⟩) ∧ Below w.heap.size w w' := by
  have hu75 := Try.underlying75
  have HB := Aside0.mk (Below.refl w.heap.size w)
  have HD := Aside0.mk hD
  clear hD
  go_enter Try.func52, Try.ntmps52
  go_wp2_with fail
  refine (civil_Date.calls 8 s y m d h' mi se false _ HD.out).mono ?_
  rintro e w1 ⟨rfl, hb⟩
  have HB_ := Aside0.mk (below_step HB.out hb)
  clear HB hb
  have HB := HB_
  clear HB_
  go_upto_region 2 with (first | ((with_reducible refine gate_dst (N := 3) rfl ?_); refine box_event ?hg (N := 3) ?hd (cs := #[.int .i64 0, .int .i64 0, .int .i64 0, .int .i64 0, .int .i64 0, .int .i64 0]) (t := 75) ?hr ?_; (case hd => rfl); (case hg => rfl); (case hr => first | (go_simp; done) | (go_simp; rfl)); intro gd hg w2 hbox hb; have HB_ := Aside0.mk (below_step HB.out hb); have BKgd := Aside0.mk hbox; have GEgd := Aside0.mk ((by rw [hg]; exact (below_size HB.out) : w.heap.size ≤ gd)); clear HB ; have HB := HB_; clear HB_ ; clear hb hbox hg; have hcz0 : w2.cell? ⟨gd, 0, none⟩ = some (.int .i64 0) := (blk_cell BKgd.out 0).trans rfl; have hcz1 : w2.cell? ⟨gd, 1, none⟩ = some (.int .i64 0) := (blk_cell BKgd.out 1).trans rfl; have hcz2 : w2.cell? ⟨gd, 2, none⟩ = some (.int .i64 0) := (blk_cell BKgd.out 2).trans rfl; have hcz3 : w2.cell? ⟨gd, 3, none⟩ = some (.int .i64 0) := (blk_cell BKgd.out 3).trans rfl; have hcz4 : w2.cell? ⟨gd, 4, none⟩ = some (.int .i64 0) := (blk_cell BKgd.out 4).trans rfl; have hcz5 : w2.cell? ⟨gd, 5, none⟩ = some (.int .i64 0) := (blk_cell BKgd.out 5).trans rfl; have hfz0 := blk_frozen BKgd.out 0; have hfz1 := blk_frozen BKgd.out 1; have hfz2 := blk_frozen BKgd.out 2; have hfz3 := blk_frozen BKgd.out 3; have hfz4 := blk_frozen BKgd.out 4; have hfz5 := blk_frozen BKgd.out 5))
  clear hcz0 hcz1 hcz2 hcz3 hcz4 hcz5 hfz0 hfz1 hfz2 hfz3 hfz4 hfz5
  refine world_gen (fun w' => Below w.heap.size w w') (below_put6 _ _ _ _ _ _ HB.out GEgd.out) ?_
  rintro w3 b2
  have HB2 := Aside0.mk b2
  clear b2 BKgd HB
  go_wp2
  exact bodyPost_ret (v := .string ⟨#[]⟩) (by simp [results, Try.results52, go_sem]) rfl ⟨rfl, HB2.out⟩
def httpdate_Print.f (s : Int) : Option ByteArray :=
  (civil_Date.f 8 s).bind fun t => if t.2.2.2.2.2.2 = true then
    (civil_Days.f t.1 t.2.1 t.2.2.1).bind fun n => (civil_Weekday.f n.1).bind fun wd => (digits_Pad.f t.2.2.1 2).bind fun pd => (digits_Pad.f t.1 4).bind fun py => (digits_Pad.f t.2.2.2.1 2).bind fun ph => (digits_Pad.f t.2.2.2.2.1 2).bind fun pm => (digits_Pad.f t.2.2.2.2.2.1 2).bind fun ps =>
      if (0 ≤ wd ∧ wd < 7) ∧ (1 ≤ t.2.1 ∧ t.2.1 ≤ 12) ∧ pd.size ≤ 1000 ∧ py.size ≤ 1000 ∧ ph.size ≤ 1000 ∧ pm.size ≤ 1000 ∧ ps.size ≤ 1000 then some (fixText wd t.2.1 pd py ph pm ps) else none
  else some ⟨#[]⟩
theorem httpdate_Print.calls (a0 : Int) (r : ByteArray) (w : World) (h : httpdate_Print.f a0 = some r) :
    Calls Try.prog 52 #[.int .i64 a0] w fun e w' => e = .returned (.string r) ∧ Below w.heap.size w w' := by
  unfold httpdate_Print.f at h
  obtain ⟨⟨y, m, d, h', mi, se, b⟩, hD, h⟩ := Option.bind_eq_some_iff.mp h
  cases b with
  | false =>
    simp only [Bool.false_eq_true, if_false] at h
    injection h with h
    subst h
    exact print_no a0 y m d h' mi se w hD
  | true =>
    simp only [if_true] at h
    obtain ⟨⟨n, nb⟩, hN, h⟩ := Option.bind_eq_some_iff.mp h
    obtain ⟨wd, hW, h⟩ := Option.bind_eq_some_iff.mp h
    obtain ⟨pd, hpd, h⟩ := Option.bind_eq_some_iff.mp h
    obtain ⟨py, hpy, h⟩ := Option.bind_eq_some_iff.mp h
    obtain ⟨ph, hph, h⟩ := Option.bind_eq_some_iff.mp h
    obtain ⟨pm, hpm, h⟩ := Option.bind_eq_some_iff.mp h
    obtain ⟨ps, hps, h⟩ := Option.bind_eq_some_iff.mp h
    split at h
    · rename_i hg
      obtain ⟨⟨g1, g2⟩, ⟨g3, g4⟩, g5, g6, g7, g8, g9⟩ := hg
      injection h with h
      subst h
      exact print_ok a0 y m d h' mi se n wd nb pd py ph pm ps w hD hN hW g1 g2 g3 g4 hpd hpy hph hpm hps g5 g6 g7 g8 g9
    · exact absurd h (by simp)
end Go.Proofs.Ytjnhghplfdiijaa.Q

namespace Go.Proofs.Ytjnhghplfdiijaa.Q
open Go.RowKit Go.Proofs.YtjnhghplfdiijaaW.PrintWords Go.Proofs.YtjnhghplfdiijaaW.PrintLast Go.Proofs.YtjnhghplfdiijaaW.PrintMore
set_option linter.unusedVariables false
set_option linter.unusedSimpArgs false
def abutmentref06_clock.f (k : Nat) (a0 a1 a2 a3 a4 a5 : Int) : Option ByteArray :=
  (abutmentref02_Pad.f k a3 2).bind fun a => (abutmentref02_Pad.f k a4 2).bind fun b => (abutmentref02_Pad.f k a5 2).bind fun c => if a.size ≤ 1000 ∧ b.size ≤ 1000 ∧ c.size ≤ 1000 then some ((((a ++ ⟨#[58]⟩) ++ b) ++ ⟨#[58]⟩) ++ c) else none
theorem fit {a b : Nat} (h : a + b ≤ 1000000) : a + b ≤ 9223372036854775807 ∧ (9223372036854775807 < a + b) = False := ⟨by omega, eq_false (by omega)⟩
set_option maxHeartbeats 4000000 in
set_option maxRecDepth 100000 in
theorem clock_ok (k : Nat) (y m d h' mi se : Int) (ph pm ps : ByteArray) (w : World) (hph : abutmentref02_Pad.f k h' 2 = some ph) (hpm : abutmentref02_Pad.f k mi 2 = some pm) (hps : abutmentref02_Pad.f k se 2 = some ps) (zh : ph.size ≤ 1000) (zm : pm.size ≤ 1000) (zs : ps.size ≤ 1000) :
    Calls Try.prog 111 #[.agg #[.int .i64 y, .int .i64 m, .int .i64 d, .int .i64 h', .int .i64 mi, .int .i64 se]] w fun e w' => e = .returned (.string ((((ph ++ ⟨#[58]⟩) ++ pm) ++ ⟨#[58]⟩) ++ ps)) ∧ Below w.heap.size w w' := by
  have HPh := Aside0.mk hph
  have HPm := Aside0.mk hpm
  have HPs := Aside0.mk hps
  have q1 := fit (show ph.size + 1 ≤ 1000000 by omega)
  have q2 := fit (show ph.size + 1 + pm.size ≤ 1000000 by omega)
  have q3 := fit (show ph.size + 1 + pm.size + 1 ≤ 1000000 by omega)
  have q4 := fit (show ph.size + 1 + pm.size + 1 + ps.size ≤ 1000000 by omega)
  obtain ⟨q1, n1⟩ := q1
  obtain ⟨q2, n2⟩ := q2
  obtain ⟨q3, n3⟩ := q3
  obtain ⟨q4, n4⟩ := q4
  clear hph hpm hps zh zm zs
  go_enter Try.func111, Try.ntmps111
  go_wp2_with fail
  refine world_gen (fun w' => w'.heap[w.heap.size]? = some (.cells #[.int .i64 y, .int .i64 m, .int .i64 d, .int .i64 h', .int .i64 mi, .int .i64 se] 75 (0, 0)) ∧ Below w.heap.size w w') ⟨blk_new w _, (Below.refl w.heap.size w).alloc (Nat.le_refl _) _⟩ ?_
  rintro w1 ⟨b1, b2⟩
  have BD1 := Aside0.mk b1
  have HB1 := Aside0.mk b2
  clear b1 b2
  go_region_held3 (fun w' => w'.cell? ⟨w.heap.size, 3, none⟩ = some (.int .i64 h') ∧ w'.cell? ⟨w.heap.size, 4, none⟩ = some (.int .i64 mi) ∧ w'.cell? ⟨w.heap.size, 5, none⟩ = some (.int .i64 se) ∧ w'.heap[w.heap.size]? = some (.cells #[.int .i64 y, .int .i64 m, .int .i64 d, .int .i64 h', .int .i64 mi, .int .i64 se] 75 (0, 0)) ∧ Below w.heap.size w w')
    (first | exact ⟨(blk_cell BD1.out 3).trans rfl, (blk_cell BD1.out 4).trans rfl, (blk_cell BD1.out 5).trans rfl, BD1.out, below_drew1 HB1.out⟩ | assumption | (go_split_ands; exact ⟨(blk_cell (by assumption) 3).trans rfl, (blk_cell (by assumption) 4).trans rfl, (blk_cell (by assumption) 5).trans rfl, by assumption, pw_below_drewN (by first | exact HB1.out | assumption) _⟩))
    ((go_at_call 110; first | ((with_reducible refine (abutmentref02_Pad.calls k h' 2 ph _ HPh.out).mono ?_); rintro e w6 ⟨rfl, ⟨nd, rfl⟩⟩) | ((with_reducible refine (abutmentref02_Pad.calls k mi 2 pm _ HPm.out).mono ?_); rintro e w6 ⟨rfl, ⟨nd, rfl⟩⟩) | ((with_reducible refine (abutmentref02_Pad.calls k se 2 ps _ HPs.out).mono ?_); rintro e w6 ⟨rfl, ⟨nd, rfl⟩⟩)))
  rename_i hHeld
  have HB3 := Aside0.mk hHeld.2.2.2.2
  clear hHeld
  go_wp2
  exact bodyPost_ret (v := .string ((((ph ++ ⟨#[58]⟩) ++ pm) ++ ⟨#[58]⟩) ++ ps)) (by simp [results, Try.results111, go_sem]) rfl ⟨rfl, HB3.out⟩
theorem abutmentref06_clock.calls (k : Nat) (a0_0 : Int) (a0_1 : Int) (a0_2 : Int) (a0_3 : Int) (a0_4 : Int) (a0_5 : Int) (r : ByteArray) (w : World) (h : abutmentref06_clock.f k a0_0 a0_1 a0_2 a0_3 a0_4 a0_5 = some r) :
    Calls Try.prog 111 #[.agg #[.int .i64 a0_0, .int .i64 a0_1, .int .i64 a0_2, .int .i64 a0_3, .int .i64 a0_4, .int .i64 a0_5]] w fun e w' => e = .returned (.string r) ∧ Below w.heap.size w w' := by
  unfold abutmentref06_clock.f at h
  obtain ⟨ph, hph, h⟩ := Option.bind_eq_some_iff.mp h
  obtain ⟨pm, hpm, h⟩ := Option.bind_eq_some_iff.mp h
  obtain ⟨ps, hps, h⟩ := Option.bind_eq_some_iff.mp h
  split at h
  · rename_i hg
    injection h with h
    subst h
    exact clock_ok k a0_0 a0_1 a0_2 a0_3 a0_4 a0_5 ph pm ps w hph hpm hps hg.1 hg.2.1 hg.2.2
  · exact absurd h (by simp)
end Go.Proofs.Ytjnhghplfdiijaa.Q

namespace Go.Proofs.Ytjnhghplfdiijaa.Q
open Go.RowKit Go.Proofs.YtjnhghplfdiijaaW.PrintWords Go.Proofs.YtjnhghplfdiijaaW.PrintLast Go.Proofs.YtjnhghplfdiijaaW.PrintMore
attribute [local go_sem] max2_int min2_int max_two min_two max_three min_three max_four min_four
set_option linter.unusedVariables false
set_option linter.unusedSimpArgs false
def abutmentref06_day.f (k : Nat) (a0_0 : Int) (a0_1 : Int) (a0_2 : Int) (a0_3 : Int) (a0_4 : Int) (a0_5 : Int) : Option (Int) := (abutmentref05_Days.f k a0_0 a0_1 a0_2).bind fun bt102 => ((abutmentref05_Weekday.f bt102.1).bind fun t104 => (some t104))
set_option maxHeartbeats 8000000 in
set_option maxRecDepth 100000 in
theorem abutmentref06_day.calls (k : Nat) (a0_0 : Int) (a0_1 : Int) (a0_2 : Int) (a0_3 : Int) (a0_4 : Int) (a0_5 : Int) (r : Int) (w : World) (h : abutmentref06_day.f k a0_0 a0_1 a0_2 a0_3 a0_4 a0_5 = some r) :
    Calls Try.prog 103 #[.agg #[.int .i64 a0_0, .int .i64 a0_1, .int .i64 a0_2, .int .i64 a0_3, .int .i64 a0_4, .int .i64 a0_5]] w fun e w' => e = .returned (.int .i64 r) ∧ Below w.heap.size w w' := by
  have hu75 := Try.underlying75
  have HB := Aside0.mk (Below.refl w.heap.size w)
  have H : ((abutmentref05_Days.f k a0_0 a0_1 a0_2).bind fun bt102 => ((abutmentref05_Weekday.f bt102.1).bind fun t104 => (some t104))) = some r := h
  clear h
  replace H := Option.bind_eq_some_iff.mp H
  obtain ⟨⟨t102, t103⟩, A20, H⟩ := H
  (try dsimp only at H)
  have A2 := Aside0.mk A20
  clear A20
  replace H := Option.bind_eq_some_iff.mp H
  obtain ⟨t104, A30, H⟩ := H
  (try dsimp only at H)
  have A3 := Aside0.mk A30
  clear A30
  obtain rfl := Option.some.inj H
  go_enter Try.func103, Try.ntmps103
  go_wp2_with (first | ((with_reducible refine gate_dst (N := 1) rfl ?_); refine box_event ?hg (N := 1) ?hd (cs := #[.int .i64 a0_0, .int .i64 a0_1, .int .i64 a0_2, .int .i64 a0_3, .int .i64 a0_4, .int .i64 a0_5]) (t := 75) ?hr ?_; (case hd => rfl); (case hg => rfl); (case hr => first | (go_simp; done) | (go_simp; rfl)); intro gb101 hg w4 hbox hb; have n0_ := Aside0.mk (below_step (by repeat (first | (with_reducible first | exact HB.out | apply below_alloc | apply pw_below_drewN | apply below_drew1) | exact HB.out)) hb); have n1_ := Aside0.mk (hbox); have n2_ := Aside0.mk ((by rw [hg]; exact (below_size (by repeat (first | (with_reducible first | exact HB.out | apply below_alloc | apply pw_below_drewN | apply below_drew1) | exact HB.out))) : w.heap.size ≤ gb101)); have n3_ := Aside0.mk ((by rw [hg]; exact (below_size (by repeat (first | (with_reducible first | exact HB.out | apply below_alloc | apply pw_below_drewN | apply below_drew1) | exact HB.out))) : w.heap.size ≤ gb101)); clear HB; have HB := n0_; have BK101 := n1_; have GW101 := n2_; have GE101 := n3_; clear n0_ n1_ n2_ n3_; clear hb hbox hg; have hcz5_0 : w4.cell? ⟨gb101, 0, none⟩ = some (.int .i64 a0_0) := (blk_cell BK101.out 0).trans rfl; have hcz5_1 : w4.cell? ⟨gb101, 1, none⟩ = some (.int .i64 a0_1) := (blk_cell BK101.out 1).trans rfl; have hcz5_2 : w4.cell? ⟨gb101, 2, none⟩ = some (.int .i64 a0_2) := (blk_cell BK101.out 2).trans rfl; have hcz5_3 : w4.cell? ⟨gb101, 3, none⟩ = some (.int .i64 a0_3) := (blk_cell BK101.out 3).trans rfl; have hcz5_4 : w4.cell? ⟨gb101, 4, none⟩ = some (.int .i64 a0_4) := (blk_cell BK101.out 4).trans rfl; have hcz5_5 : w4.cell? ⟨gb101, 5, none⟩ = some (.int .i64 a0_5) := (blk_cell BK101.out 5).trans rfl; have hfz5_0 := blk_frozen BK101.out 0; have hfz5_1 := blk_frozen BK101.out 1; have hfz5_2 := blk_frozen BK101.out 2; have hfz5_3 := blk_frozen BK101.out 3; have hfz5_4 := blk_frozen BK101.out 4; have hfz5_5 := blk_frozen BK101.out 5) | ((with_reducible refine gate_callee (f := 153) rfl ?_); refine goesL_ (some 12) rfl rfl Try.func153 (by kernel_rfl) rfl #[.int .i64 a0_0, .int .i64 a0_1, .int .i64 a0_2] rfl (by (try simp only [List.map_toArray, List.map_cons, List.map_nil]); first | done | rfl | (simp only [List.length_drop, List.length_take]; rfl)) ?_; (with_reducible refine (abutmentref05_Days.calls k a0_0 a0_1 a0_2 t102 t103 _ A2.out).mono ?_); rintro e w' ⟨rfl, ⟨nd, rfl⟩⟩; refine ⟨_, rfl, ?_⟩) | ((with_reducible refine gate_callee (f := 154) rfl ?_); refine goesL_ (some 16) rfl rfl Try.func154 (by kernel_rfl) rfl #[.int .i64 t102] rfl (by (try simp only [List.map_toArray, List.map_cons, List.map_nil]); first | done | rfl | (simp only [List.length_drop, List.length_take]; rfl)) ?_; (with_reducible refine (abutmentref05_Weekday.calls t102 t104 _ A3.out).mono ?_); rintro e w' ⟨rfl, ⟨nd, rfl⟩⟩; refine ⟨_, rfl, ?_⟩))
  go_ret
  exact ⟨by first | rfl | (simp [errW_none, errW_some] <;> rfl) | (simp [*, errW_none, errW_some] <;> rfl), by repeat (first | (with_reducible first | exact HB.out | apply below_alloc | apply pw_below_drewN | apply below_drew1 | refine below_set ?_ GE101.out) | exact HB.out)⟩
end Go.Proofs.Ytjnhghplfdiijaa.Q

namespace Go.Proofs.Ytjnhghplfdiijaa.Q
open Go.RowKit Go.Proofs.YtjnhghplfdiijaaW.PrintWords Go.Proofs.YtjnhghplfdiijaaW.PrintLast Go.Proofs.YtjnhghplfdiijaaW.PrintMore
set_option linter.unusedVariables false
set_option linter.unusedSimpArgs false
theorem ref_days (w : World) : Calls Try.prog 108 #[] w fun e w' => e = .returned (.slice (some ⟨w.heap.size, 0, none⟩) 7 7) ∧ w'.heap[w.heap.size]? = some (.cells daysA 9 (0, 0)) ∧ Below w.heap.size w w' := by
  go_enter Try.func108, Try.ntmps108
  go_wp2
  exact bodyPost_ret (v := .slice (some ⟨w.heap.size, 0, none⟩) 7 7) (by simp [results, Try.results108, go_sem]) rfl ⟨rfl, blk_new w _, (Below.refl _ _).alloc (Nat.le_refl _) _⟩
theorem ref_months (w : World) : Calls Try.prog 109 #[] w fun e w' => e = .returned (.slice (some ⟨w.heap.size, 0, none⟩) 12 12) ∧ w'.heap[w.heap.size]? = some (.cells monthsA 9 (0, 0)) ∧ Below w.heap.size w w' := by
  go_enter Try.func109, Try.ntmps109
  go_wp2
  exact bodyPost_ret (v := .slice (some ⟨w.heap.size, 0, none⟩) 12 12) (by simp [results, Try.results109, go_sem]) rfl ⟨rfl, blk_new w _, (Below.refl _ _).alloc (Nat.le_refl _) _⟩
def write1 (wd m : Int) (pd py cl : ByteArray) : ByteArray := (((((((((((dayS wd).extract 0 3 ++ ⟨#[44, 32]⟩) ++ pd) ++ ⟨#[32]⟩) ++ monS m) ++ ⟨#[32]⟩) ++ py) ++ ⟨#[32]⟩) ++ cl) ++ ⟨#[32, 71, 77, 84]⟩))
def write2 (wd m : Int) (pd py cl : ByteArray) : ByteArray := ((((((((((dayS wd) ++ ⟨#[44, 32]⟩) ++ pd) ++ ⟨#[45]⟩) ++ monS m) ++ ⟨#[45]⟩) ++ py) ++ ⟨#[32]⟩) ++ cl) ++ ⟨#[32, 71, 77, 84]⟩)
def write3 (wd m : Int) (X py cl : ByteArray) : ByteArray := (((((((((dayS wd).extract 0 3 ++ ⟨#[32]⟩) ++ monS m) ++ ⟨#[32]⟩) ++ X) ++ ⟨#[32]⟩) ++ cl) ++ ⟨#[32]⟩) ++ py)
set_option maxHeartbeats 16000000 in
set_option maxRecDepth 100000 in
theorem write_walk (k : Nat) (y m d h' mi se wd form : Int) (cl DS MS R : ByteArray) (w : World) (hwd : abutmentref06_day.f k y m d h' mi se = some wd) (hw0 : 0 ≤ wd) (hw1 : wd < 7) (hm0 : 1 ≤ m) (hm1 : m ≤ 12) (hDS : dayS wd = DS) (hMS : monS m = MS)
    (hcl : abutmentref06_clock.f k y m d h' mi se = some cl) (zc : cl.size ≤ 4000)
    (hR : (form = 1 ∧ ∃ pd py, abutmentref02_Pad.f k d 2 = some pd ∧ abutmentref02_Pad.f k y 4 = some py ∧ pd.size ≤ 1000 ∧ py.size ≤ 1000 ∧ R = ((((((((((DS.extract 0 3 ++ ⟨#[44, 32]⟩) ++ pd) ++ ⟨#[32]⟩) ++ MS) ++ ⟨#[32]⟩) ++ py) ++ ⟨#[32]⟩) ++ cl) ++ ⟨#[32, 71, 77, 84]⟩))) ∨
      (form = 2 ∧ ∃ pd py, abutmentref02_Pad.f k d 2 = some pd ∧ abutmentref02_Pad.f k (Int.tmod y 100) 2 = some py ∧ pd.size ≤ 1000 ∧ py.size ≤ 1000 ∧ R = (((((((((DS ++ ⟨#[44, 32]⟩) ++ pd) ++ ⟨#[45]⟩) ++ MS) ++ ⟨#[45]⟩) ++ py) ++ ⟨#[32]⟩) ++ cl) ++ ⟨#[32, 71, 77, 84]⟩)) ∨
      (form ≠ 1 ∧ form ≠ 2 ∧ ∃ pd X py, abutmentref02_Pad.f k d 1 = some pd ∧ abutmentref02_Pad.f k y 4 = some py ∧ pd.size ≤ 1000 ∧ py.size ≤ 1000 ∧ ((d < 10 ∧ X = ⟨#[32]⟩ ++ pd) ∨ (¬ d < 10 ∧ X = pd)) ∧ R = ((((((((DS.extract 0 3 ++ ⟨#[32]⟩) ++ MS) ++ ⟨#[32]⟩) ++ X) ++ ⟨#[32]⟩) ++ cl) ++ ⟨#[32]⟩) ++ py))) :
    Calls Try.prog 55 #[.agg #[.int .i64 y, .int .i64 m, .int .i64 d, .int .i64 h', .int .i64 mi, .int .i64 se], .int .i64 form] w fun e w' => e = .returned (.string R) ∧ Below w.heap.size w w' := by
  have HCl := Aside0.mk hcl
  have HWd := Aside0.mk hwd
  have HR := Aside0.mk hR
  have hsz3 := (daysA_at wd hw0 hw1).2
  have hms := (monthsA_at m hm0 hm1).2
  have hdc := (daysA_at wd hw0 hw1).1
  have hmc : monthsA[m.toNat - 1]? = some (.string (monS m)) := by have := (monthsA_at m hm0 hm1).1; rwa [show (m - 1).toNat = m.toNat - 1 by omega] at this
  have hwm : IntKind.i64.wrap (m - 1) = m - 1 := IntWalk.i64_in _ (by omega)
  rw [hDS] at hsz3 hdc
  rw [hMS] at hms hmc
  have HMz := Aside0.mk hms
  have HDz := Aside0.mk hsz3
  have HDc := Aside0.mk hdc
  have HMc := Aside0.mk hmc
  have ZC := Aside0.mk zc
  have i0 : (0 : Int) ≤ m - 1 := by omega
  have i1 : m - 1 < 12 := by omega
  clear hDS hMS hcl hwd hms hsz3 hdc hmc hR zc
  go_enter Try.func55, Try.ntmps55
  go_upto_region 1 with (fail)
  refine world_gen (fun w' => w'.heap[w.heap.size]? = some (.cells #[.int .i64 y, .int .i64 m, .int .i64 d, .int .i64 h', .int .i64 mi, .int .i64 se] 75 (0, 0)) ∧ Below w.heap.size w w') ⟨blk_new w _, (Below.refl w.heap.size w).alloc (Nat.le_refl _) _⟩ ?_
  rintro w1 ⟨b1, b2⟩
  have BD1 := Aside0.mk b1
  have HB1 := Aside0.mk b2
  clear b1 b2
  obtain ⟨gd, hgd⟩ : ∃ gd, w.heap.size = gd := ⟨_, rfl⟩
  have HG := Aside0.mk hgd
  rw [hgd] at BD1 ⊢
  clear hgd
  go_cut [5, 6] (fun v5 v6 wc => v5 = .string DS ∧ v6 = .string MS ∧ Aside0 (wc.heap[gd]? = some (.cells #[.int .i64 y, .int .i64 m, .int .i64 d, .int .i64 h', .int .i64 mi, .int .i64 se] 75 (0, 0))) ∧ Aside0 (Below w.heap.size w wc))
  case first =>
    have b1 := BD1.out
    have c0w1 : w1.cell? ⟨gd, 0, none⟩ = some (.int .i64 y) := (blk_cell b1 0).trans rfl
    have c1w1 : w1.cell? ⟨gd, 1, none⟩ = some (.int .i64 m) := (blk_cell b1 1).trans rfl
    have c2w1 : w1.cell? ⟨gd, 2, none⟩ = some (.int .i64 d) := (blk_cell b1 2).trans rfl
    have c3w1 : w1.cell? ⟨gd, 3, none⟩ = some (.int .i64 h') := (blk_cell b1 3).trans rfl
    have c4w1 : w1.cell? ⟨gd, 4, none⟩ = some (.int .i64 mi) := (blk_cell b1 4).trans rfl
    have c5w1 : w1.cell? ⟨gd, 5, none⟩ = some (.int .i64 se) := (blk_cell b1 5).trans rfl
    clear b1
    go_region_with
      (first
        | (go_at_call 108; refine (ref_days _).mono ?_; rintro e w6 ⟨rfl, hg1, hb⟩; have hx : w6.cell? ⟨w1.heap.size, wd.toNat, none⟩ = some (.string DS) := (blk_cell hg1 wd.toNat).trans HDc.out; have bd6 := blk_below (w := w1.drew) BD1.out hb; have hB6 := below_step (below_drew1 HB1.out) hb; have c0w6 : w6.cell? ⟨gd, 0, none⟩ = some (.int .i64 y) := (blk_cell bd6 0).trans rfl; have c1w6 : w6.cell? ⟨gd, 1, none⟩ = some (.int .i64 m) := (blk_cell bd6 1).trans rfl; have c2w6 : w6.cell? ⟨gd, 2, none⟩ = some (.int .i64 d) := (blk_cell bd6 2).trans rfl; have c3w6 : w6.cell? ⟨gd, 3, none⟩ = some (.int .i64 h') := (blk_cell bd6 3).trans rfl; have c4w6 : w6.cell? ⟨gd, 4, none⟩ = some (.int .i64 mi) := (blk_cell bd6 4).trans rfl; have c5w6 : w6.cell? ⟨gd, 5, none⟩ = some (.int .i64 se) := (blk_cell bd6 5).trans rfl)
        | (go_at_call 103; refine (abutmentref06_day.calls k y m d h' mi se wd _ HWd.out).mono ?_; rintro e w7 ⟨rfl, hb7⟩; have hg2 := blk_below hg1 hb7; have hx2 : w7.cell? ⟨w1.heap.size, wd.toNat, none⟩ = some (.string DS) := (blk_cell hg2 wd.toNat).trans HDc.out; have bd7 := blk_below bd6 hb7; have hB7 := below_step hB6 hb7; have c0w7 : w7.cell? ⟨gd, 0, none⟩ = some (.int .i64 y) := (blk_cell bd7 0).trans rfl; have c1w7 : w7.cell? ⟨gd, 1, none⟩ = some (.int .i64 m) := (blk_cell bd7 1).trans rfl; have c2w7 : w7.cell? ⟨gd, 2, none⟩ = some (.int .i64 d) := (blk_cell bd7 2).trans rfl; have c3w7 : w7.cell? ⟨gd, 3, none⟩ = some (.int .i64 h') := (blk_cell bd7 3).trans rfl; have c4w7 : w7.cell? ⟨gd, 4, none⟩ = some (.int .i64 mi) := (blk_cell bd7 4).trans rfl; have c5w7 : w7.cell? ⟨gd, 5, none⟩ = some (.int .i64 se) := (blk_cell bd7 5).trans rfl)
        | (go_at_call 109; refine (ref_months _).mono ?_; rintro e w8 ⟨rfl, hg4, hb8⟩; have hg3 := blk_below hg2 hb8; have hx3 : w8.cell? ⟨w1.heap.size, wd.toNat, none⟩ = some (.string DS) := (blk_cell hg3 wd.toNat).trans HDc.out; have hy : w8.cell? ⟨w7.heap.size, m.toNat - 1, none⟩ = some (.string MS) := (blk_cell hg4 (m.toNat - 1)).trans HMc.out; have bd8 := blk_below bd7 hb8; have hB8 := below_step hB7 hb8; have c0w8 : w8.cell? ⟨gd, 0, none⟩ = some (.int .i64 y) := (blk_cell bd8 0).trans rfl; have c1w8 : w8.cell? ⟨gd, 1, none⟩ = some (.int .i64 m) := (blk_cell bd8 1).trans rfl; have c2w8 : w8.cell? ⟨gd, 2, none⟩ = some (.int .i64 d) := (blk_cell bd8 2).trans rfl; have c3w8 : w8.cell? ⟨gd, 3, none⟩ = some (.int .i64 h') := (blk_cell bd8 3).trans rfl; have c4w8 : w8.cell? ⟨gd, 4, none⟩ = some (.int .i64 mi) := (blk_cell bd8 4).trans rfl; have c5w8 : w8.cell? ⟨gd, 5, none⟩ = some (.int .i64 se) := (blk_cell bd8 5).trans rfl))
    all_goals
      have BD3 := Aside0.mk bd8
      have HB3 := Aside0.mk hB8
      clear hg1 hg2 hg3 hg4 hx hx2 hx3 hy hB6 hB7 hB8 bd6 bd7 bd8 hb hb7 hb8
      clear c0w1 c1w1 c2w1 c3w1 c4w1 c5w1 c0w6 c1w6 c2w6 c3w6 c4w6 c5w6 c0w7 c1w7 c2w7 c3w7 c4w7 c5w7 c0w8 c1w8 c2w8 c3w8 c4w8 c5w8
      go_wp2
      go_meet
      case rel => exact ⟨rfl, rfl, BD3, HB3⟩
  case rest =>
    clear BD1 HB1 i0 i1 hwm hw0 hw1 hm0 hm1
    obtain ⟨rfl, rfl, BD, HB⟩ := hcut
    have hms := HMz.out
    have hds := HDz.out
    have zc := ZC.out
    rcases HR.out with ⟨hf, pd, py, hpd, hpy, zd, zy, hRe⟩ | ⟨hf, pd, py, hpd, hpy, zd, zy, hRe⟩ | ⟨hf, hf2, pd, X, py, hpd, hpy, zd, zy, hX, hRe⟩
    all_goals clear HR
    · subst hf
      have HPd := Aside0.mk hpd
      have HPy := Aside0.mk hpy
      have HRe := Aside0.mk hRe
      clear hpd hpy hRe
      have hs3 : (DS.extract 0 3).size = 3 := by rw [ByteArray.size_extract]; omega
      have hs4 : (3 : Int) ≤ (DS.size : Int) := by omega
      have hs5 : decide ((DS.size : Int) < 3) = false := decide_eq_false (by omega)
      have hs6 : ((DS.size : Int) < 3) = False := eq_false (by omega)
      obtain ⟨q0, n0⟩ := fit (show 3 + 2 ≤ 1000000 by omega)
      obtain ⟨q1, n1⟩ := fit (show 3 + 2 + pd.size ≤ 1000000 by omega)
      obtain ⟨q2, n2⟩ := fit (show 3 + 2 + pd.size + 1 ≤ 1000000 by omega)
      obtain ⟨q3, n3⟩ := fit (show 3 + 2 + pd.size + 1 + MS.size ≤ 1000000 by omega)
      obtain ⟨q4, n4⟩ := fit (show 3 + 2 + pd.size + 1 + MS.size + 1 ≤ 1000000 by omega)
      obtain ⟨q5, n5⟩ := fit (show 3 + 2 + pd.size + 1 + MS.size + 1 + py.size ≤ 1000000 by omega)
      obtain ⟨q6, n6⟩ := fit (show 3 + 2 + pd.size + 1 + MS.size + 1 + py.size + 1 ≤ 1000000 by omega)
      obtain ⟨q7, n7⟩ := fit (show 3 + 2 + pd.size + 1 + MS.size + 1 + py.size + 1 + cl.size ≤ 1000000 by omega)
      obtain ⟨q8, n8⟩ := fit (show 3 + 2 + pd.size + 1 + MS.size + 1 + py.size + 1 + cl.size + 4 ≤ 1000000 by omega)
      obtain ⟨p0, m0⟩ := fit (show (DS.extract 0 3).size + 2 ≤ 1000000 by omega)
      obtain ⟨p1, m1⟩ := fit (show (DS.extract 0 3).size + 2 + pd.size ≤ 1000000 by omega)
      obtain ⟨p2, m2⟩ := fit (show (DS.extract 0 3).size + 2 + pd.size + 1 ≤ 1000000 by omega)
      obtain ⟨p3, m3⟩ := fit (show (DS.extract 0 3).size + 2 + pd.size + 1 + MS.size ≤ 1000000 by omega)
      obtain ⟨p4, m4⟩ := fit (show (DS.extract 0 3).size + 2 + pd.size + 1 + MS.size + 1 ≤ 1000000 by omega)
      obtain ⟨p5, m5⟩ := fit (show (DS.extract 0 3).size + 2 + pd.size + 1 + MS.size + 1 + py.size ≤ 1000000 by omega)
      obtain ⟨p6, m6⟩ := fit (show (DS.extract 0 3).size + 2 + pd.size + 1 + MS.size + 1 + py.size + 1 ≤ 1000000 by omega)
      obtain ⟨p7, m7⟩ := fit (show (DS.extract 0 3).size + 2 + pd.size + 1 + MS.size + 1 + py.size + 1 + cl.size ≤ 1000000 by omega)
      obtain ⟨p8, m8⟩ := fit (show (DS.extract 0 3).size + 2 + pd.size + 1 + MS.size + 1 + py.size + 1 + cl.size + 4 ≤ 1000000 by omega)
      clear hms zd zy zc hs3
      go_wp2_with fail
      go_region_held3 (fun w' => w'.cell? ⟨gd, 0, none⟩ = some (.int .i64 y) ∧ w'.cell? ⟨gd, 1, none⟩ = some (.int .i64 m) ∧ w'.cell? ⟨gd, 2, none⟩ = some (.int .i64 d) ∧ w'.cell? ⟨gd, 3, none⟩ = some (.int .i64 h') ∧ w'.cell? ⟨gd, 4, none⟩ = some (.int .i64 mi) ∧ w'.cell? ⟨gd, 5, none⟩ = some (.int .i64 se) ∧ w'.heap[gd]? = some (.cells #[.int .i64 y, .int .i64 m, .int .i64 d, .int .i64 h', .int .i64 mi, .int .i64 se] 75 (0, 0)) ∧ Below w.heap.size w w')
        (first | exact ⟨(blk_cell BD.out 0).trans rfl, (blk_cell BD.out 1).trans rfl, (blk_cell BD.out 2).trans rfl, (blk_cell BD.out 3).trans rfl, (blk_cell BD.out 4).trans rfl, (blk_cell BD.out 5).trans rfl, BD.out, below_drew1 HB.out⟩ | assumption | (go_split_ands; exact ⟨(blk_cell (blk_below (by assumption) hb) 0).trans rfl, (blk_cell (blk_below (by assumption) hb) 1).trans rfl, (blk_cell (blk_below (by assumption) hb) 2).trans rfl, (blk_cell (blk_below (by assumption) hb) 3).trans rfl, (blk_cell (blk_below (by assumption) hb) 4).trans rfl, (blk_cell (blk_below (by assumption) hb) 5).trans rfl, blk_below (by assumption) hb, below_step (by assumption) hb⟩) | (go_split_ands; exact ⟨(blk_cell (by assumption) 0).trans rfl, (blk_cell (by assumption) 1).trans rfl, (blk_cell (by assumption) 2).trans rfl, (blk_cell (by assumption) 3).trans rfl, (blk_cell (by assumption) 4).trans rfl, (blk_cell (by assumption) 5).trans rfl, by assumption, pw_below_drewN (by first | exact HB.out | assumption) _⟩))
        ((first | (go_at_call 110; (first | ((with_reducible refine (abutmentref02_Pad.calls k d 2 pd _ HPd.out).mono ?_); rintro e wa ⟨rfl, ⟨nd, rfl⟩⟩) | ((with_reducible refine (abutmentref02_Pad.calls k y 4 py _ HPy.out).mono ?_); rintro e wa ⟨rfl, ⟨nd, rfl⟩⟩))) | (go_at_call 111; ((with_reducible refine (abutmentref06_clock.calls k y m d h' mi se cl _ HCl.out).mono ?_); rintro e wa ⟨rfl, hb⟩))))
      all_goals
        rename_i hHeld
        have HB3 := Aside0.mk hHeld.2.2.2.2.2.2.2
        clear hHeld
        go_wp2
        exact bodyPost_ret (v := .string ((((((((((DS.extract 0 3 ++ ⟨#[44, 32]⟩) ++ pd) ++ ⟨#[32]⟩) ++ MS) ++ ⟨#[32]⟩) ++ py) ++ ⟨#[32]⟩) ++ cl) ++ ⟨#[32, 71, 77, 84]⟩))) (by simp [results, Try.results55, go_sem]) rfl ⟨by rw [HRe.out], HB3.out⟩
    · subst hf
      have HPd := Aside0.mk hpd
      have HPy := Aside0.mk hpy
      have HRe := Aside0.mk hRe
      clear hpd hpy hRe
      obtain ⟨q0, n0⟩ := fit (show DS.size + 2 ≤ 1000000 by omega)
      obtain ⟨q1, n1⟩ := fit (show DS.size + 2 + pd.size ≤ 1000000 by omega)
      obtain ⟨q2, n2⟩ := fit (show DS.size + 2 + pd.size + 1 ≤ 1000000 by omega)
      obtain ⟨q3, n3⟩ := fit (show DS.size + 2 + pd.size + 1 + MS.size ≤ 1000000 by omega)
      obtain ⟨q4, n4⟩ := fit (show DS.size + 2 + pd.size + 1 + MS.size + 1 ≤ 1000000 by omega)
      obtain ⟨q5, n5⟩ := fit (show DS.size + 2 + pd.size + 1 + MS.size + 1 + py.size ≤ 1000000 by omega)
      obtain ⟨q6, n6⟩ := fit (show DS.size + 2 + pd.size + 1 + MS.size + 1 + py.size + 1 ≤ 1000000 by omega)
      obtain ⟨q7, n7⟩ := fit (show DS.size + 2 + pd.size + 1 + MS.size + 1 + py.size + 1 + cl.size ≤ 1000000 by omega)
      obtain ⟨q8, n8⟩ := fit (show DS.size + 2 + pd.size + 1 + MS.size + 1 + py.size + 1 + cl.size + 4 ≤ 1000000 by omega)
      clear hms hds zd zy zc
      go_wp2_with fail
      go_region_held3 (fun w' => w'.cell? ⟨gd, 0, none⟩ = some (.int .i64 y) ∧ w'.cell? ⟨gd, 1, none⟩ = some (.int .i64 m) ∧ w'.cell? ⟨gd, 2, none⟩ = some (.int .i64 d) ∧ w'.cell? ⟨gd, 3, none⟩ = some (.int .i64 h') ∧ w'.cell? ⟨gd, 4, none⟩ = some (.int .i64 mi) ∧ w'.cell? ⟨gd, 5, none⟩ = some (.int .i64 se) ∧ w'.heap[gd]? = some (.cells #[.int .i64 y, .int .i64 m, .int .i64 d, .int .i64 h', .int .i64 mi, .int .i64 se] 75 (0, 0)) ∧ Below w.heap.size w w')
        (first | exact ⟨(blk_cell BD.out 0).trans rfl, (blk_cell BD.out 1).trans rfl, (blk_cell BD.out 2).trans rfl, (blk_cell BD.out 3).trans rfl, (blk_cell BD.out 4).trans rfl, (blk_cell BD.out 5).trans rfl, BD.out, below_drew1 HB.out⟩ | assumption | (go_split_ands; exact ⟨(blk_cell (blk_below (by assumption) hb) 0).trans rfl, (blk_cell (blk_below (by assumption) hb) 1).trans rfl, (blk_cell (blk_below (by assumption) hb) 2).trans rfl, (blk_cell (blk_below (by assumption) hb) 3).trans rfl, (blk_cell (blk_below (by assumption) hb) 4).trans rfl, (blk_cell (blk_below (by assumption) hb) 5).trans rfl, blk_below (by assumption) hb, below_step (by assumption) hb⟩) | (go_split_ands; exact ⟨(blk_cell (by assumption) 0).trans rfl, (blk_cell (by assumption) 1).trans rfl, (blk_cell (by assumption) 2).trans rfl, (blk_cell (by assumption) 3).trans rfl, (blk_cell (by assumption) 4).trans rfl, (blk_cell (by assumption) 5).trans rfl, by assumption, pw_below_drewN (by first | exact HB.out | assumption) _⟩))
        ((first | (go_at_call 110; (first | ((with_reducible refine (abutmentref02_Pad.calls k d 2 pd _ HPd.out).mono ?_); rintro e wa ⟨rfl, ⟨nd, rfl⟩⟩) | ((with_reducible refine (abutmentref02_Pad.calls k (Int.tmod y 100) 2 py _ HPy.out).mono ?_); rintro e wa ⟨rfl, ⟨nd, rfl⟩⟩))) | (go_at_call 111; ((with_reducible refine (abutmentref06_clock.calls k y m d h' mi se cl _ HCl.out).mono ?_); rintro e wa ⟨rfl, hb⟩))))
      all_goals
        rename_i hHeld
        have HB3 := Aside0.mk hHeld.2.2.2.2.2.2.2
        clear hHeld
        go_wp2
        exact bodyPost_ret (v := .string (((((((((DS ++ ⟨#[44, 32]⟩) ++ pd) ++ ⟨#[45]⟩) ++ MS) ++ ⟨#[45]⟩) ++ py) ++ ⟨#[32]⟩) ++ cl) ++ ⟨#[32, 71, 77, 84]⟩)) (by simp [results, Try.results55, go_sem]) rfl ⟨by rw [HRe.out], HB3.out⟩
    · have f1 : (form == 1) = false := beq_eq_false_iff_ne.2 hf
      have f2 : (form == 2) = false := beq_eq_false_iff_ne.2 hf2
      have hX0 : X.size ≤ 1001 ∧ 1 + pd.size ≤ 9223372036854775807 := by
        rcases hX with ⟨_, rfl⟩ | ⟨_, rfl⟩
        · refine ⟨?_, by omega⟩
          rw [ByteArray.size_append]
          show 1 + pd.size ≤ 1001
          omega
        · exact ⟨by omega, by omega⟩
      obtain ⟨hX0, hX1⟩ := hX0
      have hX2 : (⟨#[32]⟩ : ByteArray).size + pd.size ≤ 9223372036854775807 := hX1
      have HPd := Aside0.mk hpd
      have HPy := Aside0.mk hpy
      have HRe := Aside0.mk hRe
      clear hpd hpy hRe
      have hs3 : (DS.extract 0 3).size = 3 := by rw [ByteArray.size_extract]; omega
      have hs4 : (3 : Int) ≤ (DS.size : Int) := by omega
      have hs5 : decide ((DS.size : Int) < 3) = false := decide_eq_false (by omega)
      have hs6 : ((DS.size : Int) < 3) = False := eq_false (by omega)
      obtain ⟨q0, n0⟩ := fit (show 3 + 1 ≤ 1000000 by omega)
      obtain ⟨q1, n1⟩ := fit (show 3 + 1 + MS.size ≤ 1000000 by omega)
      obtain ⟨q2, n2⟩ := fit (show 3 + 1 + MS.size + 1 ≤ 1000000 by omega)
      obtain ⟨q3, n3⟩ := fit (show 3 + 1 + MS.size + 1 + X.size ≤ 1000000 by omega)
      obtain ⟨q4, n4⟩ := fit (show 3 + 1 + MS.size + 1 + X.size + 1 ≤ 1000000 by omega)
      obtain ⟨q5, n5⟩ := fit (show 3 + 1 + MS.size + 1 + X.size + 1 + cl.size ≤ 1000000 by omega)
      obtain ⟨q6, n6⟩ := fit (show 3 + 1 + MS.size + 1 + X.size + 1 + cl.size + 1 ≤ 1000000 by omega)
      obtain ⟨q7, n7⟩ := fit (show 3 + 1 + MS.size + 1 + X.size + 1 + cl.size + 1 + py.size ≤ 1000000 by omega)
      obtain ⟨p0, m0⟩ := fit (show (DS.extract 0 3).size + 1 ≤ 1000000 by omega)
      obtain ⟨p1, m1⟩ := fit (show (DS.extract 0 3).size + 1 + MS.size ≤ 1000000 by omega)
      obtain ⟨p2, m2⟩ := fit (show (DS.extract 0 3).size + 1 + MS.size + 1 ≤ 1000000 by omega)
      obtain ⟨p3, m3⟩ := fit (show (DS.extract 0 3).size + 1 + MS.size + 1 + X.size ≤ 1000000 by omega)
      obtain ⟨p4, m4⟩ := fit (show (DS.extract 0 3).size + 1 + MS.size + 1 + X.size + 1 ≤ 1000000 by omega)
      obtain ⟨p5, m5⟩ := fit (show (DS.extract 0 3).size + 1 + MS.size + 1 + X.size + 1 + cl.size ≤ 1000000 by omega)
      obtain ⟨p6, m6⟩ := fit (show (DS.extract 0 3).size + 1 + MS.size + 1 + X.size + 1 + cl.size + 1 ≤ 1000000 by omega)
      obtain ⟨p7, m7⟩ := fit (show (DS.extract 0 3).size + 1 + MS.size + 1 + X.size + 1 + cl.size + 1 + py.size ≤ 1000000 by omega)
      have hc2 : wc.cell? ⟨gd, 2, none⟩ = some (.int .i64 d) := (blk_cell BD.out 2).trans rfl
      clear hms zd zy zc hs3 hf hf2 hX0
      go_wp2_with fail
      ((with_reducible refine (abutmentref02_Pad.calls k d 1 pd _ HPd.out).mono ?_))
      rintro e wa ⟨rfl, ⟨nd, rfl⟩⟩
      go_upto_region 7 with (fail)
      refine world_gen (fun w' => w'.heap[gd]? = some (.cells #[.int .i64 y, .int .i64 m, .int .i64 d, .int .i64 h', .int .i64 mi, .int .i64 se] 75 (0, 0)) ∧ Below w.heap.size w w') ⟨blk_drewN BD.out nd, pw_below_drewN HB.out nd⟩ ?_
      rintro w2 ⟨b1, b2⟩
      have BD2 := Aside0.mk b1
      have HB2 := Aside0.mk b2
      have hc3 : w2.cell? ⟨gd, 2, none⟩ = some (.int .i64 d) := (blk_cell b1 2).trans rfl
      clear b1 b2 BD HB hc2
      rcases hX with ⟨hd, hX⟩ | ⟨hd, hX⟩
      · have hdd : decide (d < 10) = true := decide_eq_true (by omega)
        clear hd
        have HX := Aside0.mk hX
        clear hX
        go_upto_region 9 with (fail)
        rw [← HX.out]
        go_region_held3 (fun w' => w'.cell? ⟨gd, 0, none⟩ = some (.int .i64 y) ∧ w'.cell? ⟨gd, 1, none⟩ = some (.int .i64 m) ∧ w'.cell? ⟨gd, 2, none⟩ = some (.int .i64 d) ∧ w'.cell? ⟨gd, 3, none⟩ = some (.int .i64 h') ∧ w'.cell? ⟨gd, 4, none⟩ = some (.int .i64 mi) ∧ w'.cell? ⟨gd, 5, none⟩ = some (.int .i64 se) ∧ w'.heap[gd]? = some (.cells #[.int .i64 y, .int .i64 m, .int .i64 d, .int .i64 h', .int .i64 mi, .int .i64 se] 75 (0, 0)) ∧ Below w.heap.size w w')
          (first | exact ⟨(blk_cell BD2.out 0).trans rfl, (blk_cell BD2.out 1).trans rfl, (blk_cell BD2.out 2).trans rfl, (blk_cell BD2.out 3).trans rfl, (blk_cell BD2.out 4).trans rfl, (blk_cell BD2.out 5).trans rfl, BD2.out, below_drew1 HB2.out⟩ | assumption | (go_split_ands; exact ⟨(blk_cell (blk_below (by assumption) hb) 0).trans rfl, (blk_cell (blk_below (by assumption) hb) 1).trans rfl, (blk_cell (blk_below (by assumption) hb) 2).trans rfl, (blk_cell (blk_below (by assumption) hb) 3).trans rfl, (blk_cell (blk_below (by assumption) hb) 4).trans rfl, (blk_cell (blk_below (by assumption) hb) 5).trans rfl, blk_below (by assumption) hb, below_step (by assumption) hb⟩) | (go_split_ands; exact ⟨(blk_cell (by assumption) 0).trans rfl, (blk_cell (by assumption) 1).trans rfl, (blk_cell (by assumption) 2).trans rfl, (blk_cell (by assumption) 3).trans rfl, (blk_cell (by assumption) 4).trans rfl, (blk_cell (by assumption) 5).trans rfl, by assumption, pw_below_drewN (by first | exact HB2.out | assumption) _⟩))
          ((first | (go_at_call 110; (first | ((with_reducible refine (abutmentref02_Pad.calls k y 4 py _ HPy.out).mono ?_); rintro e wa ⟨rfl, ⟨nd, rfl⟩⟩))) | (go_at_call 111; ((with_reducible refine (abutmentref06_clock.calls k y m d h' mi se cl _ HCl.out).mono ?_); rintro e wa ⟨rfl, hb⟩))))
        all_goals
          rename_i hHeld
          have HB3 := Aside0.mk hHeld.2.2.2.2.2.2.2
          clear hHeld
          go_wp2
          exact bodyPost_ret (v := .string ((((((((DS.extract 0 3 ++ ⟨#[32]⟩) ++ MS) ++ ⟨#[32]⟩) ++ X) ++ ⟨#[32]⟩) ++ cl) ++ ⟨#[32]⟩) ++ py)) (by simp [results, Try.results55, go_sem]) rfl ⟨by rw [HRe.out], HB3.out⟩
      · have hdd : decide (d < 10) = false := decide_eq_false (by omega)
        clear hd
        have HX := Aside0.mk hX
        clear hX
        go_upto_region 9 with (fail)
        rw [← HX.out]
        go_region_held3 (fun w' => w'.cell? ⟨gd, 0, none⟩ = some (.int .i64 y) ∧ w'.cell? ⟨gd, 1, none⟩ = some (.int .i64 m) ∧ w'.cell? ⟨gd, 2, none⟩ = some (.int .i64 d) ∧ w'.cell? ⟨gd, 3, none⟩ = some (.int .i64 h') ∧ w'.cell? ⟨gd, 4, none⟩ = some (.int .i64 mi) ∧ w'.cell? ⟨gd, 5, none⟩ = some (.int .i64 se) ∧ w'.heap[gd]? = some (.cells #[.int .i64 y, .int .i64 m, .int .i64 d, .int .i64 h', .int .i64 mi, .int .i64 se] 75 (0, 0)) ∧ Below w.heap.size w w')
          (first | exact ⟨(blk_cell BD2.out 0).trans rfl, (blk_cell BD2.out 1).trans rfl, (blk_cell BD2.out 2).trans rfl, (blk_cell BD2.out 3).trans rfl, (blk_cell BD2.out 4).trans rfl, (blk_cell BD2.out 5).trans rfl, BD2.out, below_drew1 HB2.out⟩ | assumption | (go_split_ands; exact ⟨(blk_cell (blk_below (by assumption) hb) 0).trans rfl, (blk_cell (blk_below (by assumption) hb) 1).trans rfl, (blk_cell (blk_below (by assumption) hb) 2).trans rfl, (blk_cell (blk_below (by assumption) hb) 3).trans rfl, (blk_cell (blk_below (by assumption) hb) 4).trans rfl, (blk_cell (blk_below (by assumption) hb) 5).trans rfl, blk_below (by assumption) hb, below_step (by assumption) hb⟩) | (go_split_ands; exact ⟨(blk_cell (by assumption) 0).trans rfl, (blk_cell (by assumption) 1).trans rfl, (blk_cell (by assumption) 2).trans rfl, (blk_cell (by assumption) 3).trans rfl, (blk_cell (by assumption) 4).trans rfl, (blk_cell (by assumption) 5).trans rfl, by assumption, pw_below_drewN (by first | exact HB2.out | assumption) _⟩))
          ((first | (go_at_call 110; (first | ((with_reducible refine (abutmentref02_Pad.calls k y 4 py _ HPy.out).mono ?_); rintro e wa ⟨rfl, ⟨nd, rfl⟩⟩))) | (go_at_call 111; ((with_reducible refine (abutmentref06_clock.calls k y m d h' mi se cl _ HCl.out).mono ?_); rintro e wa ⟨rfl, hb⟩))))
        all_goals
          rename_i hHeld
          have HB3 := Aside0.mk hHeld.2.2.2.2.2.2.2
          clear hHeld
          go_wp2
          exact bodyPost_ret (v := .string ((((((((DS.extract 0 3 ++ ⟨#[32]⟩) ++ MS) ++ ⟨#[32]⟩) ++ X) ++ ⟨#[32]⟩) ++ cl) ++ ⟨#[32]⟩) ++ py)) (by simp [results, Try.results55, go_sem]) rfl ⟨by rw [HRe.out], HB3.out⟩
def abutmentref06_Write.f (k : Nat) (a0 a1 a2 a3 a4 a5 a6 : Int) : Option ByteArray :=
  (abutmentref06_day.f k a0 a1 a2 a3 a4 a5).bind fun wd => (abutmentref06_clock.f k a0 a1 a2 a3 a4 a5).bind fun cl => if (0 ≤ wd ∧ wd < 7) ∧ (1 ≤ a1 ∧ a1 ≤ 12) ∧ cl.size ≤ 4000 then
    (if a6 = 1 then (abutmentref02_Pad.f k a2 2).bind fun pd => (abutmentref02_Pad.f k a0 4).bind fun py => if pd.size ≤ 1000 ∧ py.size ≤ 1000 then some (write1 wd a1 pd py cl) else none
    else if a6 = 2 then (abutmentref02_Pad.f k a2 2).bind fun pd => (abutmentref02_Pad.f k (Int.tmod a0 100) 2).bind fun py => if pd.size ≤ 1000 ∧ py.size ≤ 1000 then some (write2 wd a1 pd py cl) else none
    else (abutmentref02_Pad.f k a2 1).bind fun pd => (abutmentref02_Pad.f k a0 4).bind fun py => if pd.size ≤ 1000 ∧ py.size ≤ 1000 then some (write3 wd a1 (if a2 < 10 then ⟨#[32]⟩ ++ pd else pd) py cl) else none)
  else none
theorem abutmentref06_Write.calls (k : Nat) (a0_0 : Int) (a0_1 : Int) (a0_2 : Int) (a0_3 : Int) (a0_4 : Int) (a0_5 : Int) (a1 : Int) (r : ByteArray) (w : World) (h : abutmentref06_Write.f k a0_0 a0_1 a0_2 a0_3 a0_4 a0_5 a1 = some r) :
    Calls Try.prog 55 #[.agg #[.int .i64 a0_0, .int .i64 a0_1, .int .i64 a0_2, .int .i64 a0_3, .int .i64 a0_4, .int .i64 a0_5], .int .i64 a1] w fun e w' => e = .returned (.string r) ∧ Below w.heap.size w w' := by
  unfold abutmentref06_Write.f at h
  obtain ⟨wd, hwd, h⟩ := Option.bind_eq_some_iff.mp h
  obtain ⟨cl, hcl, h⟩ := Option.bind_eq_some_iff.mp h
  split at h
  · rename_i hg
    obtain ⟨⟨g1, g2⟩, ⟨g3, g4⟩, g5⟩ := hg
    refine write_walk k a0_0 a0_1 a0_2 a0_3 a0_4 a0_5 wd a1 cl _ _ r w hwd g1 g2 g3 g4 rfl rfl hcl g5 ?_
    by_cases c1 : a1 = 1
    · rw [if_pos c1] at h
      obtain ⟨pd, hpd, h⟩ := Option.bind_eq_some_iff.mp h
      obtain ⟨py, hpy, h⟩ := Option.bind_eq_some_iff.mp h
      split at h
      · rename_i hz
        exact .inl ⟨c1, pd, py, hpd, hpy, hz.1, hz.2, (Option.some.inj h).symm⟩
      · exact absurd h (by simp)
    · rw [if_neg c1] at h
      by_cases c2 : a1 = 2
      · rw [if_pos c2] at h
        obtain ⟨pd, hpd, h⟩ := Option.bind_eq_some_iff.mp h
        obtain ⟨py, hpy, h⟩ := Option.bind_eq_some_iff.mp h
        split at h
        · rename_i hz
          exact .inr (.inl ⟨c2, pd, py, hpd, hpy, hz.1, hz.2, (Option.some.inj h).symm⟩)
        · exact absurd h (by simp)
      · rw [if_neg c2] at h
        obtain ⟨pd, hpd, h⟩ := Option.bind_eq_some_iff.mp h
        obtain ⟨py, hpy, h⟩ := Option.bind_eq_some_iff.mp h
        split at h
        · rename_i hz
          refine .inr (.inr ⟨c1, c2, pd, _, py, hpd, hpy, hz.1, hz.2, ?_, (Option.some.inj h).symm⟩)
          by_cases c3 : a0_2 < 10
          · exact .inl ⟨c3, if_pos c3⟩
          · exact .inr ⟨c3, if_neg c3⟩
        · exact absurd h (by simp)
  · exact absurd h (by simp)
end Go.Proofs.Ytjnhghplfdiijaa.Q

namespace Go.Proofs.Ytjnhghplfdiijaa.Q
open Go.RowKit Go.Proofs.YtjnhghplfdiijaaW.PrintWords Go.Proofs.YtjnhghplfdiijaaW.PrintLast Go.Proofs.YtjnhghplfdiijaaW.PrintMore
attribute [local go_sem] max2_int min2_int max_two min_two max_three min_three max_four min_four
set_option linter.unusedVariables false
set_option linter.unusedSimpArgs false
def abutmentref06_Print.f (k : Nat) (a0 : Int) : Option (ByteArray) := (abutmentref05_Date.f k a0).bind fun bt101 => (if bt101.2.2.2.2.2.2 = true then ((abutmentref06_Write.f k bt101.1 bt101.2.1 bt101.2.2.1 bt101.2.2.2.1 bt101.2.2.2.2.1 bt101.2.2.2.2.2.1 1).bind fun t109 => (some t109)) else (some (⟨#[]⟩ : ByteArray)))
set_option maxHeartbeats 8000000 in
set_option maxRecDepth 100000 in
theorem abutmentref06_Print.calls (k : Nat) (a0 : Int) (r : ByteArray) (w : World) (h : abutmentref06_Print.f k a0 = some r) :
    Calls Try.prog 53 #[.int .i64 a0] w fun e w' => e = .returned (.string r) ∧ Below w.heap.size w w' := by
  have hu75 := Try.underlying75
  have HB := Aside0.mk (Below.refl w.heap.size w)
  have H : ((abutmentref05_Date.f k a0).bind fun bt101 => (if bt101.2.2.2.2.2.2 = true then ((abutmentref06_Write.f k bt101.1 bt101.2.1 bt101.2.2.1 bt101.2.2.2.1 bt101.2.2.2.2.1 bt101.2.2.2.2.2.1 1).bind fun t109 => (some t109)) else (some (⟨#[]⟩ : ByteArray)))) = some r := h
  clear h
  replace H := Option.bind_eq_some_iff.mp H
  obtain ⟨⟨t101, t102, t103, t104, t105, t106, t107⟩, A20, H⟩ := H
  (try dsimp only at H)
  have A2 := Aside0.mk A20
  clear A20
  by_cases c3 : t107 = true
  · subst c3
    have H1 : ((abutmentref06_Write.f k t101 t102 t103 t104 t105 t106 1).bind fun t109 => (some t109)) = some r := by rw [if_pos rfl] at H; exact H
    clear H
    have H := H1
    clear H1
    replace H := Option.bind_eq_some_iff.mp H
    obtain ⟨t109, A40, H⟩ := H
    (try dsimp only at H)
    have A4 := Aside0.mk A40
    clear A40
    obtain rfl := Option.some.inj H
    go_enter Try.func53, Try.ntmps53
    go_wp2_with (first | ((with_reducible refine gate_callee (f := 54) rfl ?_); refine goesL_ (some 7) rfl rfl Try.func54 (by kernel_rfl) rfl #[.int .i64 a0] rfl (by (try simp only [List.map_toArray, List.map_cons, List.map_nil]); first | done | rfl | (simp only [List.length_drop, List.length_take]; rfl)) ?_; (with_reducible refine (abutmentref05_Date.calls k a0 t101 t102 t103 t104 t105 t106 true _ A2.out).mono ?_); rintro e w5 ⟨rfl, hb⟩; refine ⟨_, rfl, ?_⟩; have n0_ := Aside0.mk (below_step (by repeat (first | (with_reducible first | exact HB.out | apply below_alloc | apply pw_below_drewN | apply below_drew1) | exact HB.out)) hb); clear HB; have HB := n0_; clear n0_; (try clear hb); (try clear hb2); (try clear hk); (try clear hi)) | ((with_reducible refine gate_dst (N := 3) rfl ?_); refine box_event ?hg (N := 3) ?hd (cs := #[.int .i64 0, .int .i64 0, .int .i64 0, .int .i64 0, .int .i64 0, .int .i64 0]) (t := 75) ?hr ?_; (case hd => rfl); (case hg => rfl); (case hr => first | (go_simp; done) | (go_simp; rfl)); intro gb108 hg w6 hbox hb; have n0_ := Aside0.mk (below_step (by repeat (first | (with_reducible first | exact HB.out | apply below_alloc | apply pw_below_drewN | apply below_drew1) | exact HB.out)) hb); have n1_ := Aside0.mk (hbox); have n2_ := Aside0.mk ((by rw [hg]; exact (below_size (by repeat (first | (with_reducible first | exact HB.out | apply below_alloc | apply pw_below_drewN | apply below_drew1) | exact HB.out))) : w.heap.size ≤ gb108)); have n3_ := Aside0.mk ((by rw [hg]; exact (below_size (by repeat (first | (with_reducible first | exact HB.out | apply below_alloc | apply pw_below_drewN | apply below_drew1) | exact HB.out))) : w.heap.size ≤ gb108)); clear HB; have HB := n0_; have BK108 := n1_; have GW108 := n2_; have GE108 := n3_; clear n0_ n1_ n2_ n3_; clear hb hbox hg; have hcz7_0 : w6.cell? ⟨gb108, 0, none⟩ = some (.int .i64 0) := (blk_cell BK108.out 0).trans rfl; have hcz7_1 : w6.cell? ⟨gb108, 1, none⟩ = some (.int .i64 0) := (blk_cell BK108.out 1).trans rfl; have hcz7_2 : w6.cell? ⟨gb108, 2, none⟩ = some (.int .i64 0) := (blk_cell BK108.out 2).trans rfl; have hcz7_3 : w6.cell? ⟨gb108, 3, none⟩ = some (.int .i64 0) := (blk_cell BK108.out 3).trans rfl; have hcz7_4 : w6.cell? ⟨gb108, 4, none⟩ = some (.int .i64 0) := (blk_cell BK108.out 4).trans rfl; have hcz7_5 : w6.cell? ⟨gb108, 5, none⟩ = some (.int .i64 0) := (blk_cell BK108.out 5).trans rfl; have hfz7_0 := blk_frozen BK108.out 0; have hfz7_1 := blk_frozen BK108.out 1; have hfz7_2 := blk_frozen BK108.out 2; have hfz7_3 := blk_frozen BK108.out 3; have hfz7_4 := blk_frozen BK108.out 4; have hfz7_5 := blk_frozen BK108.out 5) | ((with_reducible refine gate_callee (f := 55) rfl ?_); refine goesL_ (some 13) rfl rfl Try.func55 (by kernel_rfl) rfl #[.agg #[.int .i64 t101, .int .i64 t102, .int .i64 t103, .int .i64 t104, .int .i64 t105, .int .i64 t106], .int .i64 1] rfl (by (try simp only [List.map_toArray, List.map_cons, List.map_nil]); first | done | rfl | (simp only [List.length_drop, List.length_take]; rfl)) ?_; (with_reducible refine (abutmentref06_Write.calls k t101 t102 t103 t104 t105 t106 1 t109 _ A4.out).mono ?_); rintro e w8 ⟨rfl, hb⟩; refine ⟨_, rfl, ?_⟩; have n0_ := Aside0.mk (blk_below (g := gb108) (o := .cells #[.int .i64 t101, .int .i64 t102, .int .i64 t103, .int .i64 t104, .int .i64 t105, .int .i64 t106] 75 (0, 0)) (by (with_reducible repeat (first | refine blk_drewN ?_ _ | refine blk_drew ?_ | refine blk_alloc ?_ _)); refine blk_put (cs := #[.int .i64 t101, .int .i64 t102, .int .i64 t103, .int .i64 t104, .int .i64 t105, .int .i64 0]) ?_ 5 _ rfl; (with_reducible repeat (first | refine blk_drewN ?_ _ | refine blk_drew ?_ | refine blk_alloc ?_ _)); refine blk_put (cs := #[.int .i64 t101, .int .i64 t102, .int .i64 t103, .int .i64 t104, .int .i64 0, .int .i64 0]) ?_ 4 _ rfl; (with_reducible repeat (first | refine blk_drewN ?_ _ | refine blk_drew ?_ | refine blk_alloc ?_ _)); refine blk_put (cs := #[.int .i64 t101, .int .i64 t102, .int .i64 t103, .int .i64 0, .int .i64 0, .int .i64 0]) ?_ 3 _ rfl; (with_reducible repeat (first | refine blk_drewN ?_ _ | refine blk_drew ?_ | refine blk_alloc ?_ _)); refine blk_put (cs := #[.int .i64 t101, .int .i64 t102, .int .i64 0, .int .i64 0, .int .i64 0, .int .i64 0]) ?_ 2 _ rfl; (with_reducible repeat (first | refine blk_drewN ?_ _ | refine blk_drew ?_ | refine blk_alloc ?_ _)); refine blk_put (cs := #[.int .i64 t101, .int .i64 0, .int .i64 0, .int .i64 0, .int .i64 0, .int .i64 0]) ?_ 1 _ rfl; (with_reducible repeat (first | refine blk_drewN ?_ _ | refine blk_drew ?_ | refine blk_alloc ?_ _)); refine blk_put (cs := #[.int .i64 0, .int .i64 0, .int .i64 0, .int .i64 0, .int .i64 0, .int .i64 0]) ?_ 0 _ rfl; (with_reducible repeat (first | refine blk_drewN ?_ _ | refine blk_drew ?_ | refine blk_alloc ?_ _)); exact BK108.out) hb); have n1_ := Aside0.mk (below_step (by repeat (first | (with_reducible first | exact HB.out | apply below_alloc | apply pw_below_drewN | apply below_drew1 | refine below_set ?_ GE108.out) | exact HB.out)) hb); clear BK108; clear HB; have BK108 := n0_; have HB := n1_; clear n0_ n1_; (try clear hb); (try clear hb2); (try clear hk); (try clear hi)))
    go_ret
    exact ⟨by first | rfl | (simp [errW_none, errW_some] <;> rfl) | (simp [*, errW_none, errW_some] <;> rfl), by repeat (first | (with_reducible first | exact HB.out | apply below_alloc | apply pw_below_drewN | apply below_drew1 | refine below_set ?_ GE108.out) | exact HB.out)⟩
  · replace c3 := Bool.eq_false_iff.mpr c3
    subst c3
    have H1 : (some (⟨#[]⟩ : ByteArray)) = some r := by rw [if_neg (show ¬ (false = true) by decide)] at H; exact H
    clear H
    have H := H1
    clear H1
    obtain rfl := Option.some.inj H
    go_enter Try.func53, Try.ntmps53
    go_wp2_with (first | ((with_reducible refine gate_callee (f := 54) rfl ?_); refine goesL_ (some 7) rfl rfl Try.func54 (by kernel_rfl) rfl #[.int .i64 a0] rfl (by (try simp only [List.map_toArray, List.map_cons, List.map_nil]); first | done | rfl | (simp only [List.length_drop, List.length_take]; rfl)) ?_; (with_reducible refine (abutmentref05_Date.calls k a0 t101 t102 t103 t104 t105 t106 false _ A2.out).mono ?_); rintro e w9 ⟨rfl, hb⟩; refine ⟨_, rfl, ?_⟩; have n0_ := Aside0.mk (below_step (by repeat (first | (with_reducible first | exact HB.out | apply below_alloc | apply pw_below_drewN | apply below_drew1) | exact HB.out)) hb); clear HB; have HB := n0_; clear n0_; (try clear hb); (try clear hb2); (try clear hk); (try clear hi)) | ((with_reducible refine gate_dst (N := 3) rfl ?_); refine box_event ?hg (N := 3) ?hd (cs := #[.int .i64 0, .int .i64 0, .int .i64 0, .int .i64 0, .int .i64 0, .int .i64 0]) (t := 75) ?hr ?_; (case hd => rfl); (case hg => rfl); (case hr => first | (go_simp; done) | (go_simp; rfl)); intro gb108 hg w10 hbox hb; have n0_ := Aside0.mk (below_step (by repeat (first | (with_reducible first | exact HB.out | apply below_alloc | apply pw_below_drewN | apply below_drew1) | exact HB.out)) hb); have n1_ := Aside0.mk (hbox); have n2_ := Aside0.mk ((by rw [hg]; exact (below_size (by repeat (first | (with_reducible first | exact HB.out | apply below_alloc | apply pw_below_drewN | apply below_drew1) | exact HB.out))) : w.heap.size ≤ gb108)); have n3_ := Aside0.mk ((by rw [hg]; exact (below_size (by repeat (first | (with_reducible first | exact HB.out | apply below_alloc | apply pw_below_drewN | apply below_drew1) | exact HB.out))) : w.heap.size ≤ gb108)); clear HB; have HB := n0_; have BK108 := n1_; have GW108 := n2_; have GE108 := n3_; clear n0_ n1_ n2_ n3_; clear hb hbox hg; have hcz11_0 : w10.cell? ⟨gb108, 0, none⟩ = some (.int .i64 0) := (blk_cell BK108.out 0).trans rfl; have hcz11_1 : w10.cell? ⟨gb108, 1, none⟩ = some (.int .i64 0) := (blk_cell BK108.out 1).trans rfl; have hcz11_2 : w10.cell? ⟨gb108, 2, none⟩ = some (.int .i64 0) := (blk_cell BK108.out 2).trans rfl; have hcz11_3 : w10.cell? ⟨gb108, 3, none⟩ = some (.int .i64 0) := (blk_cell BK108.out 3).trans rfl; have hcz11_4 : w10.cell? ⟨gb108, 4, none⟩ = some (.int .i64 0) := (blk_cell BK108.out 4).trans rfl; have hcz11_5 : w10.cell? ⟨gb108, 5, none⟩ = some (.int .i64 0) := (blk_cell BK108.out 5).trans rfl; have hfz11_0 := blk_frozen BK108.out 0; have hfz11_1 := blk_frozen BK108.out 1; have hfz11_2 := blk_frozen BK108.out 2; have hfz11_3 := blk_frozen BK108.out 3; have hfz11_4 := blk_frozen BK108.out 4; have hfz11_5 := blk_frozen BK108.out 5))
    go_ret
    exact ⟨by first | rfl | (simp [errW_none, errW_some] <;> rfl) | (simp [*, errW_none, errW_some] <;> rfl), by repeat (first | (with_reducible first | exact HB.out | apply below_alloc | apply pw_below_drewN | apply below_drew1 | refine below_set ?_ GE108.out) | exact HB.out)⟩
end Go.Proofs.Ytjnhghplfdiijaa.Q

namespace Go.Proofs.Ytjnhghplfdiijaa.Q
open Go.RowKit Go.Proofs.YtjnhghplfdiijaaW.PrintWords Go.Proofs.YtjnhghplfdiijaaW.PrintLast Go.Proofs.YtjnhghplfdiijaaW.PrintMore
set_option linter.unusedVariables false
set_option linter.unusedSimpArgs false
theorem date_p (s S R : Int) (h0 : -9223372036854775808 ≤ s) (h1 : s ≤ 9223372036854775807) (hS : s / 86400 = S) (hR : s % 86400 = R) (y m d : Int) (b : Bool) (k : Nat) (h : civil_Of.f k S = some (y, m, d, b)) :
    civil_Date.f k s = some (if b = true then (y, m, d, R / 3600, R / 60 % 60, R % 60, true) else (0, 0, 0, 0, 0, 0, false)) := by
  have r0 : 0 ≤ R := by omega
  have r1 : R < 86400 := by omega
  have hb1 : -106751991167301 ≤ S ∧ S ≤ 106751991167300 := by omega
  have d1 := wdm (x := R) (k := 3600) rfl r0 (by omega) (by omega)
  have d2 := wdm (x := R) (k := 60) rfl r0 (by omega) (by omega)
  have d3 := tmm (x := R / 60) (k := 60) rfl (by omega)
  have d4 := tmm (x := R) (k := 60) rfl r0
  unfold civil_Date.f
  rcases tdiv_emod s with ⟨a, c, e⟩ | ⟨a, c, e, g⟩ | ⟨a, c, e, g⟩
  · have e1 := wsm (x := Int.tdiv s 86400) (y := S) (by omega) (by omega) (by omega)
    have e2 : Aside0 (Int.tmod s 86400 = R) := ⟨a.trans hR⟩
    have e3 : Aside0 (Int.tmod s 60 = R % 60) := ⟨by rw [Int.tmod_eq_emod_of_nonneg e]; omega⟩
    rw [e2.out, if_neg (by omega), e1.out, h, e3.out]
    simp only [Option.bind_some, d1.out, d2.out, d3.out]
    cases b <;> rfl
  · have e1 := wsm (x := Int.tdiv s 86400) (y := S) (by omega) (by omega) (by omega)
    have e2 : Aside0 (Int.tmod s 86400 = R) := ⟨by omega⟩
    have e3 : Aside0 (Int.tmod s 60 = R % 60) := ⟨by
      have h60 : (60 : Int) ∣ s := Int.dvd_of_emod_eq_zero (by omega)
      rw [Int.tmod_eq_zero_of_dvd h60]
      omega⟩
    rw [e2.out, if_neg (by omega), e1.out, h, e3.out]
    simp only [Option.bind_some, d1.out, d2.out, d3.out]
    cases b <;> rfl
  · have e1 := wsm (x := Int.tdiv s 86400) (y := S + 1) (by omega) (by omega) (by omega)
    have e4 := wsm (x := S + 1 - 1) (y := S) (by omega) (by omega) (by omega)
    have e2 : Aside0 (Int.tmod s 86400 = R - 86400) := ⟨by omega⟩
    have e5 := wsm (x := R - 86400 + 86400) (y := R) (by omega) (by omega) (by omega)
    rw [e2.out, if_pos (by omega), e1.out, e4.out, h]
    simp only [Option.bind_some, e5.out, d1.out, d2.out, d3.out, d4.out]
    cases b <;> rfl
/-- The date of a number of seconds: the day's number, and the seconds of the day. -/
theorem date_both (s : Int) (h0 : -9223372036854775808 ≤ s) (h1 : s ≤ 9223372036854775807) :
    (¬ (-719162 ≤ s / 86400 ∧ s / 86400 ≤ 2932896) ∧ (∀ k, civil_Date.f (k + 1) s = some (0, 0, 0, 0, 0, 0, false)) ∧ Ev (fun k => abutmentref05_Date.f k s) (0, 0, 0, 0, 0, 0, false)) ∨
    (∃ y m d, YmdOK y m d ∧ dayN y m d = s / 86400 ∧ (∀ k, civil_Date.f (k + 1) s = some (y, m, d, s % 86400 / 3600, s % 86400 / 60 % 60, s % 86400 % 60, true)) ∧ Ev (fun k => abutmentref05_Date.f k s) (y, m, d, s % 86400 / 3600, s % 86400 / 60 % 60, s % 86400 % 60, true)) := by
  have hf : ∀ k, abutmentref05_Date.f k s = (abutmentref05_Of.f k (s / 86400)).bind fun t => some (if t.2.2.2.2.2.2 = true then (t.1, t.2.1, t.2.2.1, s % 86400 / 3600, s % 86400 % 3600 / 60, s % 86400 % 60, true) else t) := fun k => by
    unfold abutmentref05_Date.f
    rw [if_pos ⟨h0, h1⟩]
  rcases of_both (s / 86400) with ⟨g1, g2, g3⟩ | ⟨y, m, d, g1, g2, g3, g4⟩
  · left
    refine ⟨g1, fun k => ?_, ?_⟩
    · rw [date_p s _ _ h0 h1 rfl rfl 0 0 0 false (k + 1) (g2 k)]
      rfl
    · refine Ev.congr hf (Ev.bind g3 ?_)
      exact Ev.now _
  · right
    refine ⟨y, m, d, g1, g2, fun k => ?_, ?_⟩
    · rw [date_p s _ _ h0 h1 rfl rfl y m d true (k + 1) (g3 k)]
      rfl
    · refine Ev.congr hf (Ev.bind g4 ?_)
      have e : s % 86400 % 3600 / 60 = s % 86400 / 60 % 60 := by omega
      simp only [if_true, e]
      exact Ev.now _
theorem wk_range (n : Int) : 0 ≤ wkI n ∧ wkI n < 7 := by unfold wkI; omega
theorem ev_day (y m d h mi se : Int) : Ev (fun k => abutmentref06_day.f k y m d h mi se) (wkI (dayR y m d).1) := by
  unfold abutmentref06_day.f
  refine Ev.bind (ev_days y m d) ?_
  simp only [week_r, Option.bind_some]
  exact Ev.now _
theorem ev_clock (y m d h mi se : Int) (a0 : 0 ≤ h) (a1 : h ≤ 99) (b0 : 0 ≤ mi) (b1 : mi ≤ 99) (c0 : 0 ≤ se) (c1 : se ≤ 99) : Ev (fun k => abutmentref06_clock.f k y m d h mi se) (clkB (padS h 2) (padS mi 2) (padS se 2)) := by
  unfold abutmentref06_clock.f
  have z1 := padS_size h 2 (by decide)
  have z2 := padS_size mi 2 (by decide)
  have z3 := padS_size se 2 (by decide)
  refine Ev.bind (ev_pad h 2 a0 (by omega) (by decide)) (Ev.bind (ev_pad mi 2 b0 (by omega) (by decide)) (Ev.bind (ev_pad se 2 c0 (by omega) (by decide)) ?_))
  simp only [if_pos (show (padS h 2).size ≤ 1000 ∧ (padS mi 2).size ≤ 1000 ∧ (padS se 2).size ≤ 1000 by omega)]
  exact Ev.now _
theorem clk_size (a b c : ByteArray) : (clkB a b c).size = a.size + 1 + b.size + 1 + c.size := by
  unfold clkB
  rw [ByteArray.size_append, ByteArray.size_append, ByteArray.size_append, ByteArray.size_append]
  rfl
/-- A date in the first form. -/
def fixS (y m d h mi se : Int) : ByteArray := fixText (wkI (dayN y m d)) m (padS d 2) (padS y 4) (padS h 2) (padS mi 2) (padS se 2)
theorem fix_write (wd m : Int) (pd py ph pm ps : ByteArray) : write1 wd m pd py (clkB ph pm ps) = fixText wd m pd py ph pm ps := by
  apply tl_inj
  unfold write1 fixText fixPieces catL
  simp only [List.foldl_cons, List.foldl_nil, tl_append, List.append_assoc]
  rfl
theorem ev_write1 (y m d h mi se : Int) (ok : YmdOK y m d) (a0 : 0 ≤ h) (a1 : h ≤ 99) (b0 : 0 ≤ mi) (b1 : mi ≤ 99) (c0 : 0 ≤ se) (c1 : se ≤ 99) : Ev (fun k => abutmentref06_Write.f k y m d h mi se 1) (fixS y m d h mi se) := by
  have hok := ok
  obtain ⟨o1, o2, o3, o4, o5, o6⟩ := ok
  have lr := longI_range y m
  have hd : (dayR y m d).1 = dayN y m d := by unfold dayR; rw [if_pos hok]
  have hdy := ev_day y m d h mi se
  rw [hd] at hdy
  have z1 := padS_size h 2 (by decide)
  have z2 := padS_size mi 2 (by decide)
  have z3 := padS_size se 2 (by decide)
  have z4 := padS_size d 2 (by decide)
  have z5 := padS_size y 4 (by decide)
  have zc := clk_size (padS h 2) (padS mi 2) (padS se 2)
  unfold abutmentref06_Write.f
  refine Ev.bind hdy (Ev.bind (ev_clock y m d h mi se a0 a1 b0 b1 c0 c1) ?_)
  simp only [if_pos (show (0 ≤ wkI (dayN y m d) ∧ wkI (dayN y m d) < 7) ∧ (1 ≤ m ∧ m ≤ 12) ∧ (clkB (padS h 2) (padS mi 2) (padS se 2)).size ≤ 4000 from ⟨wk_range _, ⟨o3, o4⟩, by omega⟩), if_true]
  refine Ev.bind (ev_pad d 2 (by omega) (by omega) (by decide)) (Ev.bind (ev_pad y 4 (by omega) (by omega) (by decide)) ?_)
  simp only [if_pos (show (padS d 2).size ≤ 1000 ∧ (padS y 4).size ≤ 1000 by omega), fix_write]
  exact Ev.now _
theorem print_plain (s : Int) (h0 : -9223372036854775808 ≤ s) (h1 : s ≤ 9223372036854775807) :
    ∃ T, httpdate_Print.f s = some T ∧ Ev (fun k => abutmentref06_Print.f k s) T ∧ ((¬ (-719162 ≤ s / 86400 ∧ s / 86400 ≤ 2932896) ∧ T = ⟨#[]⟩) ∨ ∃ y m d, YmdOK y m d ∧ dayN y m d = s / 86400 ∧ T = fixS y m d (s % 86400 / 3600) (s % 86400 / 60 % 60) (s % 86400 % 60)) := by
  rcases date_both s h0 h1 with ⟨g1, g2, g3⟩ | ⟨y, m, d, g1, g2, g3, g4⟩
  · refine ⟨⟨#[]⟩, ?_, ?_, .inl ⟨g1, rfl⟩⟩
    · unfold httpdate_Print.f
      rw [g2 7]
      rfl
    · unfold abutmentref06_Print.f
      refine Ev.bind g3 ?_
      simp only [Bool.false_eq_true, if_false]
      exact Ev.now _
  · have hR0 : 0 ≤ s % 86400 := by omega
    have hR1 : s % 86400 < 86400 := by omega
    refine ⟨_, ?_, ?_, .inr ⟨y, m, d, g1, g2, rfl⟩⟩
    · have hok := g1
      obtain ⟨o1, o2, o3, o4, o5, o6⟩ := g1
      have lr := longI_range y m
      have z1 := padS_size (s % 86400 / 3600) 2 (by decide)
      have z2 := padS_size (s % 86400 / 60 % 60) 2 (by decide)
      have z3 := padS_size (s % 86400 % 60) 2 (by decide)
      have z4 := padS_size d 2 (by decide)
      have z5 := padS_size y 4 (by decide)
      unfold httpdate_Print.f
      rw [g3 7]
      simp only [Option.bind_some, if_true, days_p, week_p]
      rw [pad_p d 2 (by omega) (by omega) (.inl rfl), pad_p y 4 (by omega) (by omega) (.inr rfl), pad_p _ 2 (by omega) (by omega) (.inl rfl), pad_p _ 2 (by omega) (by omega) (.inl rfl), pad_p _ 2 (by omega) (by omega) (.inl rfl)]
      simp only [Option.bind_some]
      have hd : (dayR y m d).1 = dayN y m d := by unfold dayR; rw [if_pos hok]
      rw [hd, if_pos ⟨wk_range _, ⟨o3, o4⟩, by omega, by omega, by omega, by omega, by omega⟩]
      rfl
    · unfold abutmentref06_Print.f
      refine Ev.bind g4 ?_
      simp only [if_true]
      first
        | exact ev_write1 y m d _ _ _ g1 (by omega) (by omega) (by omega) (by omega) (by omega) (by omega)
        | exact Ev.bind (ev_write1 y m d _ _ _ g1 (by omega) (by omega) (by omega) (by omega) (by omega) (by omega)) (Ev.now _)
end Go.Proofs.Ytjnhghplfdiijaa.Q

namespace Go.Proofs.Ytjnhghplfdiijaa.Q
open Go.RowKit Go.Proofs.YtjnhghplfdiijaaW.PrintWords Go.Proofs.YtjnhghplfdiijaaW.PrintLast Go.Proofs.YtjnhghplfdiijaaW.PrintMore
attribute [local go_sem] max2_int min2_int max_two min_two max_three min_three max_four min_four
set_option linter.unusedVariables false
set_option linter.unusedSimpArgs false
def refusal_version.f (a0 : Int) : Option (Int) := some (mx 0 (mn a0 1))
set_option maxHeartbeats 8000000 in
set_option maxRecDepth 100000 in
theorem refusal_version.calls (a0 : Int) (r : Int) (w : World) (h : refusal_version.f a0 = some r) :
    Calls Try.prog 68 #[.int .i64 a0] w fun e w' => e = .returned (.int .i64 r) ∧ Below w.heap.size w w' := by
  have HB := Aside0.mk (Below.refl w.heap.size w)
  have H : (some (mx 0 (mn a0 1))) = some r := h
  clear h
  obtain ⟨ji2, hji2⟩ : ∃ j_ : Int, (mn a0 1) = j_ := ⟨_, rfl⟩
  replace H : (some (mx 0 (ji2))) = some r := by first | (rw [hji2] at H; exact H) | (simp only [hji2] at H ⊢; exact H)
  (try (have hji2h : ji2 ≤ 1 := by (rw [← hji2]; unfold mn; (repeat' split) <;> omega)))
  (try (have hji2g : ji2 ≤ 64 := by omega))
  have hji2_ : (if 1 < a0 then 1 else a0) = ji2 := hji2
  obtain ⟨ji3, hji3⟩ : ∃ j_ : Int, (mx 0 (ji2)) = j_ := ⟨_, rfl⟩
  replace H : (some ji3) = some r := by first | (rw [hji3] at H; exact H) | (simp only [hji3] at H ⊢; exact H)
  have hji3_ : (if 0 < (ji2) then (ji2) else 0) = ji3 := hji3
  obtain rfl := Option.some.inj H
  go_enter Try.func68, Try.ntmps68
  go_wp2
  go_ret
  exact ⟨by first | rfl | (simp [errW_none, errW_some] <;> rfl) | (simp only [← hji2, ← hji3]; first | rfl | (simp [errW_none, errW_some] <;> rfl)) | (simp [*, errW_none, errW_some] <;> rfl), by repeat (first | (with_reducible first | exact HB.out | apply below_alloc | apply pw_below_drewN | apply below_drew1) | exact HB.out)⟩
end Go.Proofs.Ytjnhghplfdiijaa.Q

namespace Go.Proofs.Ytjnhghplfdiijaa.Q
open Go.RowKit Go.Proofs.YtjnhghplfdiijaaW.PrintWords Go.Proofs.YtjnhghplfdiijaaW.PrintLast Go.Proofs.YtjnhghplfdiijaaW.PrintMore
attribute [local go_sem] max2_int min2_int max_two min_two max_three min_three max_four min_four
set_option linter.unusedVariables false
set_option linter.unusedSimpArgs false
def start_Reason.f (a0 : Int) : Option (ByteArray) := if a0 = 100 then (some (⟨#[67, 111, 110, 116, 105, 110, 117, 101]⟩ : ByteArray)) else (if a0 = 400 then (some (⟨#[66, 97, 100, 32, 82, 101, 113, 117, 101, 115, 116]⟩ : ByteArray)) else (if a0 = 408 then (some (⟨#[82, 101, 113, 117, 101, 115, 116, 32, 84, 105, 109, 101, 111, 117, 116]⟩ : ByteArray)) else (if a0 = 413 then (some (⟨#[67, 111, 110, 116, 101, 110, 116, 32, 84, 111, 111, 32, 76, 97, 114, 103, 101]⟩ : ByteArray)) else (if a0 = 417 then (some (⟨#[69, 120, 112, 101, 99, 116, 97, 116, 105, 111, 110, 32, 70, 97, 105, 108, 101, 100]⟩ : ByteArray)) else (if a0 = 431 then (some (⟨#[82, 101, 113, 117, 101, 115, 116, 32, 72, 101, 97, 100, 101, 114, 32, 70, 105, 101, 108, 100, 115, 32, 84, 111, 111, 32, 76, 97, 114, 103, 101]⟩ : ByteArray)) else (if a0 = 501 then (some (⟨#[78, 111, 116, 32, 73, 109, 112, 108, 101, 109, 101, 110, 116, 101, 100]⟩ : ByteArray)) else (if a0 = 502 then (some (⟨#[66, 97, 100, 32, 71, 97, 116, 101, 119, 97, 121]⟩ : ByteArray)) else (if a0 = 504 then (some (⟨#[71, 97, 116, 101, 119, 97, 121, 32, 84, 105, 109, 101, 111, 117, 116]⟩ : ByteArray)) else (if a0 = 505 then (some (⟨#[72, 84, 84, 80, 32, 86, 101, 114, 115, 105, 111, 110, 32, 78, 111, 116, 32, 83, 117, 112, 112, 111, 114, 116, 101, 100]⟩ : ByteArray)) else (if a0 = 508 then (some (⟨#[76, 111, 111, 112, 32, 68, 101, 116, 101, 99, 116, 101, 100]⟩ : ByteArray)) else (some (⟨#[]⟩ : ByteArray))))))))))))
set_option maxHeartbeats 8000000 in
set_option maxRecDepth 100000 in
theorem start_Reason.calls (a0 : Int) (r : ByteArray) (w : World) (h : start_Reason.f a0 = some r) :
    Calls Try.prog 69 #[.int .i64 a0] w fun e w' => e = .returned (.string r) ∧ Drawn0 w w' := by
  have H : (if a0 = 100 then (some (⟨#[67, 111, 110, 116, 105, 110, 117, 101]⟩ : ByteArray)) else (if a0 = 400 then (some (⟨#[66, 97, 100, 32, 82, 101, 113, 117, 101, 115, 116]⟩ : ByteArray)) else (if a0 = 408 then (some (⟨#[82, 101, 113, 117, 101, 115, 116, 32, 84, 105, 109, 101, 111, 117, 116]⟩ : ByteArray)) else (if a0 = 413 then (some (⟨#[67, 111, 110, 116, 101, 110, 116, 32, 84, 111, 111, 32, 76, 97, 114, 103, 101]⟩ : ByteArray)) else (if a0 = 417 then (some (⟨#[69, 120, 112, 101, 99, 116, 97, 116, 105, 111, 110, 32, 70, 97, 105, 108, 101, 100]⟩ : ByteArray)) else (if a0 = 431 then (some (⟨#[82, 101, 113, 117, 101, 115, 116, 32, 72, 101, 97, 100, 101, 114, 32, 70, 105, 101, 108, 100, 115, 32, 84, 111, 111, 32, 76, 97, 114, 103, 101]⟩ : ByteArray)) else (if a0 = 501 then (some (⟨#[78, 111, 116, 32, 73, 109, 112, 108, 101, 109, 101, 110, 116, 101, 100]⟩ : ByteArray)) else (if a0 = 502 then (some (⟨#[66, 97, 100, 32, 71, 97, 116, 101, 119, 97, 121]⟩ : ByteArray)) else (if a0 = 504 then (some (⟨#[71, 97, 116, 101, 119, 97, 121, 32, 84, 105, 109, 101, 111, 117, 116]⟩ : ByteArray)) else (if a0 = 505 then (some (⟨#[72, 84, 84, 80, 32, 86, 101, 114, 115, 105, 111, 110, 32, 78, 111, 116, 32, 83, 117, 112, 112, 111, 114, 116, 101, 100]⟩ : ByteArray)) else (if a0 = 508 then (some (⟨#[76, 111, 111, 112, 32, 68, 101, 116, 101, 99, 116, 101, 100]⟩ : ByteArray)) else (some (⟨#[]⟩ : ByteArray))))))))))))) = some r := h
  clear h
  by_cases c2 : a0 = 100
  · rw [if_pos c2] at H
    have c2b0 : (a0 == 100) = true := beq_iff_eq.mpr c2
    have c2b1 : (a0 != 100) = false := bne_eq_false_iff_eq.mpr c2
    clear c2
    obtain rfl := Option.some.inj H
    go_enter Try.func69, Try.ntmps69
    go_wp2
    go_ret
    exact ⟨by first | rfl | (simp; done) | (simp [*]; done), by repeat (first | exact Drawn0.refl _ | apply Drawn0.step)⟩
  · rw [if_neg c2] at H
    have c2b0 : (a0 == 100) = false := beq_eq_false_iff_ne.mpr c2
    have c2b1 : (a0 != 100) = true := bne_iff_ne.mpr c2
    by_cases c3 : a0 = 400
    · rw [if_pos c3] at H
      have c3b0 : (a0 == 400) = true := beq_iff_eq.mpr c3
      have c3b1 : (a0 != 400) = false := bne_eq_false_iff_eq.mpr c3
      clear c3
      obtain rfl := Option.some.inj H
      go_enter Try.func69, Try.ntmps69
      go_wp2
      go_ret
      exact ⟨by first | rfl | (simp; done) | (simp [*]; done), by repeat (first | exact Drawn0.refl _ | apply Drawn0.step)⟩
    · rw [if_neg c3] at H
      have c3b0 : (a0 == 400) = false := beq_eq_false_iff_ne.mpr c3
      have c3b1 : (a0 != 400) = true := bne_iff_ne.mpr c3
      by_cases c4 : a0 = 408
      · rw [if_pos c4] at H
        have c4b0 : (a0 == 408) = true := beq_iff_eq.mpr c4
        have c4b1 : (a0 != 408) = false := bne_eq_false_iff_eq.mpr c4
        clear c4
        obtain rfl := Option.some.inj H
        go_enter Try.func69, Try.ntmps69
        go_wp2
        go_ret
        exact ⟨by first | rfl | (simp; done) | (simp [*]; done), by repeat (first | exact Drawn0.refl _ | apply Drawn0.step)⟩
      · rw [if_neg c4] at H
        have c4b0 : (a0 == 408) = false := beq_eq_false_iff_ne.mpr c4
        have c4b1 : (a0 != 408) = true := bne_iff_ne.mpr c4
        by_cases c5 : a0 = 413
        · rw [if_pos c5] at H
          have c5b0 : (a0 == 413) = true := beq_iff_eq.mpr c5
          have c5b1 : (a0 != 413) = false := bne_eq_false_iff_eq.mpr c5
          clear c5
          obtain rfl := Option.some.inj H
          go_enter Try.func69, Try.ntmps69
          go_wp2
          go_ret
          exact ⟨by first | rfl | (simp; done) | (simp [*]; done), by repeat (first | exact Drawn0.refl _ | apply Drawn0.step)⟩
        · rw [if_neg c5] at H
          have c5b0 : (a0 == 413) = false := beq_eq_false_iff_ne.mpr c5
          have c5b1 : (a0 != 413) = true := bne_iff_ne.mpr c5
          by_cases c6 : a0 = 417
          · rw [if_pos c6] at H
            have c6b0 : (a0 == 417) = true := beq_iff_eq.mpr c6
            have c6b1 : (a0 != 417) = false := bne_eq_false_iff_eq.mpr c6
            clear c6
            obtain rfl := Option.some.inj H
            go_enter Try.func69, Try.ntmps69
            go_wp2
            go_ret
            exact ⟨by first | rfl | (simp; done) | (simp [*]; done), by repeat (first | exact Drawn0.refl _ | apply Drawn0.step)⟩
          · rw [if_neg c6] at H
            have c6b0 : (a0 == 417) = false := beq_eq_false_iff_ne.mpr c6
            have c6b1 : (a0 != 417) = true := bne_iff_ne.mpr c6
            by_cases c7 : a0 = 431
            · rw [if_pos c7] at H
              have c7b0 : (a0 == 431) = true := beq_iff_eq.mpr c7
              have c7b1 : (a0 != 431) = false := bne_eq_false_iff_eq.mpr c7
              clear c7
              obtain rfl := Option.some.inj H
              go_enter Try.func69, Try.ntmps69
              go_wp2
              go_ret
              exact ⟨by first | rfl | (simp; done) | (simp [*]; done), by repeat (first | exact Drawn0.refl _ | apply Drawn0.step)⟩
            · rw [if_neg c7] at H
              have c7b0 : (a0 == 431) = false := beq_eq_false_iff_ne.mpr c7
              have c7b1 : (a0 != 431) = true := bne_iff_ne.mpr c7
              by_cases c8 : a0 = 501
              · rw [if_pos c8] at H
                have c8b0 : (a0 == 501) = true := beq_iff_eq.mpr c8
                have c8b1 : (a0 != 501) = false := bne_eq_false_iff_eq.mpr c8
                clear c8
                obtain rfl := Option.some.inj H
                go_enter Try.func69, Try.ntmps69
                go_wp2
                go_ret
                exact ⟨by first | rfl | (simp; done) | (simp [*]; done), by repeat (first | exact Drawn0.refl _ | apply Drawn0.step)⟩
              · rw [if_neg c8] at H
                have c8b0 : (a0 == 501) = false := beq_eq_false_iff_ne.mpr c8
                have c8b1 : (a0 != 501) = true := bne_iff_ne.mpr c8
                by_cases c9 : a0 = 502
                · rw [if_pos c9] at H
                  have c9b0 : (a0 == 502) = true := beq_iff_eq.mpr c9
                  have c9b1 : (a0 != 502) = false := bne_eq_false_iff_eq.mpr c9
                  clear c9
                  obtain rfl := Option.some.inj H
                  go_enter Try.func69, Try.ntmps69
                  go_wp2
                  go_ret
                  exact ⟨by first | rfl | (simp; done) | (simp [*]; done), by repeat (first | exact Drawn0.refl _ | apply Drawn0.step)⟩
                · rw [if_neg c9] at H
                  have c9b0 : (a0 == 502) = false := beq_eq_false_iff_ne.mpr c9
                  have c9b1 : (a0 != 502) = true := bne_iff_ne.mpr c9
                  by_cases c10 : a0 = 504
                  · rw [if_pos c10] at H
                    have c10b0 : (a0 == 504) = true := beq_iff_eq.mpr c10
                    have c10b1 : (a0 != 504) = false := bne_eq_false_iff_eq.mpr c10
                    clear c10
                    obtain rfl := Option.some.inj H
                    go_enter Try.func69, Try.ntmps69
                    go_wp2
                    go_ret
                    exact ⟨by first | rfl | (simp; done) | (simp [*]; done), by repeat (first | exact Drawn0.refl _ | apply Drawn0.step)⟩
                  · rw [if_neg c10] at H
                    have c10b0 : (a0 == 504) = false := beq_eq_false_iff_ne.mpr c10
                    have c10b1 : (a0 != 504) = true := bne_iff_ne.mpr c10
                    by_cases c11 : a0 = 505
                    · rw [if_pos c11] at H
                      have c11b0 : (a0 == 505) = true := beq_iff_eq.mpr c11
                      have c11b1 : (a0 != 505) = false := bne_eq_false_iff_eq.mpr c11
                      clear c11
                      obtain rfl := Option.some.inj H
                      go_enter Try.func69, Try.ntmps69
                      go_wp2
                      go_ret
                      exact ⟨by first | rfl | (simp; done) | (simp [*]; done), by repeat (first | exact Drawn0.refl _ | apply Drawn0.step)⟩
                    · rw [if_neg c11] at H
                      have c11b0 : (a0 == 505) = false := beq_eq_false_iff_ne.mpr c11
                      have c11b1 : (a0 != 505) = true := bne_iff_ne.mpr c11
                      by_cases c12 : a0 = 508
                      · rw [if_pos c12] at H
                        have c12b0 : (a0 == 508) = true := beq_iff_eq.mpr c12
                        have c12b1 : (a0 != 508) = false := bne_eq_false_iff_eq.mpr c12
                        clear c12
                        obtain rfl := Option.some.inj H
                        go_enter Try.func69, Try.ntmps69
                        go_wp2
                        go_ret
                        exact ⟨by first | rfl | (simp; done) | (simp [*]; done), by repeat (first | exact Drawn0.refl _ | apply Drawn0.step)⟩
                      · rw [if_neg c12] at H
                        have c12b0 : (a0 == 508) = false := beq_eq_false_iff_ne.mpr c12
                        have c12b1 : (a0 != 508) = true := bne_iff_ne.mpr c12
                        obtain rfl := Option.some.inj H
                        go_enter Try.func69, Try.ntmps69
                        go_wp2
                        go_ret
                        exact ⟨by first | rfl | (simp; done) | (simp [*]; done), by repeat (first | exact Drawn0.refl _ | apply Drawn0.step)⟩
end Go.Proofs.Ytjnhghplfdiijaa.Q

namespace Go.Proofs.Ytjnhghplfdiijaa.Q
open Go.RowKit Go.Proofs.YtjnhghplfdiijaaW.PrintWords Go.Proofs.YtjnhghplfdiijaaW.PrintLast Go.Proofs.YtjnhghplfdiijaaW.PrintMore Go.Lib
set_option linter.unusedVariables false
set_option linter.unusedSimpArgs false
/-- What the closure's variable holds: a head, and its fields. -/
def HI (w0 W : World) (ok : Nat → Prop) (g r : Nat) (mi st : Int) (re : ByteArray) (v : Value) (l : List S60) : Prop :=
  W.heap[g]? = some (.cells #[.string ⟨#[]⟩, .string ⟨#[]⟩, .int .i64 mi, .int .i64 st, .string re, v] 41 (0, 0)) ∧ W.heap[r]? = some (.cells #[.string ⟨#[]⟩, .string ⟨#[]⟩, .int .i64 0, .int .i64 0, .string ⟨#[]⟩, .slice none 0 0] 41 (0, 0)) ∧
  Kd.R k60 60 W w0.heap.size ok v l ∧ Below w0.heap.size w0 W ∧ (w0.heap.size ≤ g ∧ w0.heap.size ≤ r ∧ r ≠ g)
section
variable {w0 W W1 : World} {ok : Nat → Prop} {g r : Nat} {mi st : Int} {re : ByteArray} {v : Value} {l : List S60}
theorem HI.below (h : HI w0 W ok g r mi st re v l) (hb : Below W.heap.size W W1) : HI w0 W1 ok g r mi st re v l := by
  obtain ⟨h1, h2, h3, h4, h5⟩ := h
  exact ⟨blk_below h1 hb, blk_below h2 hb, Kd.R_below h3 hb, h4.trans (hb.mono h4.size), h5⟩
theorem HI.cell (h : HI w0 W ok g r mi st re v l) : W.cell? ⟨g, 5, none⟩ = some v := (blk_cell h.1 5).trans rfl
theorem HI.fro (h : HI w0 W ok g r mi st re v l) : W.frozen? ⟨g, 5, none⟩ = false := blk_frozen h.1 5
theorem HI.gcl (h : HI w0 W ok g r mi st re v l) (hg : W.grownBy W1 v.ownBlock) : W1.cell? ⟨g, 5, none⟩ = some v := (blk_cell (blk_grown h.1 hg (Kd.R_ne h.2.2.1 h.1 (by decide))) 5).trans rfl
theorem HI.gfl (h : HI w0 W ok g r mi st re v l) (hg : W.grownBy W1 v.ownBlock) : W1.frozen? ⟨g, 5, none⟩ = false := blk_frozen (blk_grown h.1 hg (Kd.R_ne h.2.2.1 h.1 (by decide))) 5
theorem HI.append (h : HI w0 W ok g r mi st re v l) {v1 : Value} {l1 : List S60} (hR : Kd.R k60 60 W1 w0.heap.size ok v1 l1) (hg : W.grownBy W1 v.ownBlock) (hB : Below w0.heap.size w0 W1) : HI w0 (W1.setCell ⟨g, 5, none⟩ v1) (fun _ => True) g r mi st re v1 l1 := by
  obtain ⟨h1, h2, h3, h4, h5⟩ := h
  have g1 := blk_grown h1 hg (Kd.R_ne h3 h1 (by decide))
  have g2 := blk_grown h2 hg (Kd.R_ne h3 h2 (by decide))
  exact ⟨(blk_set g1 5 _).trans rfl, blk_far g2 h5.2.2 _,
    Kd.R_mono (Kd.R_far (p := ⟨g, 5, none⟩) (Kd.R_types hR g1 (by intro q hq; change q ∈ [60] at hq; rw [List.mem_singleton.1 hq]; decide)) (fun k hk => hk.2) _) (fun _ _ => trivial), hB.setCell h5.1 _, h5⟩
end
set_option maxRecDepth 100000 in
set_option maxHeartbeats 4000000 in
theorem put_yes (n x : ByteArray) (hx0 : x.data.toList ≠ []) (g r : Nat) (mi st : Int) (re : ByteArray) (v : Value) (l : List S60) (w0 w : World) (hl : l.length < 1000000) (hN : HI w0 w (fun _ => True) g r mi st re v l) :
    Calls Try.prog 70 #[.string n, .string x, .pointer (some ⟨g, 0, none⟩)] w fun e w' => e = .returned (.tuple #[]) ∧ ∃ v', HI w0 w' (fun _ => True) g r mi st re v' (l ++ [⟨n, x⟩]) := by
  have hx : (x.toList != ([] : List UInt8)) = true := bne_iff_ne.2 (by rw [ByteArray.toList_eq]; exact hx0)
  have hx2 : x.toList.isEmpty = false := by rw [ByteArray.toList_eq]; cases h : x.data.toList with | nil => exact absurd h hx0 | cons a b => rfl
  clear hx0
  have HN0 := Aside0.mk hN
  have HLL := Aside0.mk hl
  have HSZ := Aside0.mk hN.2.2.2.1.size
  clear hN hl
  have c5 := HN0.out.cell
  have f5 := HN0.out.fro
  go_enter Try.func70, Try.ntmps70
  go_wp2_with ((with_reducible refine gate_builtin (b := .append) (xs := #[.tmp 8, .tmp 12]) rfl ?_); at_builtin; refine Kd.R_append k60 (w0 := w0) w0.heap.size rfl (.tmp 8) (.tmp 12) 39 60 (.agg #[(.string ⟨#[]⟩), (.string ⟨#[]⟩)]) 32 rfl Try.underlying39 info60 rfl (by decide) (by omega) v l (⟨n, x⟩ : S60) [.string n, .string x] (fun _ => True) (fun _ => False) rfl (by first | (go_simp; done) | (go_simp; rfl)) ?aP (fun _ hk => hk.elim) ?aF ?aO ?aB ?aS ?aL ?_; (case aP => exact k60_mkM _ _ _ (⟨n, x⟩ : S60)); (case aB => exact HN0.out.2.2.2.1); (case aF => exact fun _ _ => trivial); (case aO => exact HN0.out.2.2.1); (case aS => exact HSZ.out); (case aL => have := HLL.out; omega); intro v9 w9 ho hb hg hat; obtain ⟨A9, c9, e9⟩ := Kd.R_slice ho; obtain ⟨n9, hn9⟩ : ∃ n9, (l ++ [(⟨n, x⟩ : S60)]).length = n9 := ⟨_, rfl⟩; rw [hn9] at e9; clear hn9; subst e9; have HN20 := Aside0.mk (HN0.out.append ho hg hb); have cl_9 := HN0.out.gcl hg; have fl_9 := HN0.out.gfl hg; clear ho hb hg hat)
  go_end0
  exact ⟨rfl, _, HN20.out⟩
theorem put_no (n : ByteArray) (g : Nat) (w : World) :
    Calls Try.prog 70 #[.string n, .string ⟨#[]⟩, .pointer (some ⟨g, 0, none⟩)] w fun e w' => e = .returned (.tuple #[]) ∧ w' = w := by
  go_enter Try.func70, Try.ntmps70
  go_wp2
  go_end0
  exact ⟨rfl, rfl⟩
theorem HI.fin {w0 W : World} {ok : Nat → Prop} {g r : Nat} {mi st : Int} {re : ByteArray} {v : Value} {l : List S60} (h : HI w0 W ok g r mi st re v l) (u0 u1 u2 u3 u4 u5 : Value) :
    Kd.R k60 60 ((((((W.setCell ⟨r, 0, none⟩ u0).setCell ⟨r, 1, none⟩ u1).setCell ⟨r, 2, none⟩ u2).setCell ⟨r, 3, none⟩ u3).setCell ⟨r, 4, none⟩ u4).setCell ⟨r, 5, none⟩ u5) w0.heap.size (fun _ => True) v l := by
  obtain ⟨h1, h2, h3, h4, h5⟩ := h
  have hR := Kd.R_types h3 h2 (by intro q hq; change q ∈ [60] at hq; rw [List.mem_singleton.1 hq]; decide)
  exact Kd.R_mono (Kd.R_far (p := ⟨r, 5, none⟩) (Kd.R_far (p := ⟨r, 4, none⟩) (Kd.R_far (p := ⟨r, 3, none⟩) (Kd.R_far (p := ⟨r, 2, none⟩) (Kd.R_far (p := ⟨r, 1, none⟩) (Kd.R_far (p := ⟨r, 0, none⟩) hR (fun k hk => hk.2) _) (fun k hk => hk.2) _) (fun k hk => hk.2) _) (fun k hk => hk.2) _) (fun k hk => hk.2) _) (fun k hk => hk.2) _) (fun _ _ => trivial)
abbrev dateN : ByteArray := ⟨#[68, 97, 116, 101]⟩
abbrev lenN : ByteArray := ⟨#[67, 111, 110, 116, 101, 110, 116, 45, 76, 101, 110, 103, 116, 104]⟩
abbrev conN : ByteArray := ⟨#[67, 111, 110, 110, 101, 99, 116, 105, 111, 110]⟩
def refFields (T : ByteArray) : List S60 := ((if T.toList = ([] : List UInt8) then [] else [⟨dateN, T⟩]) ++ [⟨lenN, ⟨#[48]⟩⟩]) ++ [⟨conN, ⟨#[99, 108, 111, 115, 101]⟩⟩]
set_option maxRecDepth 100000 in
set_option maxHeartbeats 16000000 in
theorem head_walk (st mi now v : Int) (re T : ByteArray) (w : World) (hv : refusal_version.f mi = some v) (hre : start_Reason.f st = some re) (hT : httpdate_Print.f now = some T) :
    Calls Try.prog 21 #[.int .i64 st, .int .i64 mi, .int .i64 now] w fun e w' => ∃ v5 : Value, e = .returned (.agg #[.string ⟨#[]⟩, .string ⟨#[]⟩, .int .i64 v, .int .i64 st, .string re, v5]) ∧ Kd.R k60 60 w' w.heap.size (fun _ => True) v5 (refFields T) ∧ Below w.heap.size w w' := by
  have hu41 := Try.underlying41
  obtain ⟨RF, hRF⟩ : ∃ RF, refFields T = RF := ⟨_, rfl⟩
  rw [hRF]
  have HRF := Aside0.mk hRF
  clear hRF
  have HB := Aside0.mk (Below.refl w.heap.size w)
  have HV := Aside0.mk hv
  have HRe := Aside0.mk hre
  have HT := Aside0.mk hT
  clear hv hre hT
  go_enter Try.func21, Try.ntmps21
  go_upto_region 1 with (first | ((with_reducible refine gate_dst (N := 6) rfl ?_); refine box_event ?hg (N := 6) ?hd (cs := #[.string ⟨#[]⟩, .string ⟨#[]⟩, .int .i64 0, .int .i64 0, .string ⟨#[]⟩, .slice none 0 0]) (t := 41) ?hr ?_; (case hd => rfl); (case hg => rfl); (case hr => first | (go_simp; done) | (go_simp; rfl)); intro r hg w2 hbox hb; have HB_ := Aside0.mk (below_step HB.out hb); have BKr := Aside0.mk hbox; have GEr := Aside0.mk ((by rw [hg]; exact (below_size HB.out) : w.heap.size ≤ r)); clear HB; have HB := HB_; clear HB_ hb hbox hg))
  go_wp2_with fail
  ((with_reducible refine (refusal_version.calls mi v _ HV.out).mono ?_))
  rintro e w3 ⟨rfl, hb⟩
  have HB3 := Aside0.mk (below_step HB.out hb)
  have BK3 := Aside0.mk (blk_below BKr.out hb)
  clear hb HB BKr
  go_wp2_with fail
  ((with_reducible refine (start_Reason.calls st re _ HRe.out).mono ?_))
  rintro e w4 ⟨rfl, ⟨nd, rfl⟩⟩
  have HB := Aside0.mk (pw_below_drewN HB3.out nd)
  have BKr := Aside0.mk (blk_drewN BK3.out nd)
  clear HB3 BK3
  go_upto_region 2 with (first | ((with_reducible refine gate_dst (N := 7) rfl ?_); refine box_event ?hg (N := 7) ?hd (cs := #[.string ⟨#[]⟩, .string ⟨#[]⟩, .int .i64 0, .int .i64 0, .string ⟨#[]⟩, .slice none 0 0]) (t := 41) ?hr ?_; (case hd => rfl); (case hg => rfl); (case hr => first | (go_simp; done) | (go_simp; rfl)); intro g hg w5 hbox hb; have HB_ := Aside0.mk (below_step HB.out hb); have BKr_ := Aside0.mk (blk_below BKr.out hb); have BKg := Aside0.mk hbox; have GEg := Aside0.mk ((by rw [hg]; exact (below_size HB.out) : w.heap.size ≤ g)); have NE := Aside0.mk ((by rw [hg]; exact Nat.ne_of_lt (blk_lt BKr.out) : r ≠ g)); clear HB BKr; have HB := HB_; have BKr := BKr_; clear HB_ BKr_ hb hbox hg; have hcz0 : w5.cell? ⟨g, 0, none⟩ = some (.string ⟨#[]⟩) := (blk_cell BKg.out 0).trans rfl; have hfz0 := blk_frozen BKg.out 0; have hcz1 : w5.cell? ⟨g, 1, none⟩ = some (.string ⟨#[]⟩) := (blk_cell BKg.out 1).trans rfl; have hfz1 := blk_frozen BKg.out 1; have hcz2 : w5.cell? ⟨g, 2, none⟩ = some (.int .i64 0) := (blk_cell BKg.out 2).trans rfl; have hfz2 := blk_frozen BKg.out 2; have hcz3 : w5.cell? ⟨g, 3, none⟩ = some (.int .i64 0) := (blk_cell BKg.out 3).trans rfl; have hfz3 := blk_frozen BKg.out 3; have hcz4 : w5.cell? ⟨g, 4, none⟩ = some (.string ⟨#[]⟩) := (blk_cell BKg.out 4).trans rfl; have hfz4 := blk_frozen BKg.out 4; have hcz5 : w5.cell? ⟨g, 5, none⟩ = some (.slice none 0 0) := (blk_cell BKg.out 5).trans rfl; have hfz5 := blk_frozen BKg.out 5))
  clear hcz0 hcz1 hcz2 hcz3 hcz4 hcz5 hfz0 hfz1 hfz2 hfz3 hfz4 hfz5
  refine world_gen (fun w' => HI w w' (fun _ => True) g r v st re (.slice none 0 0) []) ⟨blk_put6 _ _ _ _ _ _ BKg.out, blk_far6 _ _ _ _ _ _ BKr.out NE.out, Kd.R_nil _ _ _ _ _, below_put6 _ _ _ _ _ _ HB.out GEg.out, GEg.out, GEr.out, NE.out⟩ ?_
  intro w6 hI
  have H0 := Aside0.mk hI
  clear hI BKg BKr HB GEg GEr NE
  go_wp2_with fail
  ((with_reducible refine (httpdate_Print.calls now T _ HT.out).mono ?_))
  rintro e w7 ⟨rfl, hb⟩
  have H1 := Aside0.mk (H0.out.below hb)
  clear hb H0
  go_wp2_with fail
  cases hc : decide (T.toList = ([] : List UInt8)) with
  | true =>
    have hT0 := of_decide_eq_true hc
    have hT1 : T = ⟨#[]⟩ := by
      apply tl_inj
      have := (ByteArray.toList_eq T).symm.trans hT0
      exact this
    have HF : Aside0 (refFields T = (([] : List S60) ++ [⟨lenN, ⟨#[48]⟩⟩]) ++ [⟨conN, ⟨#[99, 108, 111, 115, 101]⟩⟩]) := ⟨by unfold refFields; rw [if_pos hT0]⟩
    subst hT1
    clear hc hT0
    ((with_reducible refine (put_no dateN g _).mono ?_))
    rintro e w8 ⟨rfl, rfl⟩
    go_wp2_with fail
    ((with_reducible refine (put_yes lenN ⟨#[48]⟩ (by decide) g r v st re _ _ w _ (by simp) H1.out).mono ?_))
    rintro e w9 ⟨rfl, v9, hN⟩
    have H3 := Aside0.mk hN
    clear hN H1
    go_wp2_with fail
    ((with_reducible refine (put_yes conN ⟨#[99, 108, 111, 115, 101]⟩ (by decide) g r v st re _ _ w _ (by simp) H3.out).mono ?_))
    rintro e w10 ⟨rfl, v10, hN⟩
    obtain ⟨A10, c10, e10⟩ := Kd.R_slice hN.2.2.1
    generalize hn10 : List.length _ = n10 at e10
    clear hn10
    subst e10
    have H4 := Aside0.mk hN
    have k0 : w10.cell? ⟨g, 0, none⟩ = some (.string ⟨#[]⟩) := (blk_cell hN.1 0).trans rfl
    have k1 : w10.cell? ⟨g, 1, none⟩ = some (.string ⟨#[]⟩) := (blk_cell hN.1 1).trans rfl
    have k2 : w10.cell? ⟨g, 2, none⟩ = some (.int .i64 v) := (blk_cell hN.1 2).trans rfl
    have k3 : w10.cell? ⟨g, 3, none⟩ = some (.int .i64 st) := (blk_cell hN.1 3).trans rfl
    have k4 : w10.cell? ⟨g, 4, none⟩ = some (.string re) := (blk_cell hN.1 4).trans rfl
    have k5 : w10.cell? ⟨g, 5, none⟩ = some (.slice A10 n10 c10) := (blk_cell hN.1 5).trans rfl
    have q0 : w10.cell? ⟨r, 0, none⟩ = some (.string ⟨#[]⟩) := (blk_cell hN.2.1 0).trans rfl
    have q1 : w10.cell? ⟨r, 1, none⟩ = some (.string ⟨#[]⟩) := (blk_cell hN.2.1 1).trans rfl
    have q2 : w10.cell? ⟨r, 2, none⟩ = some (.int .i64 0) := (blk_cell hN.2.1 2).trans rfl
    have q3 : w10.cell? ⟨r, 3, none⟩ = some (.int .i64 0) := (blk_cell hN.2.1 3).trans rfl
    have q4 : w10.cell? ⟨r, 4, none⟩ = some (.string ⟨#[]⟩) := (blk_cell hN.2.1 4).trans rfl
    have q5 : w10.cell? ⟨r, 5, none⟩ = some (.slice none 0 0) := (blk_cell hN.2.1 5).trans rfl
    have z0 := blk_frozen hN.2.1 0
    have z1 := blk_frozen hN.2.1 1
    have z2 := blk_frozen hN.2.1 2
    have z3 := blk_frozen hN.2.1 3
    have z4 := blk_frozen hN.2.1 4
    have z5 := blk_frozen hN.2.1 5
    clear hN H3
    go_wp2
    exact bodyPost_ret (results_cell_row rfl _ _ r 41 #[.string ⟨#[]⟩, .string ⟨#[]⟩, .int .i64 v, .int .i64 st, .string re, .slice A10 n10 c10] (0, 0) _ rfl (blk_put6 _ _ _ _ _ _ H4.out.2.1) Try.underlying41 rfl (by kernel_rfl)) rfl ⟨_, rfl, by rw [← HRF.out, HF.out]; exact H4.out.fin _ _ _ _ _ _, below_put6 _ _ _ _ _ _ H4.out.2.2.2.1 H4.out.2.2.2.2.2.1⟩
  | false =>
    have hT0 : ¬ T.toList = [] := of_decide_eq_false hc
    have hT1 : T.data.toList ≠ [] := by rw [← ByteArray.toList_eq]; exact hT0
    have HF : Aside0 (refFields T = (([] : List S60) ++ [⟨dateN, T⟩] ++ [⟨lenN, ⟨#[48]⟩⟩]) ++ [⟨conN, ⟨#[99, 108, 111, 115, 101]⟩⟩]) := ⟨by unfold refFields; rw [if_neg hT0]; rfl⟩
    clear hc hT0
    ((with_reducible refine (put_yes dateN T hT1 g r v st re _ _ w _ (by decide) H1.out).mono ?_))
    rintro e w8 ⟨rfl, v8, hN⟩
    have H2 := Aside0.mk hN
    clear hN H1 hT1
    go_wp2_with fail
    ((with_reducible refine (put_yes lenN ⟨#[48]⟩ (by decide) g r v st re _ _ w _ (by simp) H2.out).mono ?_))
    rintro e w9 ⟨rfl, v9, hN⟩
    have H3 := Aside0.mk hN
    clear hN H2
    go_wp2_with fail
    ((with_reducible refine (put_yes conN ⟨#[99, 108, 111, 115, 101]⟩ (by decide) g r v st re _ _ w _ (by simp) H3.out).mono ?_))
    rintro e w10 ⟨rfl, v10, hN⟩
    obtain ⟨A10, c10, e10⟩ := Kd.R_slice hN.2.2.1
    generalize hn10 : List.length _ = n10 at e10
    clear hn10
    subst e10
    have H4 := Aside0.mk hN
    have k0 : w10.cell? ⟨g, 0, none⟩ = some (.string ⟨#[]⟩) := (blk_cell hN.1 0).trans rfl
    have k1 : w10.cell? ⟨g, 1, none⟩ = some (.string ⟨#[]⟩) := (blk_cell hN.1 1).trans rfl
    have k2 : w10.cell? ⟨g, 2, none⟩ = some (.int .i64 v) := (blk_cell hN.1 2).trans rfl
    have k3 : w10.cell? ⟨g, 3, none⟩ = some (.int .i64 st) := (blk_cell hN.1 3).trans rfl
    have k4 : w10.cell? ⟨g, 4, none⟩ = some (.string re) := (blk_cell hN.1 4).trans rfl
    have k5 : w10.cell? ⟨g, 5, none⟩ = some (.slice A10 n10 c10) := (blk_cell hN.1 5).trans rfl
    have q0 : w10.cell? ⟨r, 0, none⟩ = some (.string ⟨#[]⟩) := (blk_cell hN.2.1 0).trans rfl
    have q1 : w10.cell? ⟨r, 1, none⟩ = some (.string ⟨#[]⟩) := (blk_cell hN.2.1 1).trans rfl
    have q2 : w10.cell? ⟨r, 2, none⟩ = some (.int .i64 0) := (blk_cell hN.2.1 2).trans rfl
    have q3 : w10.cell? ⟨r, 3, none⟩ = some (.int .i64 0) := (blk_cell hN.2.1 3).trans rfl
    have q4 : w10.cell? ⟨r, 4, none⟩ = some (.string ⟨#[]⟩) := (blk_cell hN.2.1 4).trans rfl
    have q5 : w10.cell? ⟨r, 5, none⟩ = some (.slice none 0 0) := (blk_cell hN.2.1 5).trans rfl
    have z0 := blk_frozen hN.2.1 0
    have z1 := blk_frozen hN.2.1 1
    have z2 := blk_frozen hN.2.1 2
    have z3 := blk_frozen hN.2.1 3
    have z4 := blk_frozen hN.2.1 4
    have z5 := blk_frozen hN.2.1 5
    clear hN H3
    go_wp2
    exact bodyPost_ret (results_cell_row rfl _ _ r 41 #[.string ⟨#[]⟩, .string ⟨#[]⟩, .int .i64 v, .int .i64 st, .string re, .slice A10 n10 c10] (0, 0) _ rfl (blk_put6 _ _ _ _ _ _ H4.out.2.1) Try.underlying41 rfl (by kernel_rfl)) rfl ⟨_, rfl, by rw [← HRF.out, HF.out]; exact H4.out.fin _ _ _ _ _ _, below_put6 _ _ _ _ _ _ H4.out.2.2.2.1 H4.out.2.2.2.2.2.1⟩
def refusal_Head.f (a0 a1 a2 : Int) : Option (ByteArray × ByteArray × Int × Int × ByteArray × List S60) := (refusal_version.f a1).bind fun v => (start_Reason.f a0).bind fun re => (httpdate_Print.f a2).bind fun T => some (⟨#[]⟩, ⟨#[]⟩, v, a0, re, refFields T)
theorem refusal_Head.calls (a0 : Int) (a1 : Int) (a2 : Int) (r1 : ByteArray) (r2 : ByteArray) (r3 : Int) (r4 : Int) (r5 : ByteArray) (r6 : List (S60)) (w : World) (h : refusal_Head.f a0 a1 a2 = some (r1, r2, r3, r4, r5, r6)) :
    Calls Try.prog 21 #[.int .i64 a0, .int .i64 a1, .int .i64 a2] w fun e w' => ∃ v5_ : Value, e = .returned (.agg #[.string r1, .string r2, .int .i64 r3, .int .i64 r4, .string r5, v5_]) ∧ Kd.R k60 60 w' w.heap.size (fun _ => True) v5_ r6 ∧ Below w.heap.size w w' := by
  unfold refusal_Head.f at h
  obtain ⟨v, hv, h⟩ := Option.bind_eq_some_iff.mp h
  obtain ⟨re, hre, h⟩ := Option.bind_eq_some_iff.mp h
  obtain ⟨T, hT, h⟩ := Option.bind_eq_some_iff.mp h
  simp only [Option.some.injEq, Prod.mk.injEq] at h
  obtain ⟨rfl, rfl, rfl, rfl, rfl, rfl⟩ := h
  exact head_walk a0 a1 a2 v re T w hv hre hT
end Go.Proofs.Ytjnhghplfdiijaa.Q

namespace Go.Proofs.Ytjnhghplfdiijaa.Q
open Go.RowKit Go.Proofs.YtjnhghplfdiijaaW.PrintWords Go.Proofs.YtjnhghplfdiijaaW.PrintLast Go.Proofs.YtjnhghplfdiijaaW.PrintMore Go.Lib
set_option linter.unusedVariables false
set_option linter.unusedSimpArgs false
theorem HI.minor {w0 W : World} {ok : Nat → Prop} {g r : Nat} {mi st : Int} {re : ByteArray} {v : Value} {l : List S60} (h : HI w0 W ok g r mi st re v l) (m' : Int) : HI w0 (W.setCell ⟨g, 2, none⟩ (.int .i64 m')) ok g r m' st re v l := by
  obtain ⟨h1, h2, h3, h4, h5⟩ := h
  have hR := Kd.R_types h3 h1 (by intro q hq; change q ∈ [60] at hq; rw [List.mem_singleton.1 hq]; decide)
  exact ⟨blk_put h1 2 _ rfl, blk_far h2 h5.2.2 _, Kd.R_mono (Kd.R_far (p := ⟨g, 2, none⟩) hR (fun k hk => hk.2) _) (fun k hk => hk.1), below_set h4 h5.1, h5⟩
def abutmentref33_Continue.f (a0 : Int) : Option (ByteArray × ByteArray × Int × Int × ByteArray × (List (S60))) := some (⟨#[]⟩, ⟨#[]⟩, if 0 < a0 then 1 else 0, 100, (⟨#[67, 111, 110, 116, 105, 110, 117, 101]⟩ : ByteArray), [])
set_option maxRecDepth 100000 in
set_option maxHeartbeats 4000000 in
theorem cont_walk (a0 m : Int) (w : World) (hm : (decide (0 < a0) = true ∧ m = 1) ∨ (decide (0 < a0) = false ∧ m = 0)) :
    Calls Try.prog 24 #[.int .i64 a0] w fun e w' => ∃ v5_ : Value, e = .returned (.agg #[.string ⟨#[]⟩, .string ⟨#[]⟩, .int .i64 m, .int .i64 100, .string (⟨#[67, 111, 110, 116, 105, 110, 117, 101]⟩ : ByteArray), v5_]) ∧ Kd.R k60 60 w' w.heap.size (fun _ => True) v5_ [] ∧ Below w.heap.size w w' := by
  have hu41 := Try.underlying41
  have HB := Aside0.mk (Below.refl w.heap.size w)
  rcases hm with ⟨c, rfl⟩ | ⟨c, rfl⟩
  all_goals
    go_enter Try.func24, Try.ntmps24
    go_upto_region 1 with (first | ((with_reducible refine gate_dst (N := 2) rfl ?_); refine box_event ?hg (N := 2) ?hd (cs := #[.string ⟨#[]⟩, .string ⟨#[]⟩, .int .i64 0, .int .i64 0, .string ⟨#[]⟩, .slice none 0 0]) (t := 41) ?hr ?_; (case hd => rfl); (case hg => rfl); (case hr => first | (go_simp; done) | (go_simp; rfl)); intro r hg w2 hbox hb; have HB_ := Aside0.mk (below_step HB.out hb); have BKr := Aside0.mk hbox; have GEr := Aside0.mk ((by rw [hg]; exact (below_size HB.out) : w.heap.size ≤ r)); clear HB; have HB := HB_; clear HB_ hb hbox hg))
    go_upto_region 2 with (first | ((with_reducible refine gate_dst (N := 3) rfl ?_); refine box_event ?hg (N := 3) ?hd (cs := #[.string ⟨#[]⟩, .string ⟨#[]⟩, .int .i64 0, .int .i64 0, .string ⟨#[]⟩, .slice none 0 0]) (t := 41) ?hr ?_; (case hd => rfl); (case hg => rfl); (case hr => first | (go_simp; done) | (go_simp; rfl)); intro g hg w5 hbox hb; have HB_ := Aside0.mk (below_step HB.out hb); have BKr_ := Aside0.mk (blk_below BKr.out hb); have BKg := Aside0.mk hbox; have GEg := Aside0.mk ((by rw [hg]; exact (below_size HB.out) : w.heap.size ≤ g)); have NE := Aside0.mk ((by rw [hg]; exact Nat.ne_of_lt (blk_lt BKr.out) : r ≠ g)); clear HB BKr; have HB := HB_; have BKr := BKr_; clear HB_ BKr_ hb hbox hg; have hcz0 : w5.cell? ⟨g, 0, none⟩ = some (.string ⟨#[]⟩) := (blk_cell BKg.out 0).trans rfl; have hfz0 := blk_frozen BKg.out 0; have hcz1 : w5.cell? ⟨g, 1, none⟩ = some (.string ⟨#[]⟩) := (blk_cell BKg.out 1).trans rfl; have hfz1 := blk_frozen BKg.out 1; have hcz2 : w5.cell? ⟨g, 2, none⟩ = some (.int .i64 0) := (blk_cell BKg.out 2).trans rfl; have hfz2 := blk_frozen BKg.out 2; have hcz3 : w5.cell? ⟨g, 3, none⟩ = some (.int .i64 0) := (blk_cell BKg.out 3).trans rfl; have hfz3 := blk_frozen BKg.out 3; have hcz4 : w5.cell? ⟨g, 4, none⟩ = some (.string ⟨#[]⟩) := (blk_cell BKg.out 4).trans rfl; have hfz4 := blk_frozen BKg.out 4; have hcz5 : w5.cell? ⟨g, 5, none⟩ = some (.slice none 0 0) := (blk_cell BKg.out 5).trans rfl; have hfz5 := blk_frozen BKg.out 5))
    clear hcz0 hfz0 hcz1 hfz1 hcz2 hfz2 hcz3 hfz3 hcz4 hfz4 hcz5 hfz5
    refine world_gen (fun w' => HI w w' (fun _ => True) g r 0 100 (⟨#[67, 111, 110, 116, 105, 110, 117, 101]⟩ : ByteArray) (.slice none 0 0) []) ⟨blk_put6 _ _ _ _ _ _ BKg.out, blk_far6 _ _ _ _ _ _ BKr.out NE.out, Kd.R_nil _ _ _ _ _, below_put6 _ _ _ _ _ _ HB.out GEg.out, GEg.out, GEr.out, NE.out⟩ ?_
    intro wy hI
    have H0 := Aside0.mk hI
    have y2 : wy.cell? ⟨g, 2, none⟩ = some (.int .i64 0) := (blk_cell hI.1 2).trans rfl
    have y3 := blk_frozen hI.1 2
    clear hI BKg BKr HB GEg GEr NE
    go_upto_region 4 with (fail)
  · refine world_gen (fun w' => HI w w' (fun _ => True) g r 1 100 (⟨#[67, 111, 110, 116, 105, 110, 117, 101]⟩ : ByteArray) (.slice none 0 0) []) (H0.out.minor 1) ?_
    intro wz hI
    have H1 := Aside0.mk hI
    clear hI H0 y2 y3
    have hN := H1.out
    have k0 : wz.cell? ⟨g, 0, none⟩ = some (.string ⟨#[]⟩) := (blk_cell hN.1 0).trans rfl
    have k1 : wz.cell? ⟨g, 1, none⟩ = some (.string ⟨#[]⟩) := (blk_cell hN.1 1).trans rfl
    have k2 : wz.cell? ⟨g, 2, none⟩ = some (.int .i64 1) := (blk_cell hN.1 2).trans rfl
    have k3 : wz.cell? ⟨g, 3, none⟩ = some (.int .i64 100) := (blk_cell hN.1 3).trans rfl
    have k4 : wz.cell? ⟨g, 4, none⟩ = some (.string (⟨#[67, 111, 110, 116, 105, 110, 117, 101]⟩ : ByteArray)) := (blk_cell hN.1 4).trans rfl
    have k5 : wz.cell? ⟨g, 5, none⟩ = some (.slice none 0 0) := (blk_cell hN.1 5).trans rfl
    have q0 : wz.cell? ⟨r, 0, none⟩ = some (.string ⟨#[]⟩) := (blk_cell hN.2.1 0).trans rfl
    have q1 : wz.cell? ⟨r, 1, none⟩ = some (.string ⟨#[]⟩) := (blk_cell hN.2.1 1).trans rfl
    have q2 : wz.cell? ⟨r, 2, none⟩ = some (.int .i64 0) := (blk_cell hN.2.1 2).trans rfl
    have q3 : wz.cell? ⟨r, 3, none⟩ = some (.int .i64 0) := (blk_cell hN.2.1 3).trans rfl
    have q4 : wz.cell? ⟨r, 4, none⟩ = some (.string ⟨#[]⟩) := (blk_cell hN.2.1 4).trans rfl
    have q5 : wz.cell? ⟨r, 5, none⟩ = some (.slice none 0 0) := (blk_cell hN.2.1 5).trans rfl
    have z0 := blk_frozen hN.2.1 0
    have z1 := blk_frozen hN.2.1 1
    have z2 := blk_frozen hN.2.1 2
    have z3 := blk_frozen hN.2.1 3
    have z4 := blk_frozen hN.2.1 4
    have z5 := blk_frozen hN.2.1 5
    clear hN
    go_wp2
    exact bodyPost_ret (results_cell_row rfl _ _ r 41 #[.string ⟨#[]⟩, .string ⟨#[]⟩, .int .i64 1, .int .i64 100, .string (⟨#[67, 111, 110, 116, 105, 110, 117, 101]⟩ : ByteArray), .slice none 0 0] (0, 0) _ rfl (blk_put6 _ _ _ _ _ _ H1.out.2.1) Try.underlying41 rfl (by kernel_rfl)) rfl ⟨_, rfl, H1.out.fin _ _ _ _ _ _, below_put6 _ _ _ _ _ _ H1.out.2.2.2.1 H1.out.2.2.2.2.2.1⟩
  · refine world_gen (fun w' => HI w w' (fun _ => True) g r 0 100 (⟨#[67, 111, 110, 116, 105, 110, 117, 101]⟩ : ByteArray) (.slice none 0 0) []) H0.out ?_
    intro wz hI
    have H1 := Aside0.mk hI
    clear hI H0 y2 y3
    have hN := H1.out
    have k0 : wz.cell? ⟨g, 0, none⟩ = some (.string ⟨#[]⟩) := (blk_cell hN.1 0).trans rfl
    have k1 : wz.cell? ⟨g, 1, none⟩ = some (.string ⟨#[]⟩) := (blk_cell hN.1 1).trans rfl
    have k2 : wz.cell? ⟨g, 2, none⟩ = some (.int .i64 0) := (blk_cell hN.1 2).trans rfl
    have k3 : wz.cell? ⟨g, 3, none⟩ = some (.int .i64 100) := (blk_cell hN.1 3).trans rfl
    have k4 : wz.cell? ⟨g, 4, none⟩ = some (.string (⟨#[67, 111, 110, 116, 105, 110, 117, 101]⟩ : ByteArray)) := (blk_cell hN.1 4).trans rfl
    have k5 : wz.cell? ⟨g, 5, none⟩ = some (.slice none 0 0) := (blk_cell hN.1 5).trans rfl
    have q0 : wz.cell? ⟨r, 0, none⟩ = some (.string ⟨#[]⟩) := (blk_cell hN.2.1 0).trans rfl
    have q1 : wz.cell? ⟨r, 1, none⟩ = some (.string ⟨#[]⟩) := (blk_cell hN.2.1 1).trans rfl
    have q2 : wz.cell? ⟨r, 2, none⟩ = some (.int .i64 0) := (blk_cell hN.2.1 2).trans rfl
    have q3 : wz.cell? ⟨r, 3, none⟩ = some (.int .i64 0) := (blk_cell hN.2.1 3).trans rfl
    have q4 : wz.cell? ⟨r, 4, none⟩ = some (.string ⟨#[]⟩) := (blk_cell hN.2.1 4).trans rfl
    have q5 : wz.cell? ⟨r, 5, none⟩ = some (.slice none 0 0) := (blk_cell hN.2.1 5).trans rfl
    have z0 := blk_frozen hN.2.1 0
    have z1 := blk_frozen hN.2.1 1
    have z2 := blk_frozen hN.2.1 2
    have z3 := blk_frozen hN.2.1 3
    have z4 := blk_frozen hN.2.1 4
    have z5 := blk_frozen hN.2.1 5
    clear hN
    go_wp2
    exact bodyPost_ret (results_cell_row rfl _ _ r 41 #[.string ⟨#[]⟩, .string ⟨#[]⟩, .int .i64 0, .int .i64 100, .string (⟨#[67, 111, 110, 116, 105, 110, 117, 101]⟩ : ByteArray), .slice none 0 0] (0, 0) _ rfl (blk_put6 _ _ _ _ _ _ H1.out.2.1) Try.underlying41 rfl (by kernel_rfl)) rfl ⟨_, rfl, H1.out.fin _ _ _ _ _ _, below_put6 _ _ _ _ _ _ H1.out.2.2.2.1 H1.out.2.2.2.2.2.1⟩
theorem abutmentref33_Continue.calls (a0 : Int) (r1 : ByteArray) (r2 : ByteArray) (r3 : Int) (r4 : Int) (r5 : ByteArray) (r6 : List (S60)) (w : World) (h : abutmentref33_Continue.f a0 = some (r1, r2, r3, r4, r5, r6)) :
    Calls Try.prog 24 #[.int .i64 a0] w fun e w' => ∃ v5_ : Value, e = .returned (.agg #[.string r1, .string r2, .int .i64 r3, .int .i64 r4, .string r5, v5_]) ∧ Kd.R k60 60 w' w.heap.size (fun _ => True) v5_ r6 ∧ Below w.heap.size w w' := by
  unfold abutmentref33_Continue.f at h
  simp only [Option.some.injEq, Prod.mk.injEq] at h
  obtain ⟨rfl, rfl, rfl, rfl, rfl, rfl⟩ := h
  refine cont_walk a0 _ w ?_
  by_cases c : 0 < a0
  · exact .inl ⟨decide_eq_true c, if_pos c⟩
  · exact .inr ⟨decide_eq_false c, if_neg c⟩
end Go.Proofs.Ytjnhghplfdiijaa.Q

namespace Go.Proofs.Ytjnhghplfdiijaa.Q
open Go.RowKit Go.Proofs.YtjnhghplfdiijaaW.PrintWords Go.Proofs.YtjnhghplfdiijaaW.PrintLast Go.Proofs.YtjnhghplfdiijaaW.PrintMore
attribute [local go_sem] max2_int min2_int max_two min_two max_three min_three max_four min_four
set_option linter.unusedVariables false
set_option linter.unusedSimpArgs false
def abutmentref15_Reason.l0 : Nat → Int → List Int → List ByteArray → Int → Option (ByteArray)
  | 0, _, _, _, _ => none
  | k + 1, x0, x3, x4, x5 => if x5 < (x3.length : Int) then (if 0 ≤ x5 then (if (rd x3 x5) = x0 then (if x5 < (x4.length : Int) then (some (rdOf ByteArray.empty x4 x5)) else (none)) else (abutmentref15_Reason.l0 k x0 x3 x4 (wrap64 (x5 + 1)))) else (none)) else (some (⟨#[]⟩ : ByteArray))
def abutmentref15_Reason.f (k : Nat) (a0 : Int) : Option (ByteArray) := abutmentref15_Reason.l0 k a0 (([100, 400, 408, 413, 417, 431, 501, 502, 504, 505, 508] : List Int)) (([(⟨#[67, 111, 110, 116, 105, 110, 117, 101]⟩ : ByteArray), (⟨#[66, 97, 100, 32, 82, 101, 113, 117, 101, 115, 116]⟩ : ByteArray), (⟨#[82, 101, 113, 117, 101, 115, 116, 32, 84, 105, 109, 101, 111, 117, 116]⟩ : ByteArray), (⟨#[67, 111, 110, 116, 101, 110, 116, 32, 84, 111, 111, 32, 76, 97, 114, 103, 101]⟩ : ByteArray), (⟨#[69, 120, 112, 101, 99, 116, 97, 116, 105, 111, 110, 32, 70, 97, 105, 108, 101, 100]⟩ : ByteArray), (⟨#[82, 101, 113, 117, 101, 115, 116, 32, 72, 101, 97, 100, 101, 114, 32, 70, 105, 101, 108, 100, 115, 32, 84, 111, 111, 32, 76, 97, 114, 103, 101]⟩ : ByteArray), (⟨#[78, 111, 116, 32, 73, 109, 112, 108, 101, 109, 101, 110, 116, 101, 100]⟩ : ByteArray), (⟨#[66, 97, 100, 32, 71, 97, 116, 101, 119, 97, 121]⟩ : ByteArray), (⟨#[71, 97, 116, 101, 119, 97, 121, 32, 84, 105, 109, 101, 111, 117, 116]⟩ : ByteArray), (⟨#[72, 84, 84, 80, 32, 86, 101, 114, 115, 105, 111, 110, 32, 78, 111, 116, 32, 83, 117, 112, 112, 111, 114, 116, 101, 100]⟩ : ByteArray), (⟨#[76, 111, 111, 112, 32, 68, 101, 116, 101, 99, 116, 101, 100]⟩ : ByteArray)] : List ByteArray)) 0
theorem abutmentref15_Reason.mono_l : ∀ k, (∀ y0 y1 y2 y3, LeO (abutmentref15_Reason.l0 k y0 y1 y2 y3) (abutmentref15_Reason.l0 (k + 1) y0 y1 y2 y3))
  | 0 => fun _ _ _ _ r h => by simp [abutmentref15_Reason.l0] at h
  | k + 1 => by
    have ih0 := abutmentref15_Reason.mono_l k
    · intro y0 y1 y2 y3
      unfold abutmentref15_Reason.l0
      repeat' first
      | (with_reducible exact ih0 _ _ _ _)
      | (with_reducible exact LeO.refl _)
      | (with_reducible exact LeO.none _)
      | (with_reducible refine LeO.ite ?_ ?_)
      | (with_reducible refine LeO.bind ?_ (fun _ => ?_))
      | exact ih0 _ _ _ _
      | exact LeO.none _
      | refine LeO.ite ?_ ?_
      | refine LeO.bind ?_ (fun _ => ?_)
theorem abutmentref15_Reason.mono : ∀ a0 k, LeO (abutmentref15_Reason.f k a0) (abutmentref15_Reason.f (k + 1) a0) := by
  intro a0 k
  have ih0 := abutmentref15_Reason.mono_l k
  unfold abutmentref15_Reason.f
  repeat' first
      | (with_reducible exact ih0 _ _ _ _)
      | (with_reducible exact LeO.refl _)
      | (with_reducible exact LeO.none _)
      | (with_reducible refine LeO.ite ?_ ?_)
      | (with_reducible refine LeO.bind ?_ (fun _ => ?_))
      | exact ih0 _ _ _ _
      | exact LeO.none _
      | refine LeO.ite ?_ ?_
      | refine LeO.bind ?_ (fun _ => ?_)
set_option maxHeartbeats 8000000 in
set_option maxRecDepth 100000 in
theorem abutmentref15_Reason.calls (k : Nat) (a0 : Int) (r : ByteArray) (w : World) (h : abutmentref15_Reason.f k a0 = some r) :
    Calls Try.prog 71 #[.int .i64 a0] w fun e w' => e = .returned (.string r) ∧ Below w.heap.size w w' := by
  have HB := Aside0.mk (Below.refl w.heap.size w)
  have H : (abutmentref15_Reason.l0 k a0 (([100, 400, 408, 413, 417, 431, 501, 502, 504, 505, 508] : List Int)) (([(⟨#[67, 111, 110, 116, 105, 110, 117, 101]⟩ : ByteArray), (⟨#[66, 97, 100, 32, 82, 101, 113, 117, 101, 115, 116]⟩ : ByteArray), (⟨#[82, 101, 113, 117, 101, 115, 116, 32, 84, 105, 109, 101, 111, 117, 116]⟩ : ByteArray), (⟨#[67, 111, 110, 116, 101, 110, 116, 32, 84, 111, 111, 32, 76, 97, 114, 103, 101]⟩ : ByteArray), (⟨#[69, 120, 112, 101, 99, 116, 97, 116, 105, 111, 110, 32, 70, 97, 105, 108, 101, 100]⟩ : ByteArray), (⟨#[82, 101, 113, 117, 101, 115, 116, 32, 72, 101, 97, 100, 101, 114, 32, 70, 105, 101, 108, 100, 115, 32, 84, 111, 111, 32, 76, 97, 114, 103, 101]⟩ : ByteArray), (⟨#[78, 111, 116, 32, 73, 109, 112, 108, 101, 109, 101, 110, 116, 101, 100]⟩ : ByteArray), (⟨#[66, 97, 100, 32, 71, 97, 116, 101, 119, 97, 121]⟩ : ByteArray), (⟨#[71, 97, 116, 101, 119, 97, 121, 32, 84, 105, 109, 101, 111, 117, 116]⟩ : ByteArray), (⟨#[72, 84, 84, 80, 32, 86, 101, 114, 115, 105, 111, 110, 32, 78, 111, 116, 32, 83, 117, 112, 112, 111, 114, 116, 101, 100]⟩ : ByteArray), (⟨#[76, 111, 111, 112, 32, 68, 101, 116, 101, 99, 116, 101, 100]⟩ : ByteArray)] : List ByteArray)) 0) = some r := h
  clear h
  obtain ⟨y101, hy101⟩ : ∃ y_ : List Int, y_ = (([100, 400, 408, 413, 417, 431, 501, 502, 504, 505, 508] : List Int)) := ⟨_, rfl⟩
  replace H : (abutmentref15_Reason.l0 k a0 y101 (([(⟨#[67, 111, 110, 116, 105, 110, 117, 101]⟩ : ByteArray), (⟨#[66, 97, 100, 32, 82, 101, 113, 117, 101, 115, 116]⟩ : ByteArray), (⟨#[82, 101, 113, 117, 101, 115, 116, 32, 84, 105, 109, 101, 111, 117, 116]⟩ : ByteArray), (⟨#[67, 111, 110, 116, 101, 110, 116, 32, 84, 111, 111, 32, 76, 97, 114, 103, 101]⟩ : ByteArray), (⟨#[69, 120, 112, 101, 99, 116, 97, 116, 105, 111, 110, 32, 70, 97, 105, 108, 101, 100]⟩ : ByteArray), (⟨#[82, 101, 113, 117, 101, 115, 116, 32, 72, 101, 97, 100, 101, 114, 32, 70, 105, 101, 108, 100, 115, 32, 84, 111, 111, 32, 76, 97, 114, 103, 101]⟩ : ByteArray), (⟨#[78, 111, 116, 32, 73, 109, 112, 108, 101, 109, 101, 110, 116, 101, 100]⟩ : ByteArray), (⟨#[66, 97, 100, 32, 71, 97, 116, 101, 119, 97, 121]⟩ : ByteArray), (⟨#[71, 97, 116, 101, 119, 97, 121, 32, 84, 105, 109, 101, 111, 117, 116]⟩ : ByteArray), (⟨#[72, 84, 84, 80, 32, 86, 101, 114, 115, 105, 111, 110, 32, 78, 111, 116, 32, 83, 117, 112, 112, 111, 114, 116, 101, 100]⟩ : ByteArray), (⟨#[76, 111, 111, 112, 32, 68, 101, 116, 101, 99, 116, 101, 100]⟩ : ByteArray)] : List ByteArray)) 0) = some r := by first | (rw [hy101]; with_reducible exact H) | (have H2_ := (Option.bind_some _ _).symm.trans H; rw [hy101]; with_reducible exact H2_) | (have H2_ := (Option.bind_some _ _).symm.trans H; with_reducible exact H2_) | with_reducible exact H | (rw [hy101]; exact H) | exact H
  have Ny101 := Aside0.mk hy101
  clear hy101
  obtain ⟨y104, hy104⟩ : ∃ y_ : List ByteArray, y_ = (([(⟨#[67, 111, 110, 116, 105, 110, 117, 101]⟩ : ByteArray), (⟨#[66, 97, 100, 32, 82, 101, 113, 117, 101, 115, 116]⟩ : ByteArray), (⟨#[82, 101, 113, 117, 101, 115, 116, 32, 84, 105, 109, 101, 111, 117, 116]⟩ : ByteArray), (⟨#[67, 111, 110, 116, 101, 110, 116, 32, 84, 111, 111, 32, 76, 97, 114, 103, 101]⟩ : ByteArray), (⟨#[69, 120, 112, 101, 99, 116, 97, 116, 105, 111, 110, 32, 70, 97, 105, 108, 101, 100]⟩ : ByteArray), (⟨#[82, 101, 113, 117, 101, 115, 116, 32, 72, 101, 97, 100, 101, 114, 32, 70, 105, 101, 108, 100, 115, 32, 84, 111, 111, 32, 76, 97, 114, 103, 101]⟩ : ByteArray), (⟨#[78, 111, 116, 32, 73, 109, 112, 108, 101, 109, 101, 110, 116, 101, 100]⟩ : ByteArray), (⟨#[66, 97, 100, 32, 71, 97, 116, 101, 119, 97, 121]⟩ : ByteArray), (⟨#[71, 97, 116, 101, 119, 97, 121, 32, 84, 105, 109, 101, 111, 117, 116]⟩ : ByteArray), (⟨#[72, 84, 84, 80, 32, 86, 101, 114, 115, 105, 111, 110, 32, 78, 111, 116, 32, 83, 117, 112, 112, 111, 114, 116, 101, 100]⟩ : ByteArray), (⟨#[76, 111, 111, 112, 32, 68, 101, 116, 101, 99, 116, 101, 100]⟩ : ByteArray)] : List ByteArray)) := ⟨_, rfl⟩
  replace H : (abutmentref15_Reason.l0 k a0 y101 y104 0) = some r := by first | (rw [hy104]; with_reducible exact H) | (have H2_ := (Option.bind_some _ _).symm.trans H; rw [hy104]; with_reducible exact H2_) | (have H2_ := (Option.bind_some _ _).symm.trans H; with_reducible exact H2_) | with_reducible exact H | (rw [hy104]; exact H) | exact H
  have Ny104 := Aside0.mk hy104
  clear hy104
  have H' := Aside0.mk H
  clear H
  go_enter Try.func71, Try.ntmps71
  go_wp2_with (first | ((with_reducible refine gate_dst (N := 6) rfl ?_); refine Kd.R_lit (Kd.int .i64) _ 3 ?hg (N := 6) ?hd (xs := ([100, 400, 408, 413, 417, 431, 501, 502, 504, 505, 508] : List Int)) (inner := [.int .i64 100, .int .i64 400, .int .i64 408, .int .i64 413, .int .i64 417, .int .i64 431, .int .i64 501, .int .i64 502, .int .i64 504, .int .i64 505, .int .i64 508]) (ok := fun _ => True) (okp := fun _ => True) ?hr ?hp (fun _ hk => hk) trivial (Below.refl _ _) (Nat.le_refl _) (by simp) ?_; (case hd => rfl); (case hg => rfl); (case hr => first | (go_simp; done) | (go_simp; rfl)); (case hp => exact (Reps.one (show Kd.M (Kd.int .i64) _ _ _ 100 [.int .i64 100] from rfl) (Reps.one (show Kd.M (Kd.int .i64) _ _ _ 400 [.int .i64 400] from rfl) (Reps.one (show Kd.M (Kd.int .i64) _ _ _ 408 [.int .i64 408] from rfl) (Reps.one (show Kd.M (Kd.int .i64) _ _ _ 413 [.int .i64 413] from rfl) (Reps.one (show Kd.M (Kd.int .i64) _ _ _ 417 [.int .i64 417] from rfl) (Reps.one (show Kd.M (Kd.int .i64) _ _ _ 431 [.int .i64 431] from rfl) (Reps.one (show Kd.M (Kd.int .i64) _ _ _ 501 [.int .i64 501] from rfl) (Reps.one (show Kd.M (Kd.int .i64) _ _ _ 502 [.int .i64 502] from rfl) (Reps.one (show Kd.M (Kd.int .i64) _ _ _ 504 [.int .i64 504] from rfl) (Reps.one (show Kd.M (Kd.int .i64) _ _ _ 505 [.int .i64 505] from rfl) (Reps.one (show Kd.M (Kd.int .i64) _ _ _ 508 [.int .i64 508] from rfl) (Reps.none _ _))))))))))))); intro v102 w2 ho3 hb hg_ hnew_; clear hg_ hnew_; (first | rw [← Ny101.out] at ho3 | (simp only [Int.reduceToNat] at ho3; rw [← Ny101.out] at ho3)); have n0_ := Aside0.mk (Kd.R_lower ho3 (below_size (by repeat (first | (with_reducible first | exact HB.out | apply below_alloc | apply pw_below_drewN | apply below_drew1) | exact HB.out)))); have n1_ := Aside0.mk (below_step (by repeat (first | (with_reducible first | exact HB.out | apply below_alloc | apply pw_below_drewN | apply below_drew1) | exact HB.out)) hb); clear HB; have HO103 := n0_; have HB := n1_; clear n0_ n1_; clear hb ho3) | ((with_reducible refine gate_dst (N := 7) rfl ?_); refine Kd.R_lit Kd.string _ 9 ?hg (N := 7) ?hd (xs := ([(⟨#[67, 111, 110, 116, 105, 110, 117, 101]⟩ : ByteArray), (⟨#[66, 97, 100, 32, 82, 101, 113, 117, 101, 115, 116]⟩ : ByteArray), (⟨#[82, 101, 113, 117, 101, 115, 116, 32, 84, 105, 109, 101, 111, 117, 116]⟩ : ByteArray), (⟨#[67, 111, 110, 116, 101, 110, 116, 32, 84, 111, 111, 32, 76, 97, 114, 103, 101]⟩ : ByteArray), (⟨#[69, 120, 112, 101, 99, 116, 97, 116, 105, 111, 110, 32, 70, 97, 105, 108, 101, 100]⟩ : ByteArray), (⟨#[82, 101, 113, 117, 101, 115, 116, 32, 72, 101, 97, 100, 101, 114, 32, 70, 105, 101, 108, 100, 115, 32, 84, 111, 111, 32, 76, 97, 114, 103, 101]⟩ : ByteArray), (⟨#[78, 111, 116, 32, 73, 109, 112, 108, 101, 109, 101, 110, 116, 101, 100]⟩ : ByteArray), (⟨#[66, 97, 100, 32, 71, 97, 116, 101, 119, 97, 121]⟩ : ByteArray), (⟨#[71, 97, 116, 101, 119, 97, 121, 32, 84, 105, 109, 101, 111, 117, 116]⟩ : ByteArray), (⟨#[72, 84, 84, 80, 32, 86, 101, 114, 115, 105, 111, 110, 32, 78, 111, 116, 32, 83, 117, 112, 112, 111, 114, 116, 101, 100]⟩ : ByteArray), (⟨#[76, 111, 111, 112, 32, 68, 101, 116, 101, 99, 116, 101, 100]⟩ : ByteArray)] : List ByteArray)) (inner := [.string (⟨#[67, 111, 110, 116, 105, 110, 117, 101]⟩ : ByteArray), .string (⟨#[66, 97, 100, 32, 82, 101, 113, 117, 101, 115, 116]⟩ : ByteArray), .string (⟨#[82, 101, 113, 117, 101, 115, 116, 32, 84, 105, 109, 101, 111, 117, 116]⟩ : ByteArray), .string (⟨#[67, 111, 110, 116, 101, 110, 116, 32, 84, 111, 111, 32, 76, 97, 114, 103, 101]⟩ : ByteArray), .string (⟨#[69, 120, 112, 101, 99, 116, 97, 116, 105, 111, 110, 32, 70, 97, 105, 108, 101, 100]⟩ : ByteArray), .string (⟨#[82, 101, 113, 117, 101, 115, 116, 32, 72, 101, 97, 100, 101, 114, 32, 70, 105, 101, 108, 100, 115, 32, 84, 111, 111, 32, 76, 97, 114, 103, 101]⟩ : ByteArray), .string (⟨#[78, 111, 116, 32, 73, 109, 112, 108, 101, 109, 101, 110, 116, 101, 100]⟩ : ByteArray), .string (⟨#[66, 97, 100, 32, 71, 97, 116, 101, 119, 97, 121]⟩ : ByteArray), .string (⟨#[71, 97, 116, 101, 119, 97, 121, 32, 84, 105, 109, 101, 111, 117, 116]⟩ : ByteArray), .string (⟨#[72, 84, 84, 80, 32, 86, 101, 114, 115, 105, 111, 110, 32, 78, 111, 116, 32, 83, 117, 112, 112, 111, 114, 116, 101, 100]⟩ : ByteArray), .string (⟨#[76, 111, 111, 112, 32, 68, 101, 116, 101, 99, 116, 101, 100]⟩ : ByteArray)]) (ok := fun _ => True) (okp := fun _ => True) ?hr ?hp (fun _ hk => hk) trivial (Below.refl _ _) (Nat.le_refl _) (by simp) ?_; (case hd => rfl); (case hg => rfl); (case hr => first | (go_simp; done) | (go_simp; rfl)); (case hp => exact (Reps.one (show Kd.M Kd.string _ _ _ (⟨#[67, 111, 110, 116, 105, 110, 117, 101]⟩ : ByteArray) [.string (⟨#[67, 111, 110, 116, 105, 110, 117, 101]⟩ : ByteArray)] from rfl) (Reps.one (show Kd.M Kd.string _ _ _ (⟨#[66, 97, 100, 32, 82, 101, 113, 117, 101, 115, 116]⟩ : ByteArray) [.string (⟨#[66, 97, 100, 32, 82, 101, 113, 117, 101, 115, 116]⟩ : ByteArray)] from rfl) (Reps.one (show Kd.M Kd.string _ _ _ (⟨#[82, 101, 113, 117, 101, 115, 116, 32, 84, 105, 109, 101, 111, 117, 116]⟩ : ByteArray) [.string (⟨#[82, 101, 113, 117, 101, 115, 116, 32, 84, 105, 109, 101, 111, 117, 116]⟩ : ByteArray)] from rfl) (Reps.one (show Kd.M Kd.string _ _ _ (⟨#[67, 111, 110, 116, 101, 110, 116, 32, 84, 111, 111, 32, 76, 97, 114, 103, 101]⟩ : ByteArray) [.string (⟨#[67, 111, 110, 116, 101, 110, 116, 32, 84, 111, 111, 32, 76, 97, 114, 103, 101]⟩ : ByteArray)] from rfl) (Reps.one (show Kd.M Kd.string _ _ _ (⟨#[69, 120, 112, 101, 99, 116, 97, 116, 105, 111, 110, 32, 70, 97, 105, 108, 101, 100]⟩ : ByteArray) [.string (⟨#[69, 120, 112, 101, 99, 116, 97, 116, 105, 111, 110, 32, 70, 97, 105, 108, 101, 100]⟩ : ByteArray)] from rfl) (Reps.one (show Kd.M Kd.string _ _ _ (⟨#[82, 101, 113, 117, 101, 115, 116, 32, 72, 101, 97, 100, 101, 114, 32, 70, 105, 101, 108, 100, 115, 32, 84, 111, 111, 32, 76, 97, 114, 103, 101]⟩ : ByteArray) [.string (⟨#[82, 101, 113, 117, 101, 115, 116, 32, 72, 101, 97, 100, 101, 114, 32, 70, 105, 101, 108, 100, 115, 32, 84, 111, 111, 32, 76, 97, 114, 103, 101]⟩ : ByteArray)] from rfl) (Reps.one (show Kd.M Kd.string _ _ _ (⟨#[78, 111, 116, 32, 73, 109, 112, 108, 101, 109, 101, 110, 116, 101, 100]⟩ : ByteArray) [.string (⟨#[78, 111, 116, 32, 73, 109, 112, 108, 101, 109, 101, 110, 116, 101, 100]⟩ : ByteArray)] from rfl) (Reps.one (show Kd.M Kd.string _ _ _ (⟨#[66, 97, 100, 32, 71, 97, 116, 101, 119, 97, 121]⟩ : ByteArray) [.string (⟨#[66, 97, 100, 32, 71, 97, 116, 101, 119, 97, 121]⟩ : ByteArray)] from rfl) (Reps.one (show Kd.M Kd.string _ _ _ (⟨#[71, 97, 116, 101, 119, 97, 121, 32, 84, 105, 109, 101, 111, 117, 116]⟩ : ByteArray) [.string (⟨#[71, 97, 116, 101, 119, 97, 121, 32, 84, 105, 109, 101, 111, 117, 116]⟩ : ByteArray)] from rfl) (Reps.one (show Kd.M Kd.string _ _ _ (⟨#[72, 84, 84, 80, 32, 86, 101, 114, 115, 105, 111, 110, 32, 78, 111, 116, 32, 83, 117, 112, 112, 111, 114, 116, 101, 100]⟩ : ByteArray) [.string (⟨#[72, 84, 84, 80, 32, 86, 101, 114, 115, 105, 111, 110, 32, 78, 111, 116, 32, 83, 117, 112, 112, 111, 114, 116, 101, 100]⟩ : ByteArray)] from rfl) (Reps.one (show Kd.M Kd.string _ _ _ (⟨#[76, 111, 111, 112, 32, 68, 101, 116, 101, 99, 116, 101, 100]⟩ : ByteArray) [.string (⟨#[76, 111, 111, 112, 32, 68, 101, 116, 101, 99, 116, 101, 100]⟩ : ByteArray)] from rfl) (Reps.none _ _))))))))))))); intro v105 w4 ho5 hb hg_ hnew_; clear hg_ hnew_; (first | rw [← Ny104.out] at ho5 | (simp only [Int.reduceToNat] at ho5; rw [← Ny104.out] at ho5)); have n0_ := Aside0.mk (Kd.R_below (by (with_reducible repeat (first | apply Kd.R_alloc | apply Kd.R_drewN | apply Kd.R_drew)); exact HO103.out) hb); have n1_ := Aside0.mk (Kd.R_lower ho5 (below_size (by repeat (first | (with_reducible first | exact HB.out | apply below_alloc | apply pw_below_drewN | apply below_drew1) | exact HB.out)))); have n2_ := Aside0.mk (below_step (by repeat (first | (with_reducible first | exact HB.out | apply below_alloc | apply pw_below_drewN | apply below_drew1) | exact HB.out)) hb); clear HO103; clear HB; have HO103 := n0_; have HO106 := n1_; have HB := n2_; clear n0_ n1_ n2_; clear hb ho5))
  go_loopg [5] k (fun kq v5 w' => ∃ (x5_1 : Int), v5 = .int .i64 x5_1 ∧ Aside0 (abutmentref15_Reason.l0 kq a0 y101 y104 x5_1 = some r) ∧ Aside0 (kq ≤ k) ∧ Aside0 (Kd.R (Kd.int .i64) 3 w' w.heap.size (fun _ => True) v102 y101) ∧ Aside0 (Kd.R Kd.string 9 w' w.heap.size (fun _ => True) v105 y104) ∧ Aside0 (Below w.heap.size w w'))
  case atStart => exact ⟨(0), (by first | rfl | (simp; done) | (simp [*]; done)), H', ⟨Nat.le_refl _⟩, ⟨by (with_reducible repeat (first | apply Kd.R_alloc | apply Kd.R_drewN | apply Kd.R_drew)); exact HO103.out⟩, ⟨by (with_reducible repeat (first | apply Kd.R_alloc | apply Kd.R_drewN | apply Kd.R_drew)); exact HO106.out⟩, ⟨by repeat (first | (with_reducible first | exact HB.out | apply below_alloc | apply pw_below_drewN | apply below_drew1) | exact HB.out)⟩⟩
  case round =>
    clear H'
    try clear p2
    obtain ⟨x5_1, rfl, HA, HK1, HO_3, HO_4, HB⟩ := hrel
    cases gk with
    | zero => exact absurd HA.out (by simp [abutmentref15_Reason.l0])
    | succ k1 =>
      have H := HA.out
      clear HA
      simp only [abutmentref15_Reason.l0] at H
      by_cases c6 : x5_1 < (y101.length : Int)
      · rw [if_pos c6] at H
        have c6b0 : decide (x5_1 < (y101.length : Int)) = true := decide_eq_true c6
        clear c6
        by_cases c7 : 0 ≤ x5_1
        · rw [if_pos c7] at H
          have c7b0 : decide (0 ≤ x5_1) = true := decide_eq_true c7
          clear c7
          by_cases c8 : (rd y101 x5_1) = a0
          · rw [if_pos c8] at H
            have c8b0 : ((rd y101 x5_1) == a0) = true := beq_iff_eq.mpr c8
            have c8b1 : ((rd y101 x5_1) != a0) = false := bne_eq_false_iff_eq.mpr c8
            clear c8
            by_cases c9 : x5_1 < (y104.length : Int)
            · rw [if_pos c9] at H
              have c9b0 : decide (x5_1 < (y104.length : Int)) = true := decide_eq_true c9
              clear c9
              obtain rfl := Option.some.inj H
              obtain ⟨Ao10, co10, eo10⟩ := Kd.R_slice HO_3.out
              subst eo10
              have p107 : 0 ≤ (x5_1 : Int) := of_decide_eq_true (by first | (with_reducible assumption) | assumption)
              have q107 : x5_1 < (y101.length : Int) := of_decide_eq_true (by first | (with_reducible assumption) | assumption)
              obtain ⟨ad107, e107, hx107_0⟩ := Kd.at_int (Kd.R_reads' HO_3.out).2.2 x5_1 p107 q107
              cases e107
              replace p107 := eq_true p107
              replace q107 := eq_true q107
              obtain ⟨Ao11, co11, eo11⟩ := Kd.R_slice HO_4.out
              subst eo11
              have p108 : 0 ≤ (x5_1 : Int) := of_decide_eq_true (by first | (with_reducible assumption) | assumption)
              have q108 : x5_1 < (y104.length : Int) := of_decide_eq_true (by first | (with_reducible assumption) | assumption)
              obtain ⟨ad108, e108, hx108_0⟩ := Kd.at_string (Kd.R_reads' HO_4.out).2.2 x5_1 p108 q108
              cases e108
              replace p108 := eq_true p108
              replace q108 := eq_true q108
              go_wp2
              go_ret
              exact ⟨by first | rfl | (simp [errW_none, errW_some] <;> rfl) | (simp [*, errW_none, errW_some] <;> rfl), by repeat (first | (with_reducible first | exact HB.out | apply below_alloc | apply pw_below_drewN | apply below_drew1) | exact HB.out)⟩
            · rw [if_neg c9] at H
              exact absurd H (by simp)
          · rw [if_neg c8] at H
            have c8b0 : ((rd y101 x5_1) == a0) = false := beq_eq_false_iff_ne.mpr c8
            have c8b1 : ((rd y101 x5_1) != a0) = true := bne_iff_ne.mpr c8
            have H' := Aside0.mk H
            clear H
            obtain ⟨Ao12, co12, eo12⟩ := Kd.R_slice HO_3.out
            subst eo12
            have p107 : 0 ≤ (x5_1 : Int) := of_decide_eq_true (by first | (with_reducible assumption) | assumption)
            have q107 : x5_1 < (y101.length : Int) := of_decide_eq_true (by first | (with_reducible assumption) | assumption)
            obtain ⟨ad107, e107, hx107_0⟩ := Kd.at_int (Kd.R_reads' HO_3.out).2.2 x5_1 p107 q107
            cases e107
            replace p107 := eq_true p107
            replace q107 := eq_true q107
            go_wp2
            go_roundg k1
            case measure => have := HK1.out; omega
            case rel => exact ⟨(wrap64 (x5_1 + 1)), (by first | rfl | (simp; done) | (simp [*]; done)), H', ⟨by have := HK1.out; omega⟩, ⟨by (with_reducible repeat (first | apply Kd.R_alloc | apply Kd.R_drewN | apply Kd.R_drew)); exact HO_3.out⟩, ⟨by (with_reducible repeat (first | apply Kd.R_alloc | apply Kd.R_drewN | apply Kd.R_drew)); exact HO_4.out⟩, ⟨by repeat (first | (with_reducible first | exact HB.out | apply below_alloc | apply pw_below_drewN | apply below_drew1) | exact HB.out)⟩⟩
        · rw [if_neg c7] at H
          exact absurd H (by simp)
      · rw [if_neg c6] at H
        have c6b0 : decide (x5_1 < (y101.length : Int)) = false := decide_eq_false c6
        clear c6
        obtain rfl := Option.some.inj H
        obtain ⟨Ao13, co13, eo13⟩ := Kd.R_slice HO_3.out
        subst eo13
        go_wp2
        go_ret
        exact ⟨by first | rfl | (simp [errW_none, errW_some] <;> rfl) | (simp [*, errW_none, errW_some] <;> rfl), by repeat (first | (with_reducible first | exact HB.out | apply below_alloc | apply pw_below_drewN | apply below_drew1) | exact HB.out)⟩
end Go.Proofs.Ytjnhghplfdiijaa.Q

namespace Go.Proofs.Ytjnhghplfdiijaa.Q
open Go.RowKit Go.Proofs.YtjnhghplfdiijaaW.PrintWords Go.Proofs.YtjnhghplfdiijaaW.PrintLast Go.Proofs.YtjnhghplfdiijaaW.PrintMore Go.Lib
set_option linter.unusedVariables false
set_option linter.unusedSimpArgs false
set_option maxRecDepth 100000 in
set_option maxHeartbeats 16000000 in
theorem refhead_walk (k : Nat) (st mi now m : Int) (re T : ByteArray) (w : World) (hm : (decide (0 < mi) = true ∧ m = 1) ∨ (decide (0 < mi) = false ∧ m = 0)) (hre : abutmentref15_Reason.f k st = some re) (hT : abutmentref06_Print.f k now = some T) :
    Calls Try.prog 22 #[.int .i64 st, .int .i64 mi, .int .i64 now] w fun e w' => ∃ v5 : Value, e = .returned (.agg #[.string ⟨#[]⟩, .string ⟨#[]⟩, .int .i64 m, .int .i64 st, .string re, v5]) ∧ Kd.R k60 60 w' w.heap.size (fun _ => True) v5 (refFields T) ∧ Below w.heap.size w w' := by
  have hu41 := Try.underlying41
  obtain ⟨RF, hRF⟩ : ∃ RF, refFields T = RF := ⟨_, rfl⟩
  rw [hRF]
  have HRF := Aside0.mk hRF
  clear hRF
  have HB := Aside0.mk (Below.refl w.heap.size w)
  have HRe := Aside0.mk hre
  have HT := Aside0.mk hT
  have HM := Aside0.mk hm
  clear hre hT hm
  go_enter Try.func22, Try.ntmps22
  go_upto_region 1 with (first | ((with_reducible refine gate_dst (N := 6) rfl ?_); refine box_event ?hg (N := 6) ?hd (cs := #[.string ⟨#[]⟩, .string ⟨#[]⟩, .int .i64 0, .int .i64 0, .string ⟨#[]⟩, .slice none 0 0]) (t := 41) ?hr ?_; (case hd => rfl); (case hg => rfl); (case hr => first | (go_simp; done) | (go_simp; rfl)); intro r hg w2 hbox hb; have HB_ := Aside0.mk (below_step HB.out hb); have BKr := Aside0.mk hbox; have GEr := Aside0.mk ((by rw [hg]; exact (below_size HB.out) : w.heap.size ≤ r)); clear HB; have HB := HB_; clear HB_ hb hbox hg))
  go_wp2_with fail
  ((with_reducible refine (abutmentref15_Reason.calls k st re _ HRe.out).mono ?_))
  rintro e w3 ⟨rfl, hb⟩
  have HB_ := Aside0.mk (below_step HB.out hb)
  have BKr_ := Aside0.mk (blk_below BKr.out hb)
  clear hb HB BKr
  have HB := HB_
  have BKr := BKr_
  clear HB_ BKr_
  go_upto_region 2 with (first | ((with_reducible refine gate_dst (N := 7) rfl ?_); refine box_event ?hg (N := 7) ?hd (cs := #[.string ⟨#[]⟩, .string ⟨#[]⟩, .int .i64 0, .int .i64 0, .string ⟨#[]⟩, .slice none 0 0]) (t := 41) ?hr ?_; (case hd => rfl); (case hg => rfl); (case hr => first | (go_simp; done) | (go_simp; rfl)); intro g hg w5 hbox hb; have HB_ := Aside0.mk (below_step HB.out hb); have BKr_ := Aside0.mk (blk_below BKr.out hb); have BKg := Aside0.mk hbox; have GEg := Aside0.mk ((by rw [hg]; exact (below_size HB.out) : w.heap.size ≤ g)); have NE := Aside0.mk ((by rw [hg]; exact Nat.ne_of_lt (blk_lt BKr.out) : r ≠ g)); clear HB BKr; have HB := HB_; have BKr := BKr_; clear HB_ BKr_ hb hbox hg; have hcz0 : w5.cell? ⟨g, 0, none⟩ = some (.string ⟨#[]⟩) := (blk_cell BKg.out 0).trans rfl; have hfz0 := blk_frozen BKg.out 0; have hcz1 : w5.cell? ⟨g, 1, none⟩ = some (.string ⟨#[]⟩) := (blk_cell BKg.out 1).trans rfl; have hfz1 := blk_frozen BKg.out 1; have hcz2 : w5.cell? ⟨g, 2, none⟩ = some (.int .i64 0) := (blk_cell BKg.out 2).trans rfl; have hfz2 := blk_frozen BKg.out 2; have hcz3 : w5.cell? ⟨g, 3, none⟩ = some (.int .i64 0) := (blk_cell BKg.out 3).trans rfl; have hfz3 := blk_frozen BKg.out 3; have hcz4 : w5.cell? ⟨g, 4, none⟩ = some (.string ⟨#[]⟩) := (blk_cell BKg.out 4).trans rfl; have hfz4 := blk_frozen BKg.out 4; have hcz5 : w5.cell? ⟨g, 5, none⟩ = some (.slice none 0 0) := (blk_cell BKg.out 5).trans rfl; have hfz5 := blk_frozen BKg.out 5))
  clear hcz0 hfz0 hcz1 hfz1 hcz2 hfz2 hcz3 hfz3 hcz4 hfz4 hcz5 hfz5
  refine world_gen (fun w' => HI w w' (fun _ => True) g r 0 st re (.slice none 0 0) []) ⟨blk_put6 _ _ _ _ _ _ BKg.out, blk_far6 _ _ _ _ _ _ BKr.out NE.out, Kd.R_nil _ _ _ _ _, below_put6 _ _ _ _ _ _ HB.out GEg.out, GEg.out, GEr.out, NE.out⟩ ?_
  intro wy hI
  have H0 := Aside0.mk hI
  have y2 : wy.cell? ⟨g, 2, none⟩ = some (.int .i64 0) := (blk_cell hI.1 2).trans rfl
  have y3 := blk_frozen hI.1 2
  clear hI BKg BKr HB GEg GEr NE
  rcases HM.out with ⟨c, hm⟩ | ⟨c, hm⟩
  all_goals
    clear HM
    go_upto_region 4 with (fail)
    subst hm
  · refine world_gen (fun w' => HI w w' (fun _ => True) g r 1 st re (.slice none 0 0) []) (H0.out.minor 1) ?_
    intro wx hI
    have H1 := Aside0.mk hI
    clear hI H0 y2 y3
    go_wp2_with fail
    ((with_reducible refine (abutmentref06_Print.calls k now T _ HT.out).mono ?_))
    rintro e w7 ⟨rfl, hb⟩
    have H4 := Aside0.mk (H1.out.below hb)
    clear hb H1
    cases hc : decide (T.toList = ([] : List UInt8)) with
    | true =>
      have hT0 := of_decide_eq_true hc
      have hT1 : (T.toList != ([] : List UInt8)) = false := bne_eq_false_iff_eq.2 hT0
      have hT2 : T.toList.isEmpty = true := by rw [hT0]; rfl
      have HF : Aside0 (refFields T = ([] : List S60) ++ ([⟨lenN, ⟨#[48]⟩⟩, ⟨conN, ⟨#[99, 108, 111, 115, 101]⟩⟩] : List S60)) := ⟨by unfold refFields; rw [if_pos hT0]; rfl⟩
      clear hc hT0
      have c7 := H4.out.cell
      have f7 := H4.out.fro
      go_upto_region 8 with (first | ((with_reducible refine gate_dst (N := 31) rfl ?_); refine Kd.R_lit k60 _ 60 ?hg (N := 31) ?hd (xs := ([⟨lenN, ⟨#[48]⟩⟩, ⟨conN, ⟨#[99, 108, 111, 115, 101]⟩⟩] : List S60)) (inner := [.string lenN, .string (⟨#[48]⟩ : ByteArray), .string conN, .string (⟨#[99, 108, 111, 115, 101]⟩ : ByteArray)]) (ok := fun _ => True) (okp := fun _ => True) ?hr ?hp (fun _ hk => hk) trivial (Below.refl _ _) (Nat.le_refl _) (by simp) ?_; (case hd => rfl); (case hg => rfl); (case hr => first | (go_simp; done) | (go_simp; rfl)); (case hp => exact (Reps.c2 (show Kd.M k60 _ _ _ (⟨lenN, ⟨#[48]⟩⟩ : S60) [.string lenN, .string (⟨#[48]⟩ : ByteArray)] from (k60_mkM _ _ _ (⟨lenN, ⟨#[48]⟩⟩ : S60))) (Reps.c2 (show Kd.M k60 _ _ _ (⟨conN, ⟨#[99, 108, 111, 115, 101]⟩⟩ : S60) [.string conN, .string (⟨#[99, 108, 111, 115, 101]⟩ : ByteArray)] from (k60_mkM _ _ _ (⟨conN, ⟨#[99, 108, 111, 115, 101]⟩⟩ : S60))) (Reps.none _ _)))); intro v106 w16 ho17 hb hg_ hnew_; have HO := Aside0.mk (Kd.R_lower ho17 (below_size H4.out.2.2.2.1)); have HX := Aside0.mk (H4.out.below hb); have HXs := Aside0.mk (below_size HX.out.2.2.2.1); clear hg_ hnew_ hb ho17; obtain ⟨Ao, co, eo⟩ := Kd.R_slice HO.out; subst eo) | ((with_reducible refine gate_builtin (b := .append) (xs := #[.tmp 28, .tmp 31]) rfl ?_); at_builtin; refine Kd.R_append_rows k60 (w0 := w) w.heap.size rfl (.tmp 28) (.tmp 31) 39 60 (.agg #[(.string ⟨#[]⟩), (.string ⟨#[]⟩)]) 32 rfl Try.underlying39 info60 rfl (by decide) (by omega) (.slice none 0 0) ([] : List S60) ([⟨lenN, ⟨#[48]⟩⟩, ⟨conN, ⟨#[99, 108, 111, 115, 101]⟩⟩] : List S60) _ _ _ (fun _ => True) (fun _ => False) rfl rfl ?aO ?aR (fun _ _ h => h) (fun _ h => h.elim) ?aF ?aB ?aS ?aL ?_; (case aR => exact (Kd.R_reads' HO.out).2.2); (case aB => exact HX.out.2.2.2.1); (case aF => exact fun _ _ => trivial); (case aO => exact HX.out.2.2.1); (case aS => exact HXs.out); (case aL => simp); intro v9 w9 ho hb hg hat; obtain ⟨A9, c9, e9⟩ := Kd.R_slice ho; generalize hn9 : List.length _ = n9 at e9; clear hn9; subst e9; have HZ := Aside0.mk (HX.out.append ho hg hb); have cl_9 := HX.out.gcl hg; have fl_9 := HX.out.gfl hg; clear ho hb hg hat))
      refine world_gen (fun w' => HI w w' (fun _ => True) g r 1 st re (.slice A9 n9 c9) (([] : List S60) ++ ([⟨lenN, ⟨#[48]⟩⟩, ⟨conN, ⟨#[99, 108, 111, 115, 101]⟩⟩] : List S60))) HZ.out ?_
      intro wz hI
      have HW := Aside0.mk hI
      clear hI HZ c7 f7 cl_9 fl_9
      have hN := HW.out
      have k0 : wz.cell? ⟨g, 0, none⟩ = some (.string ⟨#[]⟩) := (blk_cell hN.1 0).trans rfl
      have k1 : wz.cell? ⟨g, 1, none⟩ = some (.string ⟨#[]⟩) := (blk_cell hN.1 1).trans rfl
      have k2 : wz.cell? ⟨g, 2, none⟩ = some (.int .i64 1) := (blk_cell hN.1 2).trans rfl
      have k3 : wz.cell? ⟨g, 3, none⟩ = some (.int .i64 st) := (blk_cell hN.1 3).trans rfl
      have k4 : wz.cell? ⟨g, 4, none⟩ = some (.string re) := (blk_cell hN.1 4).trans rfl
      have k5 : wz.cell? ⟨g, 5, none⟩ = some (.slice A9 n9 c9) := (blk_cell hN.1 5).trans rfl
      have q0 : wz.cell? ⟨r, 0, none⟩ = some (.string ⟨#[]⟩) := (blk_cell hN.2.1 0).trans rfl
      have q1 : wz.cell? ⟨r, 1, none⟩ = some (.string ⟨#[]⟩) := (blk_cell hN.2.1 1).trans rfl
      have q2 : wz.cell? ⟨r, 2, none⟩ = some (.int .i64 0) := (blk_cell hN.2.1 2).trans rfl
      have q3 : wz.cell? ⟨r, 3, none⟩ = some (.int .i64 0) := (blk_cell hN.2.1 3).trans rfl
      have q4 : wz.cell? ⟨r, 4, none⟩ = some (.string ⟨#[]⟩) := (blk_cell hN.2.1 4).trans rfl
      have q5 : wz.cell? ⟨r, 5, none⟩ = some (.slice none 0 0) := (blk_cell hN.2.1 5).trans rfl
      have z0 := blk_frozen hN.2.1 0
      have z1 := blk_frozen hN.2.1 1
      have z2 := blk_frozen hN.2.1 2
      have z3 := blk_frozen hN.2.1 3
      have z4 := blk_frozen hN.2.1 4
      have z5 := blk_frozen hN.2.1 5
      clear hN
      go_wp2
      exact bodyPost_ret (results_cell_row rfl _ _ r 41 #[.string ⟨#[]⟩, .string ⟨#[]⟩, .int .i64 1, .int .i64 st, .string re, .slice A9 n9 c9] (0, 0) _ rfl (blk_put6 _ _ _ _ _ _ HW.out.2.1) Try.underlying41 rfl (by kernel_rfl)) rfl ⟨_, rfl, by rw [← HRF.out, HF.out]; exact HW.out.fin _ _ _ _ _ _, below_put6 _ _ _ _ _ _ HW.out.2.2.2.1 HW.out.2.2.2.2.2.1⟩
    | false =>
      have hT0 : ¬ T.toList = [] := of_decide_eq_false hc
      have hT1 : (T.toList != ([] : List UInt8)) = true := bne_iff_ne.2 hT0
      have hT2 : T.toList.isEmpty = false := by cases h : T.toList with | nil => exact absurd h hT0 | cons a b => rfl
      have HF : Aside0 (refFields T = (([] : List S60) ++ [⟨dateN, T⟩]) ++ ([⟨lenN, ⟨#[48]⟩⟩, ⟨conN, ⟨#[99, 108, 111, 115, 101]⟩⟩] : List S60)) := ⟨by unfold refFields; rw [if_neg hT0]; rfl⟩
      clear hc hT0
      have c5 := H4.out.cell
      have f5 := H4.out.fro
      go_upto_region 7 with (first | ((with_reducible refine gate_builtin (b := .append) (xs := #[.tmp 21, .tmp 24]) rfl ?_); at_builtin; refine Kd.R_append k60 (w0 := w) w.heap.size rfl (.tmp 21) (.tmp 24) 39 60 (.agg #[(.string ⟨#[]⟩), (.string ⟨#[]⟩)]) 32 rfl Try.underlying39 info60 rfl (by decide) (by omega) (.slice none 0 0) [] (⟨dateN, T⟩ : S60) [.string dateN, .string T] (fun _ => True) (fun _ => False) rfl (by first | (go_simp; done) | (go_simp; rfl)) ?aP (fun _ hk => hk.elim) ?aF ?aO ?aB ?aS ?aL ?_; (case aP => exact k60_mkM _ _ _ (⟨dateN, T⟩ : S60)); (case aB => exact H4.out.2.2.2.1); (case aF => exact fun _ _ => trivial); (case aO => exact H4.out.2.2.1); (case aS => exact below_size H4.out.2.2.2.1); (case aL => simp); intro v9 w9 ho hb hg hat; obtain ⟨A8, c8, e8⟩ := Kd.R_slice ho; generalize hn8 : List.length _ = n8 at e8; clear hn8; subst e8; have H5 := Aside0.mk (H4.out.append ho hg hb); have cl_9 := H4.out.gcl hg; have fl_9 := H4.out.gfl hg; clear ho hb hg hat))
      refine world_gen (fun w' => HI w w' (fun _ => True) g r 1 st re (.slice A8 n8 c8) (([] : List S60) ++ [⟨dateN, T⟩])) H5.out ?_
      intro wv hI
      have H6 := Aside0.mk hI
      clear hI H5 H4 c5 f5 cl_9 fl_9
      have c7 := H6.out.cell
      have f7 := H6.out.fro
      go_upto_region 8 with (first | ((with_reducible refine gate_dst (N := 31) rfl ?_); refine Kd.R_lit k60 _ 60 ?hg (N := 31) ?hd (xs := ([⟨lenN, ⟨#[48]⟩⟩, ⟨conN, ⟨#[99, 108, 111, 115, 101]⟩⟩] : List S60)) (inner := [.string lenN, .string (⟨#[48]⟩ : ByteArray), .string conN, .string (⟨#[99, 108, 111, 115, 101]⟩ : ByteArray)]) (ok := fun _ => True) (okp := fun _ => True) ?hr ?hp (fun _ hk => hk) trivial (Below.refl _ _) (Nat.le_refl _) (by simp) ?_; (case hd => rfl); (case hg => rfl); (case hr => first | (go_simp; done) | (go_simp; rfl)); (case hp => exact (Reps.c2 (show Kd.M k60 _ _ _ (⟨lenN, ⟨#[48]⟩⟩ : S60) [.string lenN, .string (⟨#[48]⟩ : ByteArray)] from (k60_mkM _ _ _ (⟨lenN, ⟨#[48]⟩⟩ : S60))) (Reps.c2 (show Kd.M k60 _ _ _ (⟨conN, ⟨#[99, 108, 111, 115, 101]⟩⟩ : S60) [.string conN, .string (⟨#[99, 108, 111, 115, 101]⟩ : ByteArray)] from (k60_mkM _ _ _ (⟨conN, ⟨#[99, 108, 111, 115, 101]⟩⟩ : S60))) (Reps.none _ _)))); intro v106 w16 ho17 hb hg_ hnew_; have HO := Aside0.mk (Kd.R_lower ho17 (below_size H6.out.2.2.2.1)); have HX := Aside0.mk (H6.out.below hb); have HXs := Aside0.mk (below_size HX.out.2.2.2.1); clear hg_ hnew_ hb ho17; obtain ⟨Ao, co, eo⟩ := Kd.R_slice HO.out; subst eo) | ((with_reducible refine gate_builtin (b := .append) (xs := #[.tmp 28, .tmp 31]) rfl ?_); at_builtin; refine Kd.R_append_rows k60 (w0 := w) w.heap.size rfl (.tmp 28) (.tmp 31) 39 60 (.agg #[(.string ⟨#[]⟩), (.string ⟨#[]⟩)]) 32 rfl Try.underlying39 info60 rfl (by decide) (by omega) (.slice A8 n8 c8) (([] : List S60) ++ [⟨dateN, T⟩]) ([⟨lenN, ⟨#[48]⟩⟩, ⟨conN, ⟨#[99, 108, 111, 115, 101]⟩⟩] : List S60) _ _ _ (fun _ => True) (fun _ => False) rfl rfl ?aO ?aR (fun _ _ h => h) (fun _ h => h.elim) ?aF ?aB ?aS ?aL ?_; (case aR => exact (Kd.R_reads' HO.out).2.2); (case aB => exact HX.out.2.2.2.1); (case aF => exact fun _ _ => trivial); (case aO => exact HX.out.2.2.1); (case aS => exact HXs.out); (case aL => simp); intro v9 w9 ho hb hg hat; obtain ⟨A9, c9, e9⟩ := Kd.R_slice ho; generalize hn9 : List.length _ = n9 at e9; clear hn9; subst e9; have HZ := Aside0.mk (HX.out.append ho hg hb); have cl_9 := HX.out.gcl hg; have fl_9 := HX.out.gfl hg; clear ho hb hg hat))
      refine world_gen (fun w' => HI w w' (fun _ => True) g r 1 st re (.slice A9 n9 c9) ((([] : List S60) ++ [⟨dateN, T⟩]) ++ ([⟨lenN, ⟨#[48]⟩⟩, ⟨conN, ⟨#[99, 108, 111, 115, 101]⟩⟩] : List S60))) HZ.out ?_
      intro wz hI
      have HW := Aside0.mk hI
      clear hI HZ c7 f7 cl_9 fl_9
      have hN := HW.out
      have k0 : wz.cell? ⟨g, 0, none⟩ = some (.string ⟨#[]⟩) := (blk_cell hN.1 0).trans rfl
      have k1 : wz.cell? ⟨g, 1, none⟩ = some (.string ⟨#[]⟩) := (blk_cell hN.1 1).trans rfl
      have k2 : wz.cell? ⟨g, 2, none⟩ = some (.int .i64 1) := (blk_cell hN.1 2).trans rfl
      have k3 : wz.cell? ⟨g, 3, none⟩ = some (.int .i64 st) := (blk_cell hN.1 3).trans rfl
      have k4 : wz.cell? ⟨g, 4, none⟩ = some (.string re) := (blk_cell hN.1 4).trans rfl
      have k5 : wz.cell? ⟨g, 5, none⟩ = some (.slice A9 n9 c9) := (blk_cell hN.1 5).trans rfl
      have q0 : wz.cell? ⟨r, 0, none⟩ = some (.string ⟨#[]⟩) := (blk_cell hN.2.1 0).trans rfl
      have q1 : wz.cell? ⟨r, 1, none⟩ = some (.string ⟨#[]⟩) := (blk_cell hN.2.1 1).trans rfl
      have q2 : wz.cell? ⟨r, 2, none⟩ = some (.int .i64 0) := (blk_cell hN.2.1 2).trans rfl
      have q3 : wz.cell? ⟨r, 3, none⟩ = some (.int .i64 0) := (blk_cell hN.2.1 3).trans rfl
      have q4 : wz.cell? ⟨r, 4, none⟩ = some (.string ⟨#[]⟩) := (blk_cell hN.2.1 4).trans rfl
      have q5 : wz.cell? ⟨r, 5, none⟩ = some (.slice none 0 0) := (blk_cell hN.2.1 5).trans rfl
      have z0 := blk_frozen hN.2.1 0
      have z1 := blk_frozen hN.2.1 1
      have z2 := blk_frozen hN.2.1 2
      have z3 := blk_frozen hN.2.1 3
      have z4 := blk_frozen hN.2.1 4
      have z5 := blk_frozen hN.2.1 5
      clear hN
      go_wp2
      exact bodyPost_ret (results_cell_row rfl _ _ r 41 #[.string ⟨#[]⟩, .string ⟨#[]⟩, .int .i64 1, .int .i64 st, .string re, .slice A9 n9 c9] (0, 0) _ rfl (blk_put6 _ _ _ _ _ _ HW.out.2.1) Try.underlying41 rfl (by kernel_rfl)) rfl ⟨_, rfl, by rw [← HRF.out, HF.out]; exact HW.out.fin _ _ _ _ _ _, below_put6 _ _ _ _ _ _ HW.out.2.2.2.1 HW.out.2.2.2.2.2.1⟩
  · refine world_gen (fun w' => HI w w' (fun _ => True) g r 0 st re (.slice none 0 0) []) H0.out ?_
    intro wx hI
    have H1 := Aside0.mk hI
    clear hI H0 y2 y3
    go_wp2_with fail
    ((with_reducible refine (abutmentref06_Print.calls k now T _ HT.out).mono ?_))
    rintro e w7 ⟨rfl, hb⟩
    have H4 := Aside0.mk (H1.out.below hb)
    clear hb H1
    cases hc : decide (T.toList = ([] : List UInt8)) with
    | true =>
      have hT0 := of_decide_eq_true hc
      have hT1 : (T.toList != ([] : List UInt8)) = false := bne_eq_false_iff_eq.2 hT0
      have hT2 : T.toList.isEmpty = true := by rw [hT0]; rfl
      have HF : Aside0 (refFields T = ([] : List S60) ++ ([⟨lenN, ⟨#[48]⟩⟩, ⟨conN, ⟨#[99, 108, 111, 115, 101]⟩⟩] : List S60)) := ⟨by unfold refFields; rw [if_pos hT0]; rfl⟩
      clear hc hT0
      have c7 := H4.out.cell
      have f7 := H4.out.fro
      go_upto_region 8 with (first | ((with_reducible refine gate_dst (N := 31) rfl ?_); refine Kd.R_lit k60 _ 60 ?hg (N := 31) ?hd (xs := ([⟨lenN, ⟨#[48]⟩⟩, ⟨conN, ⟨#[99, 108, 111, 115, 101]⟩⟩] : List S60)) (inner := [.string lenN, .string (⟨#[48]⟩ : ByteArray), .string conN, .string (⟨#[99, 108, 111, 115, 101]⟩ : ByteArray)]) (ok := fun _ => True) (okp := fun _ => True) ?hr ?hp (fun _ hk => hk) trivial (Below.refl _ _) (Nat.le_refl _) (by simp) ?_; (case hd => rfl); (case hg => rfl); (case hr => first | (go_simp; done) | (go_simp; rfl)); (case hp => exact (Reps.c2 (show Kd.M k60 _ _ _ (⟨lenN, ⟨#[48]⟩⟩ : S60) [.string lenN, .string (⟨#[48]⟩ : ByteArray)] from (k60_mkM _ _ _ (⟨lenN, ⟨#[48]⟩⟩ : S60))) (Reps.c2 (show Kd.M k60 _ _ _ (⟨conN, ⟨#[99, 108, 111, 115, 101]⟩⟩ : S60) [.string conN, .string (⟨#[99, 108, 111, 115, 101]⟩ : ByteArray)] from (k60_mkM _ _ _ (⟨conN, ⟨#[99, 108, 111, 115, 101]⟩⟩ : S60))) (Reps.none _ _)))); intro v106 w16 ho17 hb hg_ hnew_; have HO := Aside0.mk (Kd.R_lower ho17 (below_size H4.out.2.2.2.1)); have HX := Aside0.mk (H4.out.below hb); have HXs := Aside0.mk (below_size HX.out.2.2.2.1); clear hg_ hnew_ hb ho17; obtain ⟨Ao, co, eo⟩ := Kd.R_slice HO.out; subst eo) | ((with_reducible refine gate_builtin (b := .append) (xs := #[.tmp 28, .tmp 31]) rfl ?_); at_builtin; refine Kd.R_append_rows k60 (w0 := w) w.heap.size rfl (.tmp 28) (.tmp 31) 39 60 (.agg #[(.string ⟨#[]⟩), (.string ⟨#[]⟩)]) 32 rfl Try.underlying39 info60 rfl (by decide) (by omega) (.slice none 0 0) ([] : List S60) ([⟨lenN, ⟨#[48]⟩⟩, ⟨conN, ⟨#[99, 108, 111, 115, 101]⟩⟩] : List S60) _ _ _ (fun _ => True) (fun _ => False) rfl rfl ?aO ?aR (fun _ _ h => h) (fun _ h => h.elim) ?aF ?aB ?aS ?aL ?_; (case aR => exact (Kd.R_reads' HO.out).2.2); (case aB => exact HX.out.2.2.2.1); (case aF => exact fun _ _ => trivial); (case aO => exact HX.out.2.2.1); (case aS => exact HXs.out); (case aL => simp); intro v9 w9 ho hb hg hat; obtain ⟨A9, c9, e9⟩ := Kd.R_slice ho; generalize hn9 : List.length _ = n9 at e9; clear hn9; subst e9; have HZ := Aside0.mk (HX.out.append ho hg hb); have cl_9 := HX.out.gcl hg; have fl_9 := HX.out.gfl hg; clear ho hb hg hat))
      refine world_gen (fun w' => HI w w' (fun _ => True) g r 0 st re (.slice A9 n9 c9) (([] : List S60) ++ ([⟨lenN, ⟨#[48]⟩⟩, ⟨conN, ⟨#[99, 108, 111, 115, 101]⟩⟩] : List S60))) HZ.out ?_
      intro wz hI
      have HW := Aside0.mk hI
      clear hI HZ c7 f7 cl_9 fl_9
      have hN := HW.out
      have k0 : wz.cell? ⟨g, 0, none⟩ = some (.string ⟨#[]⟩) := (blk_cell hN.1 0).trans rfl
      have k1 : wz.cell? ⟨g, 1, none⟩ = some (.string ⟨#[]⟩) := (blk_cell hN.1 1).trans rfl
      have k2 : wz.cell? ⟨g, 2, none⟩ = some (.int .i64 0) := (blk_cell hN.1 2).trans rfl
      have k3 : wz.cell? ⟨g, 3, none⟩ = some (.int .i64 st) := (blk_cell hN.1 3).trans rfl
      have k4 : wz.cell? ⟨g, 4, none⟩ = some (.string re) := (blk_cell hN.1 4).trans rfl
      have k5 : wz.cell? ⟨g, 5, none⟩ = some (.slice A9 n9 c9) := (blk_cell hN.1 5).trans rfl
      have q0 : wz.cell? ⟨r, 0, none⟩ = some (.string ⟨#[]⟩) := (blk_cell hN.2.1 0).trans rfl
      have q1 : wz.cell? ⟨r, 1, none⟩ = some (.string ⟨#[]⟩) := (blk_cell hN.2.1 1).trans rfl
      have q2 : wz.cell? ⟨r, 2, none⟩ = some (.int .i64 0) := (blk_cell hN.2.1 2).trans rfl
      have q3 : wz.cell? ⟨r, 3, none⟩ = some (.int .i64 0) := (blk_cell hN.2.1 3).trans rfl
      have q4 : wz.cell? ⟨r, 4, none⟩ = some (.string ⟨#[]⟩) := (blk_cell hN.2.1 4).trans rfl
      have q5 : wz.cell? ⟨r, 5, none⟩ = some (.slice none 0 0) := (blk_cell hN.2.1 5).trans rfl
      have z0 := blk_frozen hN.2.1 0
      have z1 := blk_frozen hN.2.1 1
      have z2 := blk_frozen hN.2.1 2
      have z3 := blk_frozen hN.2.1 3
      have z4 := blk_frozen hN.2.1 4
      have z5 := blk_frozen hN.2.1 5
      clear hN
      go_wp2
      exact bodyPost_ret (results_cell_row rfl _ _ r 41 #[.string ⟨#[]⟩, .string ⟨#[]⟩, .int .i64 0, .int .i64 st, .string re, .slice A9 n9 c9] (0, 0) _ rfl (blk_put6 _ _ _ _ _ _ HW.out.2.1) Try.underlying41 rfl (by kernel_rfl)) rfl ⟨_, rfl, by rw [← HRF.out, HF.out]; exact HW.out.fin _ _ _ _ _ _, below_put6 _ _ _ _ _ _ HW.out.2.2.2.1 HW.out.2.2.2.2.2.1⟩
    | false =>
      have hT0 : ¬ T.toList = [] := of_decide_eq_false hc
      have hT1 : (T.toList != ([] : List UInt8)) = true := bne_iff_ne.2 hT0
      have hT2 : T.toList.isEmpty = false := by cases h : T.toList with | nil => exact absurd h hT0 | cons a b => rfl
      have HF : Aside0 (refFields T = (([] : List S60) ++ [⟨dateN, T⟩]) ++ ([⟨lenN, ⟨#[48]⟩⟩, ⟨conN, ⟨#[99, 108, 111, 115, 101]⟩⟩] : List S60)) := ⟨by unfold refFields; rw [if_neg hT0]; rfl⟩
      clear hc hT0
      have c5 := H4.out.cell
      have f5 := H4.out.fro
      go_upto_region 7 with (first | ((with_reducible refine gate_builtin (b := .append) (xs := #[.tmp 21, .tmp 24]) rfl ?_); at_builtin; refine Kd.R_append k60 (w0 := w) w.heap.size rfl (.tmp 21) (.tmp 24) 39 60 (.agg #[(.string ⟨#[]⟩), (.string ⟨#[]⟩)]) 32 rfl Try.underlying39 info60 rfl (by decide) (by omega) (.slice none 0 0) [] (⟨dateN, T⟩ : S60) [.string dateN, .string T] (fun _ => True) (fun _ => False) rfl (by first | (go_simp; done) | (go_simp; rfl)) ?aP (fun _ hk => hk.elim) ?aF ?aO ?aB ?aS ?aL ?_; (case aP => exact k60_mkM _ _ _ (⟨dateN, T⟩ : S60)); (case aB => exact H4.out.2.2.2.1); (case aF => exact fun _ _ => trivial); (case aO => exact H4.out.2.2.1); (case aS => exact below_size H4.out.2.2.2.1); (case aL => simp); intro v9 w9 ho hb hg hat; obtain ⟨A8, c8, e8⟩ := Kd.R_slice ho; generalize hn8 : List.length _ = n8 at e8; clear hn8; subst e8; have H5 := Aside0.mk (H4.out.append ho hg hb); have cl_9 := H4.out.gcl hg; have fl_9 := H4.out.gfl hg; clear ho hb hg hat))
      refine world_gen (fun w' => HI w w' (fun _ => True) g r 0 st re (.slice A8 n8 c8) (([] : List S60) ++ [⟨dateN, T⟩])) H5.out ?_
      intro wv hI
      have H6 := Aside0.mk hI
      clear hI H5 H4 c5 f5 cl_9 fl_9
      have c7 := H6.out.cell
      have f7 := H6.out.fro
      go_upto_region 8 with (first | ((with_reducible refine gate_dst (N := 31) rfl ?_); refine Kd.R_lit k60 _ 60 ?hg (N := 31) ?hd (xs := ([⟨lenN, ⟨#[48]⟩⟩, ⟨conN, ⟨#[99, 108, 111, 115, 101]⟩⟩] : List S60)) (inner := [.string lenN, .string (⟨#[48]⟩ : ByteArray), .string conN, .string (⟨#[99, 108, 111, 115, 101]⟩ : ByteArray)]) (ok := fun _ => True) (okp := fun _ => True) ?hr ?hp (fun _ hk => hk) trivial (Below.refl _ _) (Nat.le_refl _) (by simp) ?_; (case hd => rfl); (case hg => rfl); (case hr => first | (go_simp; done) | (go_simp; rfl)); (case hp => exact (Reps.c2 (show Kd.M k60 _ _ _ (⟨lenN, ⟨#[48]⟩⟩ : S60) [.string lenN, .string (⟨#[48]⟩ : ByteArray)] from (k60_mkM _ _ _ (⟨lenN, ⟨#[48]⟩⟩ : S60))) (Reps.c2 (show Kd.M k60 _ _ _ (⟨conN, ⟨#[99, 108, 111, 115, 101]⟩⟩ : S60) [.string conN, .string (⟨#[99, 108, 111, 115, 101]⟩ : ByteArray)] from (k60_mkM _ _ _ (⟨conN, ⟨#[99, 108, 111, 115, 101]⟩⟩ : S60))) (Reps.none _ _)))); intro v106 w16 ho17 hb hg_ hnew_; have HO := Aside0.mk (Kd.R_lower ho17 (below_size H6.out.2.2.2.1)); have HX := Aside0.mk (H6.out.below hb); have HXs := Aside0.mk (below_size HX.out.2.2.2.1); clear hg_ hnew_ hb ho17; obtain ⟨Ao, co, eo⟩ := Kd.R_slice HO.out; subst eo) | ((with_reducible refine gate_builtin (b := .append) (xs := #[.tmp 28, .tmp 31]) rfl ?_); at_builtin; refine Kd.R_append_rows k60 (w0 := w) w.heap.size rfl (.tmp 28) (.tmp 31) 39 60 (.agg #[(.string ⟨#[]⟩), (.string ⟨#[]⟩)]) 32 rfl Try.underlying39 info60 rfl (by decide) (by omega) (.slice A8 n8 c8) (([] : List S60) ++ [⟨dateN, T⟩]) ([⟨lenN, ⟨#[48]⟩⟩, ⟨conN, ⟨#[99, 108, 111, 115, 101]⟩⟩] : List S60) _ _ _ (fun _ => True) (fun _ => False) rfl rfl ?aO ?aR (fun _ _ h => h) (fun _ h => h.elim) ?aF ?aB ?aS ?aL ?_; (case aR => exact (Kd.R_reads' HO.out).2.2); (case aB => exact HX.out.2.2.2.1); (case aF => exact fun _ _ => trivial); (case aO => exact HX.out.2.2.1); (case aS => exact HXs.out); (case aL => simp); intro v9 w9 ho hb hg hat; obtain ⟨A9, c9, e9⟩ := Kd.R_slice ho; generalize hn9 : List.length _ = n9 at e9; clear hn9; subst e9; have HZ := Aside0.mk (HX.out.append ho hg hb); have cl_9 := HX.out.gcl hg; have fl_9 := HX.out.gfl hg; clear ho hb hg hat))
      refine world_gen (fun w' => HI w w' (fun _ => True) g r 0 st re (.slice A9 n9 c9) ((([] : List S60) ++ [⟨dateN, T⟩]) ++ ([⟨lenN, ⟨#[48]⟩⟩, ⟨conN, ⟨#[99, 108, 111, 115, 101]⟩⟩] : List S60))) HZ.out ?_
      intro wz hI
      have HW := Aside0.mk hI
      clear hI HZ c7 f7 cl_9 fl_9
      have hN := HW.out
      have k0 : wz.cell? ⟨g, 0, none⟩ = some (.string ⟨#[]⟩) := (blk_cell hN.1 0).trans rfl
      have k1 : wz.cell? ⟨g, 1, none⟩ = some (.string ⟨#[]⟩) := (blk_cell hN.1 1).trans rfl
      have k2 : wz.cell? ⟨g, 2, none⟩ = some (.int .i64 0) := (blk_cell hN.1 2).trans rfl
      have k3 : wz.cell? ⟨g, 3, none⟩ = some (.int .i64 st) := (blk_cell hN.1 3).trans rfl
      have k4 : wz.cell? ⟨g, 4, none⟩ = some (.string re) := (blk_cell hN.1 4).trans rfl
      have k5 : wz.cell? ⟨g, 5, none⟩ = some (.slice A9 n9 c9) := (blk_cell hN.1 5).trans rfl
      have q0 : wz.cell? ⟨r, 0, none⟩ = some (.string ⟨#[]⟩) := (blk_cell hN.2.1 0).trans rfl
      have q1 : wz.cell? ⟨r, 1, none⟩ = some (.string ⟨#[]⟩) := (blk_cell hN.2.1 1).trans rfl
      have q2 : wz.cell? ⟨r, 2, none⟩ = some (.int .i64 0) := (blk_cell hN.2.1 2).trans rfl
      have q3 : wz.cell? ⟨r, 3, none⟩ = some (.int .i64 0) := (blk_cell hN.2.1 3).trans rfl
      have q4 : wz.cell? ⟨r, 4, none⟩ = some (.string ⟨#[]⟩) := (blk_cell hN.2.1 4).trans rfl
      have q5 : wz.cell? ⟨r, 5, none⟩ = some (.slice none 0 0) := (blk_cell hN.2.1 5).trans rfl
      have z0 := blk_frozen hN.2.1 0
      have z1 := blk_frozen hN.2.1 1
      have z2 := blk_frozen hN.2.1 2
      have z3 := blk_frozen hN.2.1 3
      have z4 := blk_frozen hN.2.1 4
      have z5 := blk_frozen hN.2.1 5
      clear hN
      go_wp2
      exact bodyPost_ret (results_cell_row rfl _ _ r 41 #[.string ⟨#[]⟩, .string ⟨#[]⟩, .int .i64 0, .int .i64 st, .string re, .slice A9 n9 c9] (0, 0) _ rfl (blk_put6 _ _ _ _ _ _ HW.out.2.1) Try.underlying41 rfl (by kernel_rfl)) rfl ⟨_, rfl, by rw [← HRF.out, HF.out]; exact HW.out.fin _ _ _ _ _ _, below_put6 _ _ _ _ _ _ HW.out.2.2.2.1 HW.out.2.2.2.2.2.1⟩
def abutmentref33_Head.f (k : Nat) (a0 a1 a2 : Int) : Option (ByteArray × ByteArray × Int × Int × ByteArray × (List (S60))) := (abutmentref15_Reason.f k a0).bind fun re => (abutmentref06_Print.f k a2).bind fun T => some (⟨#[]⟩, ⟨#[]⟩, if 0 < a1 then 1 else 0, a0, re, refFields T)
theorem abutmentref33_Head.calls (k : Nat) (a0 : Int) (a1 : Int) (a2 : Int) (r1 : ByteArray) (r2 : ByteArray) (r3 : Int) (r4 : Int) (r5 : ByteArray) (r6 : List (S60)) (w : World) (h : abutmentref33_Head.f k a0 a1 a2 = some (r1, r2, r3, r4, r5, r6)) :
    Calls Try.prog 22 #[.int .i64 a0, .int .i64 a1, .int .i64 a2] w fun e w' => ∃ v5_ : Value, e = .returned (.agg #[.string r1, .string r2, .int .i64 r3, .int .i64 r4, .string r5, v5_]) ∧ Kd.R k60 60 w' w.heap.size (fun _ => True) v5_ r6 ∧ Below w.heap.size w w' := by
  unfold abutmentref33_Head.f at h
  obtain ⟨re, hre, h⟩ := Option.bind_eq_some_iff.mp h
  obtain ⟨T, hT, h⟩ := Option.bind_eq_some_iff.mp h
  simp only [Option.some.injEq, Prod.mk.injEq] at h
  obtain ⟨rfl, rfl, rfl, rfl, rfl, rfl⟩ := h
  refine refhead_walk k _ a1 a2 _ _ T w ?_ hre hT
  by_cases c : 0 < a1
  · exact .inl ⟨decide_eq_true c, if_pos c⟩
  · exact .inr ⟨decide_eq_false c, if_neg c⟩
end Go.Proofs.Ytjnhghplfdiijaa.Q

namespace Go.Proofs.Ytjnhghplfdiijaa.Q
open Go.RowKit Go.Proofs.YtjnhghplfdiijaaW.PrintWords Go.Proofs.YtjnhghplfdiijaaW.PrintLast Go.Proofs.YtjnhghplfdiijaaW.PrintMore
set_option linter.unusedVariables false
set_option linter.unusedSimpArgs false
def statusT : List (Int × Int) := [(21, 408), (20, 413), (18, 417), (4, 431), (10, 501), (15, 501), (9, 505), (17, 508)]
def statusL : List (Int × Int) → Int → Int
  | [], _ => 400
  | (c, s) :: l, e => if c = e then s else statusL l e
def refusal_Status.f (side e : Int) : Option Int := some (if side = 1 then statusL statusT e else if e = 21 then 504 else 502)
theorem refusal_rows (w : World) : Calls Try.prog 66 #[] w fun e w' => e = .returned (.agg #[.int .i64 21, .int .i64 408, .int .i64 20, .int .i64 413, .int .i64 18, .int .i64 417, .int .i64 4, .int .i64 431, .int .i64 10, .int .i64 501, .int .i64 15, .int .i64 501, .int .i64 9, .int .i64 505, .int .i64 17, .int .i64 508]) ∧ Below w.heap.size w w' := by
  go_enter Try.func66, Try.ntmps66
  go_wp2
  refine bodyPost_ret (v := .agg #[.int .i64 21, .int .i64 408, .int .i64 20, .int .i64 413, .int .i64 18, .int .i64 417, .int .i64 4, .int .i64 431, .int .i64 10, .int .i64 501, .int .i64 15, .int .i64 501, .int .i64 9, .int .i64 505, .int .i64 17, .int .i64 508]) (by simp [results, Try.results66, go_sem]) rfl ⟨rfl, ?_⟩
  (repeat (first | exact Below.refl _ _ | apply below_alloc))
theorem run_rows (w : World) (cs : Array Value) (i : Int) (h0 : 0 ≤ i) (h1 : i < 8) : (Instr.index 88 (.agg cs) (.int .i64 i)).run Try.prog w = .ok (.agg (cs.extract (i.toNat * 2) (i.toNat * 2 + 2))) w := by
  have hk : (Try.prog.info? 87).map (·.size) = some 2 := by kernel_rfl
  obtain ⟨i0, hi, hz⟩ := Option.map_eq_some_iff.mp hk
  exact run_index_array_agg w _ _ 8 cs .i64 i 2 i0 _ Try.underlying88 hi hz Try.underlying87 rfl h0 h1
set_option maxRecDepth 100000 in
set_option maxHeartbeats 2000000 in
theorem status_asker (e : Int) (w : World) : Calls Try.prog 18 #[.int .i64 1, .int .i64 e] w fun x w' => x = .returned (.int .i64 (statusL statusT e)) ∧ Below w.heap.size w w' := by
  obtain ⟨R, hR⟩ : ∃ R, statusL statusT e = R := ⟨_, rfl⟩
  rw [hR]
  have HR := Aside0.mk hR
  clear hR
  go_enter Try.func18, Try.ntmps18
  go_wp2_with fail
  refine (refusal_rows _).mono ?_
  rintro x w1 ⟨rfl, hb⟩
  have HB := Aside0.mk hb
  clear hb
  go_wp2
  go_loopg [18] 9 (fun gg vi wr => ∃ (i : Nat), vi = .int .i64 (i : Int) ∧ i ≤ 8 ∧ 9 - i ≤ gg ∧ Aside0 (statusL (statusT.drop i) e = R) ∧ Aside0 (Below w.heap.size w wr))
  case atStart => exact ⟨0, rfl, by omega, by omega, HR, HB⟩
  case round =>
    obtain ⟨i, rfl, hi, hg, HS, HB2⟩ := hrel
    obtain rfl | rfl | rfl | rfl | rfl | rfl | rfl | rfl | rfl : i = 8 ∨ i = 0 ∨ i = 1 ∨ i = 2 ∨ i = 3 ∨ i = 4 ∨ i = 5 ∨ i = 6 ∨ i = 7 := by omega
    · have e8 := HS.out
      simp [statusT, statusL] at e8
      subst e8
      go_wp2
      exact bodyPost_ret (v := .int .i64 400) (by simp [results, Try.results18, go_sem]) rfl ⟨rfl, HB2.out⟩
    · by_cases he : 21 = e
      · have hb1 : (21 == e) = true := by simpa using he
        have hR : 408 = R := by
          have := HS.out
          simpa [statusT, statusL, he] using this
        subst hR
        clear he
        go_wp2
        rw [run_rows _ _ _ (by decide) (by decide)]
        go_wp2
        exact bodyPost_ret (v := .int .i64 408) (by simp [results, Try.results18, go_sem]) rfl ⟨rfl, HB2.out.alloc HB2.out.size _⟩
      · have hb1 : (21 == e) = false := by simpa using he
        have HS2 : Aside0 (statusL (statusT.drop 1) e = R) := ⟨by
          have := HS.out
          simp only [statusT, List.drop_zero, List.drop_succ_cons, statusL] at this ⊢
          rw [if_neg he] at this
          exact this⟩
        clear he
        go_wp2
        rw [run_rows _ _ _ (by decide) (by decide)]
        go_wp2
        go_roundg (gk - 1)
        case measure => omega
        case rel => exact ⟨1, rfl, by omega, by omega, HS2, ⟨HB2.out.alloc HB2.out.size _⟩⟩
    · by_cases he : 20 = e
      · have hb1 : (20 == e) = true := by simpa using he
        have hR : 413 = R := by
          have := HS.out
          simpa [statusT, statusL, he] using this
        subst hR
        clear he
        go_wp2
        rw [run_rows _ _ _ (by decide) (by decide)]
        go_wp2
        exact bodyPost_ret (v := .int .i64 413) (by simp [results, Try.results18, go_sem]) rfl ⟨rfl, HB2.out.alloc HB2.out.size _⟩
      · have hb1 : (20 == e) = false := by simpa using he
        have HS2 : Aside0 (statusL (statusT.drop 2) e = R) := ⟨by
          have := HS.out
          simp only [statusT, List.drop_zero, List.drop_succ_cons, statusL] at this ⊢
          rw [if_neg he] at this
          exact this⟩
        clear he
        go_wp2
        rw [run_rows _ _ _ (by decide) (by decide)]
        go_wp2
        go_roundg (gk - 1)
        case measure => omega
        case rel => exact ⟨2, rfl, by omega, by omega, HS2, ⟨HB2.out.alloc HB2.out.size _⟩⟩
    · by_cases he : 18 = e
      · have hb1 : (18 == e) = true := by simpa using he
        have hR : 417 = R := by
          have := HS.out
          simpa [statusT, statusL, he] using this
        subst hR
        clear he
        go_wp2
        rw [run_rows _ _ _ (by decide) (by decide)]
        go_wp2
        exact bodyPost_ret (v := .int .i64 417) (by simp [results, Try.results18, go_sem]) rfl ⟨rfl, HB2.out.alloc HB2.out.size _⟩
      · have hb1 : (18 == e) = false := by simpa using he
        have HS2 : Aside0 (statusL (statusT.drop 3) e = R) := ⟨by
          have := HS.out
          simp only [statusT, List.drop_zero, List.drop_succ_cons, statusL] at this ⊢
          rw [if_neg he] at this
          exact this⟩
        clear he
        go_wp2
        rw [run_rows _ _ _ (by decide) (by decide)]
        go_wp2
        go_roundg (gk - 1)
        case measure => omega
        case rel => exact ⟨3, rfl, by omega, by omega, HS2, ⟨HB2.out.alloc HB2.out.size _⟩⟩
    · by_cases he : 4 = e
      · have hb1 : (4 == e) = true := by simpa using he
        have hR : 431 = R := by
          have := HS.out
          simpa [statusT, statusL, he] using this
        subst hR
        clear he
        go_wp2
        rw [run_rows _ _ _ (by decide) (by decide)]
        go_wp2
        exact bodyPost_ret (v := .int .i64 431) (by simp [results, Try.results18, go_sem]) rfl ⟨rfl, HB2.out.alloc HB2.out.size _⟩
      · have hb1 : (4 == e) = false := by simpa using he
        have HS2 : Aside0 (statusL (statusT.drop 4) e = R) := ⟨by
          have := HS.out
          simp only [statusT, List.drop_zero, List.drop_succ_cons, statusL] at this ⊢
          rw [if_neg he] at this
          exact this⟩
        clear he
        go_wp2
        rw [run_rows _ _ _ (by decide) (by decide)]
        go_wp2
        go_roundg (gk - 1)
        case measure => omega
        case rel => exact ⟨4, rfl, by omega, by omega, HS2, ⟨HB2.out.alloc HB2.out.size _⟩⟩
    · by_cases he : 10 = e
      · have hb1 : (10 == e) = true := by simpa using he
        have hR : 501 = R := by
          have := HS.out
          simpa [statusT, statusL, he] using this
        subst hR
        clear he
        go_wp2
        rw [run_rows _ _ _ (by decide) (by decide)]
        go_wp2
        exact bodyPost_ret (v := .int .i64 501) (by simp [results, Try.results18, go_sem]) rfl ⟨rfl, HB2.out.alloc HB2.out.size _⟩
      · have hb1 : (10 == e) = false := by simpa using he
        have HS2 : Aside0 (statusL (statusT.drop 5) e = R) := ⟨by
          have := HS.out
          simp only [statusT, List.drop_zero, List.drop_succ_cons, statusL] at this ⊢
          rw [if_neg he] at this
          exact this⟩
        clear he
        go_wp2
        rw [run_rows _ _ _ (by decide) (by decide)]
        go_wp2
        go_roundg (gk - 1)
        case measure => omega
        case rel => exact ⟨5, rfl, by omega, by omega, HS2, ⟨HB2.out.alloc HB2.out.size _⟩⟩
    · by_cases he : 15 = e
      · have hb1 : (15 == e) = true := by simpa using he
        have hR : 501 = R := by
          have := HS.out
          simpa [statusT, statusL, he] using this
        subst hR
        clear he
        go_wp2
        rw [run_rows _ _ _ (by decide) (by decide)]
        go_wp2
        exact bodyPost_ret (v := .int .i64 501) (by simp [results, Try.results18, go_sem]) rfl ⟨rfl, HB2.out.alloc HB2.out.size _⟩
      · have hb1 : (15 == e) = false := by simpa using he
        have HS2 : Aside0 (statusL (statusT.drop 6) e = R) := ⟨by
          have := HS.out
          simp only [statusT, List.drop_zero, List.drop_succ_cons, statusL] at this ⊢
          rw [if_neg he] at this
          exact this⟩
        clear he
        go_wp2
        rw [run_rows _ _ _ (by decide) (by decide)]
        go_wp2
        go_roundg (gk - 1)
        case measure => omega
        case rel => exact ⟨6, rfl, by omega, by omega, HS2, ⟨HB2.out.alloc HB2.out.size _⟩⟩
    · by_cases he : 9 = e
      · have hb1 : (9 == e) = true := by simpa using he
        have hR : 505 = R := by
          have := HS.out
          simpa [statusT, statusL, he] using this
        subst hR
        clear he
        go_wp2
        rw [run_rows _ _ _ (by decide) (by decide)]
        go_wp2
        exact bodyPost_ret (v := .int .i64 505) (by simp [results, Try.results18, go_sem]) rfl ⟨rfl, HB2.out.alloc HB2.out.size _⟩
      · have hb1 : (9 == e) = false := by simpa using he
        have HS2 : Aside0 (statusL (statusT.drop 7) e = R) := ⟨by
          have := HS.out
          simp only [statusT, List.drop_zero, List.drop_succ_cons, statusL] at this ⊢
          rw [if_neg he] at this
          exact this⟩
        clear he
        go_wp2
        rw [run_rows _ _ _ (by decide) (by decide)]
        go_wp2
        go_roundg (gk - 1)
        case measure => omega
        case rel => exact ⟨7, rfl, by omega, by omega, HS2, ⟨HB2.out.alloc HB2.out.size _⟩⟩
    · by_cases he : 17 = e
      · have hb1 : (17 == e) = true := by simpa using he
        have hR : 508 = R := by
          have := HS.out
          simpa [statusT, statusL, he] using this
        subst hR
        clear he
        go_wp2
        rw [run_rows _ _ _ (by decide) (by decide)]
        go_wp2
        exact bodyPost_ret (v := .int .i64 508) (by simp [results, Try.results18, go_sem]) rfl ⟨rfl, HB2.out.alloc HB2.out.size _⟩
      · have hb1 : (17 == e) = false := by simpa using he
        have HS2 : Aside0 (statusL (statusT.drop 8) e = R) := ⟨by
          have := HS.out
          simp only [statusT, List.drop_zero, List.drop_succ_cons, statusL] at this ⊢
          rw [if_neg he] at this
          exact this⟩
        clear he
        go_wp2
        rw [run_rows _ _ _ (by decide) (by decide)]
        go_wp2
        go_roundg (gk - 1)
        case measure => omega
        case rel => exact ⟨8, rfl, by omega, by omega, HS2, ⟨HB2.out.alloc HB2.out.size _⟩⟩
set_option maxHeartbeats 1000000 in
theorem refusal_Status.calls (side e r : Int) (w : World) (h : refusal_Status.f side e = some r) : Calls Try.prog 18 #[.int .i64 side, .int .i64 e] w fun x w' => x = .returned (.int .i64 r) ∧ Below w.heap.size w w' := by
  unfold refusal_Status.f at h
  injection h with h
  by_cases hs : side = 1
  · subst hs
    rw [if_pos rfl] at h
    subst h
    exact status_asker e w
  · rw [if_neg hs] at h
    have h1 : (side != 1) = true := by simpa using hs
    by_cases he : e = 21
    · rw [if_pos he] at h
      subst h
      have h2 : (e == 21) = true := by simpa using he
      clear hs he
      go_enter Try.func18, Try.ntmps18
      go_wp2
      exact bodyPost_ret (v := .int .i64 504) (by simp [results, Try.results18, go_sem]) rfl ⟨rfl, by (repeat (first | exact Below.refl _ _ | apply below_alloc))⟩
    · rw [if_neg he] at h
      subst h
      have h2 : (e == 21) = false := by simpa using he
      clear hs he
      go_enter Try.func18, Try.ntmps18
      go_wp2
      exact bodyPost_ret (v := .int .i64 502) (by simp [results, Try.results18, go_sem]) rfl ⟨rfl, by (repeat (first | exact Below.refl _ _ | apply below_alloc))⟩
end Go.Proofs.Ytjnhghplfdiijaa.Q

namespace Go.Proofs.Ytjnhghplfdiijaa.Q
open Go.RowKit Go.Proofs.YtjnhghplfdiijaaW.PrintWords Go.Proofs.YtjnhghplfdiijaaW.PrintLast Go.Proofs.YtjnhghplfdiijaaW.PrintMore
attribute [local go_sem] max2_int min2_int max_two min_two max_three min_three max_four min_four
set_option linter.unusedVariables false
set_option linter.unusedSimpArgs false
def abutmentref33_Status.j0 : Nat → Int → Bool → Option (Int)
  | 0, _, _ => none
  | k + 1, x1, x22 => if x22 = true then (some 501) else (if x1 = 9 then (some 505) else (if x1 = 17 then (some 508) else (some 400)))
def abutmentref33_Status.f (k : Nat) (a0 : Int) (a1 : Int) : Option (Int) := if a0 = 1 then (if a1 = 21 then (some 408) else (if a1 = 20 then (some 413) else (if a1 = 18 then (some 417) else (if a1 = 4 then (some 431) else (if a1 = 10 then (abutmentref33_Status.j0 k a1 true) else (abutmentref33_Status.j0 k a1 (a1 == 15))))))) else (if a1 = 21 then (some 504) else (some 502))
set_option maxHeartbeats 8000000 in
set_option maxRecDepth 100000 in
theorem abutmentref33_Status.calls (k : Nat) (a0 : Int) (a1 : Int) (r : Int) (w : World) (h : abutmentref33_Status.f k a0 a1 = some r) :
    Calls Try.prog 19 #[.int .i64 a0, .int .i64 a1] w fun e w' => e = .returned (.int .i64 r) ∧ Drawn0 w w' := by
  have H : (if a0 = 1 then (if a1 = 21 then (some 408) else (if a1 = 20 then (some 413) else (if a1 = 18 then (some 417) else (if a1 = 4 then (some 431) else (if a1 = 10 then (abutmentref33_Status.j0 k a1 true) else (abutmentref33_Status.j0 k a1 (a1 == 15))))))) else (if a1 = 21 then (some 504) else (some 502))) = some r := h
  clear h
  by_cases c3 : a0 = 1
  · rw [if_pos c3] at H
    have c3b0 : (a0 == 1) = true := beq_iff_eq.mpr c3
    have c3b1 : (a0 != 1) = false := bne_eq_false_iff_eq.mpr c3
    clear c3
    by_cases c4 : a1 = 21
    · rw [if_pos c4] at H
      have c4b0 : (a1 == 21) = true := beq_iff_eq.mpr c4
      have c4b1 : (a1 != 21) = false := bne_eq_false_iff_eq.mpr c4
      clear c4
      obtain rfl := Option.some.inj H
      go_enter Try.func19, Try.ntmps19
      go_wp2
      go_ret
      exact ⟨by first | rfl | (simp; done) | (simp [*]; done), by repeat (first | exact Drawn0.refl _ | apply Drawn0.step)⟩
    · rw [if_neg c4] at H
      have c4b0 : (a1 == 21) = false := beq_eq_false_iff_ne.mpr c4
      have c4b1 : (a1 != 21) = true := bne_iff_ne.mpr c4
      by_cases c5 : a1 = 20
      · rw [if_pos c5] at H
        have c5b0 : (a1 == 20) = true := beq_iff_eq.mpr c5
        have c5b1 : (a1 != 20) = false := bne_eq_false_iff_eq.mpr c5
        clear c5
        obtain rfl := Option.some.inj H
        go_enter Try.func19, Try.ntmps19
        go_wp2
        go_ret
        exact ⟨by first | rfl | (simp; done) | (simp [*]; done), by repeat (first | exact Drawn0.refl _ | apply Drawn0.step)⟩
      · rw [if_neg c5] at H
        have c5b0 : (a1 == 20) = false := beq_eq_false_iff_ne.mpr c5
        have c5b1 : (a1 != 20) = true := bne_iff_ne.mpr c5
        by_cases c6 : a1 = 18
        · rw [if_pos c6] at H
          have c6b0 : (a1 == 18) = true := beq_iff_eq.mpr c6
          have c6b1 : (a1 != 18) = false := bne_eq_false_iff_eq.mpr c6
          clear c6
          obtain rfl := Option.some.inj H
          go_enter Try.func19, Try.ntmps19
          go_wp2
          go_ret
          exact ⟨by first | rfl | (simp; done) | (simp [*]; done), by repeat (first | exact Drawn0.refl _ | apply Drawn0.step)⟩
        · rw [if_neg c6] at H
          have c6b0 : (a1 == 18) = false := beq_eq_false_iff_ne.mpr c6
          have c6b1 : (a1 != 18) = true := bne_iff_ne.mpr c6
          by_cases c7 : a1 = 4
          · rw [if_pos c7] at H
            have c7b0 : (a1 == 4) = true := beq_iff_eq.mpr c7
            have c7b1 : (a1 != 4) = false := bne_eq_false_iff_eq.mpr c7
            clear c7
            obtain rfl := Option.some.inj H
            go_enter Try.func19, Try.ntmps19
            go_wp2
            go_ret
            exact ⟨by first | rfl | (simp; done) | (simp [*]; done), by repeat (first | exact Drawn0.refl _ | apply Drawn0.step)⟩
          · rw [if_neg c7] at H
            have c7b0 : (a1 == 4) = false := beq_eq_false_iff_ne.mpr c7
            have c7b1 : (a1 != 4) = true := bne_iff_ne.mpr c7
            have HC8 := Aside0.mk H
            clear H
            go_enter Try.func19, Try.ntmps19
            go_upto_region 13 with (fail)
            go_cut [22] (fun v22 wc => ∃ (kq : Nat) (x22_7 : Bool), v22 = .bool x22_7 ∧ Aside0 (abutmentref33_Status.j0 kq a1 x22_7 = some r) ∧ Aside0 (kq ≤ k) ∧ Drawn0 w wc)
            case first =>
              have H := HC8.out
              clear HC8
              by_cases c9 : a1 = 10
              · rw [if_pos c9] at H
                have c9b0 : (a1 == 10) = true := beq_iff_eq.mpr c9
                have c9b1 : (a1 != 10) = false := bne_eq_false_iff_eq.mpr c9
                clear c9
                (first | rw [c9b0] | (simp only [i64_w, i32_w]; rw [c9b0]) | skip)
                have H' := Aside0.mk H
                clear H
                go_wp2
                go_meet
                case rel => exact ⟨_, (true), (by first | rfl | (simp; done) | (simp [*]; done)), H', ⟨by first | omega | exact Nat.le_refl _⟩, by repeat (first | exact Drawn0.refl _ | apply Drawn0.step)⟩
              · rw [if_neg c9] at H
                have c9b0 : (a1 == 10) = false := beq_eq_false_iff_ne.mpr c9
                have c9b1 : (a1 != 10) = true := bne_iff_ne.mpr c9
                (first | rw [c9b0] | (simp only [i64_w, i32_w]; rw [c9b0]) | skip)
                have H' := Aside0.mk H
                clear H
                go_wp2
                go_meet
                case rel => exact ⟨_, ((a1 == 15)), (by first | rfl | (simp; done) | (simp [*]; done)), H', ⟨by first | omega | exact Nat.le_refl _⟩, by repeat (first | exact Drawn0.refl _ | apply Drawn0.step)⟩
            case rest =>
              clear HC8
              try clear c1
              try clear p2
              try clear c3
              try clear c3b0
              try clear c3b1
              try clear c4
              try clear c4b0
              try clear c4b1
              try clear c5
              try clear c5b0
              try clear c5b1
              try clear c6
              try clear c6b0
              try clear c6b1
              try clear c7
              try clear c7b0
              try clear c7b1
              try clear c9
              try clear c9b0
              try clear c9b1
              obtain ⟨kq, x22_7, rfl, HA, HJ7, ⟨mc7, rfl⟩⟩ := hcut
              cases kq with
              | zero => exact absurd HA.out (by simp [abutmentref33_Status.j0])
              | succ kj7 =>
                have H := HA.out
                clear HA
                simp only [abutmentref33_Status.j0] at H
                by_cases c10 : x22_7 = true
                · subst c10
                  have H1 : (some 501) = some r := by rw [if_pos rfl] at H; exact H
                  clear H
                  have H := H1
                  clear H1
                  obtain rfl := Option.some.inj H
                  go_wp2
                  go_ret
                  exact ⟨by first | rfl | (simp; done) | (simp [*]; done), by repeat (first | exact Drawn0.refl _ | apply Drawn0.step)⟩
                · replace c10 := Bool.eq_false_iff.mpr c10
                  subst c10
                  have H1 : (if a1 = 9 then (some 505) else (if a1 = 17 then (some 508) else (some 400))) = some r := by rw [if_neg (show ¬ (false = true) by decide)] at H; exact H
                  clear H
                  have H := H1
                  clear H1
                  by_cases c11 : a1 = 9
                  · rw [if_pos c11] at H
                    have c11b0 : (a1 == 9) = true := beq_iff_eq.mpr c11
                    have c11b1 : (a1 != 9) = false := bne_eq_false_iff_eq.mpr c11
                    clear c11
                    obtain rfl := Option.some.inj H
                    go_wp2
                    go_ret
                    exact ⟨by first | rfl | (simp; done) | (simp [*]; done), by repeat (first | exact Drawn0.refl _ | apply Drawn0.step)⟩
                  · rw [if_neg c11] at H
                    have c11b0 : (a1 == 9) = false := beq_eq_false_iff_ne.mpr c11
                    have c11b1 : (a1 != 9) = true := bne_iff_ne.mpr c11
                    by_cases c12 : a1 = 17
                    · rw [if_pos c12] at H
                      have c12b0 : (a1 == 17) = true := beq_iff_eq.mpr c12
                      have c12b1 : (a1 != 17) = false := bne_eq_false_iff_eq.mpr c12
                      clear c12
                      obtain rfl := Option.some.inj H
                      go_wp2
                      go_ret
                      exact ⟨by first | rfl | (simp; done) | (simp [*]; done), by repeat (first | exact Drawn0.refl _ | apply Drawn0.step)⟩
                    · rw [if_neg c12] at H
                      have c12b0 : (a1 == 17) = false := beq_eq_false_iff_ne.mpr c12
                      have c12b1 : (a1 != 17) = true := bne_iff_ne.mpr c12
                      obtain rfl := Option.some.inj H
                      go_wp2
                      go_ret
                      exact ⟨by first | rfl | (simp; done) | (simp [*]; done), by repeat (first | exact Drawn0.refl _ | apply Drawn0.step)⟩
  · rw [if_neg c3] at H
    have c3b0 : (a0 == 1) = false := beq_eq_false_iff_ne.mpr c3
    have c3b1 : (a0 != 1) = true := bne_iff_ne.mpr c3
    by_cases c13 : a1 = 21
    · rw [if_pos c13] at H
      have c13b0 : (a1 == 21) = true := beq_iff_eq.mpr c13
      have c13b1 : (a1 != 21) = false := bne_eq_false_iff_eq.mpr c13
      clear c13
      obtain rfl := Option.some.inj H
      go_enter Try.func19, Try.ntmps19
      go_wp2
      go_ret
      exact ⟨by first | rfl | (simp; done) | (simp [*]; done), by repeat (first | exact Drawn0.refl _ | apply Drawn0.step)⟩
    · rw [if_neg c13] at H
      have c13b0 : (a1 == 21) = false := beq_eq_false_iff_ne.mpr c13
      have c13b1 : (a1 != 21) = true := bne_iff_ne.mpr c13
      obtain rfl := Option.some.inj H
      go_enter Try.func19, Try.ntmps19
      go_wp2
      go_ret
      exact ⟨by first | rfl | (simp; done) | (simp [*]; done), by repeat (first | exact Drawn0.refl _ | apply Drawn0.step)⟩
end Go.Proofs.Ytjnhghplfdiijaa.Q

namespace Go.Proofs.Ytjnhghplfdiijaa.Q
open Go.RowKit Go.Proofs.YtjnhghplfdiijaaW.PrintWords Go.Proofs.YtjnhghplfdiijaaW.PrintLast Go.Proofs.YtjnhghplfdiijaaW.PrintMore
attribute [local go_sem] max2_int min2_int max_two min_two max_three min_three max_four min_four
set_option linter.unusedVariables false
set_option linter.unusedSimpArgs false
theorem eqA60 (d : Nat) (w : World) (x0 y0 : ByteArray) (x1 y1 : ByteArray) :
    (Op.equalIn (d + 2) 60 (.agg #[.string x0, .string x1]) (.agg #[.string y0, .string y1])).run Try.prog w = .ok (x0.toList == y0.toList && (x1.toList == y1.toList)) w := by
  refine eqA_of Try.underlying60 (by kernel_rfl) ?_
  refine eqf_cons (by rfl) (by go_simp; rfl) (by go_simp; rfl) (by go_simp) ?_
  exact eqf_last (by rfl) (by go_simp; rfl) (by go_simp; rfl) (by go_simp)
end Go.Proofs.Ytjnhghplfdiijaa.Q
