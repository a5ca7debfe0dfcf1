/- Asks, part 2: contracts of functions and plain laws, one behind the other (joined by wip/merge.py out of: Q136 Hpre2 Hone Q115 Hfuncs Hheader Shelf Hjoin Q72 Q169 Q121 Q93 Q75 Q26 Hpre4 Q133 Q135 Q137 Hnext Hparam Hpre5 QS170). -/
import Derived.Test.YtjnhghplfdiijaaMAsks0
import Derived.Test.YtjnhghplfdiijaaMAsks1
import Derived.IntWalk
import Derived.Shelf.Strings.Builder1
import Derived.Shelf.Strings.Builder2
import Derived.Shelf.Strings.OnBuilder
import Derived.Shelf.Strings.BuilderF
import Derived.Shelf.Strings.BuilderK
import Derived.Shelf.Strings.Builder2Cap
import Derived.Shelf.Strings.Prefix
import Derived.Shelf.Bits.Mul64
import Derived.Shelf.Strings.Repeat
import Derived.Shelf.Strings.BuilderCap
import Derived.Test.YtjnhghplfdiijaaProg
namespace Go.Proofs.Ytjnhghplfdiijaa.Q
open Go.RowKit Go.Proofs.YtjnhghplfdiijaaW.PrintWords Go.Proofs.YtjnhghplfdiijaaW.PrintLast Go.Proofs.YtjnhghplfdiijaaW.PrintMore
attribute [local go_sem] max2_int min2_int max_two min_two max_three min_three max_four min_four
set_option linter.unusedVariables false
set_option linter.unusedSimpArgs false
mutual
def cursor_Cursor_Quoted.j0 : Nat → ByteArray → Bool → ByteArray → Int → Option (ByteArray × Bool × ByteArray × Int)
  | 0, _, _, _, _ => none
  | k + 1, x4, x16, x1000, x1001 => if x16 = true then (some ((⟨#[]⟩ : ByteArray), false, x1000, x1001)) else (cursor_Cursor_Quoted.l0 k x4 ([] : List Int) 1 x1000 x1001)
def cursor_Cursor_Quoted.l0 : Nat → ByteArray → List Int → Int → ByteArray → Int → Option (ByteArray × Bool × ByteArray × Int)
  | 0, _, _, _, _, _ => none
  | k + 1, x4, x5, x6, x1000, x1001 => if x6 < (x4.size : Int) then (if 0 ≤ x6 then (if (bt x4 x6) = 34 then ((cursor_Cursor_take.f x1000 x1001 (wrap64 (x6 + 1))).bind fun bt104 => (some (strOfNums x5, true, bt104.2.1, bt104.2.2))) else (if (bt x4 x6) = 92 then (cursor_Cursor_Quoted.j2 k x4 x5 x6 (bt x4 x6) ((wrap64 (x6 + 1)) == (x4.size : Int)) x1000 x1001) else (cursor_Cursor_Quoted.j2 k x4 x5 x6 (bt x4 x6) false x1000 x1001))) else (none)) else (some ((⟨#[]⟩ : ByteArray), false, x1000, x1001))
def cursor_Cursor_Quoted.j2 : Nat → ByteArray → List Int → Int → Int → Bool → ByteArray → Int → Option (ByteArray × Bool × ByteArray × Int)
  | 0, _, _, _, _, _, _, _ => none
  | k + 1, x4, x5, x6, x7, x35, x1000, x1001 => if x35 = true then (some ((⟨#[]⟩ : ByteArray), false, x1000, x1001)) else (if x7 = 92 then (if 0 ≤ (wrap64 (x6 + 1)) then (if (wrap64 (x6 + 1)) < (x4.size : Int) then ((octet_Value.f (strOfNums (([bt x4 (wrap64 (x6 + 1))] : List Int)))).bind fun t110 => (if t110 = true then (if x5.length < 140737488355328 then (cursor_Cursor_Quoted.l0 k x4 (x5 ++ [bt x4 (wrap64 (x6 + 1))]) (wrap64 ((wrap64 (x6 + 1)) + 1)) x1000 x1001) else (none)) else (some ((⟨#[]⟩ : ByteArray), false, x1000, x1001)))) else (none)) else (none)) else ((octet_Value.f (strOfNums (([x7] : List Int)))).bind fun t117 => (if t117 = true then (if x5.length < 140737488355328 then (cursor_Cursor_Quoted.l0 k x4 (x5 ++ [x7]) (wrap64 (x6 + 1)) x1000 x1001) else (none)) else (some ((⟨#[]⟩ : ByteArray), false, x1000, x1001)))))
end
def cursor_Cursor_Quoted.f (k : Nat) (s0_0 : ByteArray) (s0_1 : Int) : Option (ByteArray × Bool × ByteArray × Int) := (cursor_Cursor_Left.f s0_0 s0_1).bind fun bt101 => (if bt101.1.toList = ([] : List UInt8) then (cursor_Cursor_Quoted.j0 k bt101.1 true bt101.2.1 bt101.2.2) else (if 0 < (bt101.1.size : Int) then (cursor_Cursor_Quoted.j0 k bt101.1 ((bt bt101.1 0) != 34) bt101.2.1 bt101.2.2) else (none)))
theorem cursor_Cursor_Quoted.mono_l : ∀ k, (∀ y0 y1 y2 y3, LeO (cursor_Cursor_Quoted.j0 k y0 y1 y2 y3) (cursor_Cursor_Quoted.j0 (k + 1) y0 y1 y2 y3)) ∧ (∀ y0 y1 y2 y3 y4, LeO (cursor_Cursor_Quoted.l0 k y0 y1 y2 y3 y4) (cursor_Cursor_Quoted.l0 (k + 1) y0 y1 y2 y3 y4)) ∧ (∀ y0 y1 y2 y3 y4 y5 y6, LeO (cursor_Cursor_Quoted.j2 k y0 y1 y2 y3 y4 y5 y6) (cursor_Cursor_Quoted.j2 (k + 1) y0 y1 y2 y3 y4 y5 y6))
  | 0 => ⟨fun _ _ _ _ r h => by simp [cursor_Cursor_Quoted.j0] at h, fun _ _ _ _ _ r h => by simp [cursor_Cursor_Quoted.l0] at h, fun _ _ _ _ _ _ _ r h => by simp [cursor_Cursor_Quoted.j2] at h⟩
  | k + 1 => by
    obtain ⟨ih0, ih1, ih2⟩ := cursor_Cursor_Quoted.mono_l k
    refine ⟨?_, ?_, ?_⟩
    · intro y0 y1 y2 y3
      unfold cursor_Cursor_Quoted.j0
      repeat' first
      | (with_reducible exact ih0 _ _ _ _)
      | (with_reducible exact ih1 _ _ _ _ _)
      | (with_reducible exact ih2 _ _ _ _ _ _ _)
      | (with_reducible exact LeO.refl _)
      | (with_reducible exact LeO.none _)
      | (with_reducible refine LeO.ite ?_ ?_)
      | (with_reducible refine LeO.bind ?_ (fun _ => ?_))
      | exact ih0 _ _ _ _
      | exact ih1 _ _ _ _ _
      | exact ih2 _ _ _ _ _ _ _
      | exact LeO.none _
      | refine LeO.ite ?_ ?_
      | refine LeO.bind ?_ (fun _ => ?_)
    · intro y0 y1 y2 y3 y4
      unfold cursor_Cursor_Quoted.l0
      repeat' first
      | (with_reducible exact ih0 _ _ _ _)
      | (with_reducible exact ih1 _ _ _ _ _)
      | (with_reducible exact ih2 _ _ _ _ _ _ _)
      | (with_reducible exact LeO.refl _)
      | (with_reducible exact LeO.none _)
      | (with_reducible refine LeO.ite ?_ ?_)
      | (with_reducible refine LeO.bind ?_ (fun _ => ?_))
      | exact ih0 _ _ _ _
      | exact ih1 _ _ _ _ _
      | exact ih2 _ _ _ _ _ _ _
      | exact LeO.none _
      | refine LeO.ite ?_ ?_
      | refine LeO.bind ?_ (fun _ => ?_)
    · intro y0 y1 y2 y3 y4 y5 y6
      unfold cursor_Cursor_Quoted.j2
      repeat' first
      | (with_reducible exact ih0 _ _ _ _)
      | (with_reducible exact ih1 _ _ _ _ _)
      | (with_reducible exact ih2 _ _ _ _ _ _ _)
      | (with_reducible exact LeO.refl _)
      | (with_reducible exact LeO.none _)
      | (with_reducible refine LeO.ite ?_ ?_)
      | (with_reducible refine LeO.bind ?_ (fun _ => ?_))
      | exact ih0 _ _ _ _
      | exact ih1 _ _ _ _ _
      | exact ih2 _ _ _ _ _ _ _
      | exact LeO.none _
      | refine LeO.ite ?_ ?_
      | refine LeO.bind ?_ (fun _ => ?_)
theorem cursor_Cursor_Quoted.mono : ∀ a0 a1 k, LeO (cursor_Cursor_Quoted.f k a0 a1) (cursor_Cursor_Quoted.f (k + 1) a0 a1) := by
  intro a0 a1 k
  obtain ⟨ih0, ih1, ih2⟩ := cursor_Cursor_Quoted.mono_l k
  unfold cursor_Cursor_Quoted.f
  repeat' first
      | (with_reducible exact ih0 _ _ _ _)
      | (with_reducible exact ih1 _ _ _ _ _)
      | (with_reducible exact ih2 _ _ _ _ _ _ _)
      | (with_reducible exact LeO.refl _)
      | (with_reducible exact LeO.none _)
      | (with_reducible refine LeO.ite ?_ ?_)
      | (with_reducible refine LeO.bind ?_ (fun _ => ?_))
      | exact ih0 _ _ _ _
      | exact ih1 _ _ _ _ _
      | exact ih2 _ _ _ _ _ _ _
      | exact LeO.none _
      | refine LeO.ite ?_ ?_
      | refine LeO.bind ?_ (fun _ => ?_)
set_option maxHeartbeats 8000000 in
set_option maxRecDepth 100000 in
theorem cursor_Cursor_Quoted.calls (k : Nat) (g : Nat) (s0_0 : ByteArray) (s0_1 : Int) (r1 : ByteArray) (r2 : Bool) (r3 : ByteArray) (r4 : Int) (w0 w : World) (hI : IsS176 w0 w g s0_0 s0_1) (hB : Below w0.heap.size w0 w) (h : cursor_Cursor_Quoted.f k s0_0 s0_1 = some (r1, r2, r3, r4)) :
    Calls Try.prog 136 #[.pointer (some ⟨g, 0, none⟩)] w fun e w' => e = .returned (.tuple #[.string r1, .bool r2]) ∧ IsS176 w0 w' g r3 r4 ∧ Below w0.heap.size w0 w' ∧ KeepBut w w' g none := by
  have HI0 := Aside0.mk hI
  have HK := Aside0.mk (KeepBut.refl w g none)
  have HL := Aside0.mk hB.size
  clear hI
  have HW0 := Aside0.mk hB.size
  have HB := Aside0.mk hB
  clear hB
  have H : ((cursor_Cursor_Left.f s0_0 s0_1).bind fun bt101 => (if bt101.1.toList = ([] : List UInt8) then (cursor_Cursor_Quoted.j0 k bt101.1 true bt101.2.1 bt101.2.2) else (if 0 < (bt101.1.size : Int) then (cursor_Cursor_Quoted.j0 k bt101.1 ((bt bt101.1 0) != 34) bt101.2.1 bt101.2.2) else (none)))) = some (r1, r2, r3, r4) := h
  clear h
  replace H := Option.bind_eq_some_iff.mp H
  obtain ⟨⟨t101, t102, t103⟩, A20, H⟩ := H
  (try dsimp only at H)
  have A2 := Aside0.mk A20
  clear A20
  have HC3 := Aside0.mk H
  clear H
  go_enter Try.func136, Try.ntmps136
  go_upto_region 2 with (first | ((with_reducible refine gate_callee (f := 175) rfl ?_); refine goesL_ (some 9) rfl rfl Try.func175 (by kernel_rfl) rfl #[.pointer (some ⟨g, 0, none⟩)] rfl (by (try simp only [List.map_toArray, List.map_cons, List.map_nil]); first | done | rfl | (simp only [List.length_drop, List.length_take]; rfl)) ?_; (with_reducible refine (cursor_Cursor_Left.calls g s0_0 s0_1 t101 t102 t103 w0 _ ?side1 ?side2 A2.out).mono ?_); (case side1 => repeat (first | (with_reducible first | exact HI0.out | apply IsS176.alloc | apply IsS176.drewN | apply IsS176.drew | apply IsS176.set_0 | apply IsS176.set_1) | exact HI0.out)); (case side2 => repeat (first | (with_reducible first | exact HB.out | apply below_alloc | apply pw_below_drewN | apply below_drew1 | refine below_set ?_ (IsS176.ge HI0.out)) | exact HB.out)); rintro e w4 ⟨rfl, hi, hb, hk⟩; refine ⟨_, rfl, ?_⟩; have n0_ := Aside0.mk (KeepBut.trans (by repeat (first | (with_reducible first | exact HK.out | apply KeepBut.set_ | apply keep_drewN | apply keep_drew | apply keep_alloc) | exact HK.out)) hk (.inl rfl)); have n1_ := Aside0.mk (hb); have n2_ := Aside0.mk (hi); clear HK; clear HB; clear HI0; have HK := n0_; have HB := n1_; have HI0 := n2_; clear n0_ n1_ n2_; (try clear hb); (try clear hb2); (try clear hk); (try clear hi)))
  (try simp only [Act.put, List.setIfInBounds_toArray, List.set_cons_zero, List.set_cons_succ])
  go_cut [16] (fun v16 wc => ∃ (kq : Nat) (x16_2 : Bool), v16 = .bool x16_2 ∧ Aside0 (cursor_Cursor_Quoted.j0 kq t101 x16_2 t102 t103 = some (r1, r2, r3, r4)) ∧ Aside0 (kq ≤ k) ∧ Aside0 (IsS176 w0 wc g t102 t103) ∧ Aside0 (KeepBut w wc g none) ∧ Aside0 (Below w0.heap.size w0 wc))
  case first =>
    have H := HC3.out
    clear HC3
    by_cases c5 : t101.toList = ([] : List UInt8)
    · rw [if_pos c5] at H
      have c5b0 : (t101.toList == ([] : List UInt8)) = true := beq_iff_eq.mpr c5
      have c5b1 : (t101.toList != ([] : List UInt8)) = false := bne_eq_false_iff_eq.mpr c5
      clear c5
      (first | rw [c5b0] | (simp only [i64_w, i32_w]; rw [c5b0]) | skip)
      have H' := Aside0.mk H
      clear H
      go_wp2
      go_meet
      case rel => exact ⟨_, (true), (by first | rfl | (simp; done) | (simp [*]; done)), H', ⟨by first | omega | exact Nat.le_refl _⟩, ⟨by repeat (first | (with_reducible first | exact HI0.out | apply IsS176.alloc | apply IsS176.drewN | apply IsS176.drew | apply IsS176.set_0 | apply IsS176.set_1) | exact HI0.out)⟩, ⟨by repeat (first | (with_reducible first | exact HK.out | apply KeepBut.set_ | apply keep_drewN | apply keep_drew | apply keep_alloc) | exact HK.out)⟩, ⟨by repeat (first | (with_reducible first | exact HB.out | apply below_alloc | apply pw_below_drewN | apply below_drew1 | refine below_set ?_ (IsS176.ge HI0.out)) | exact HB.out)⟩⟩
    · rw [if_neg c5] at H
      have c5b0 : (t101.toList == ([] : List UInt8)) = false := beq_eq_false_iff_ne.mpr c5
      have c5b1 : (t101.toList != ([] : List UInt8)) = true := bne_iff_ne.mpr c5
      (first | rw [c5b0] | (simp only [i64_w, i32_w]; rw [c5b0]) | skip)
      by_cases c6 : 0 < (t101.size : Int)
      · rw [if_pos c6] at H
        have c6b0 : decide (0 < (t101.size : Int)) = true := decide_eq_true c6
        have c6b1 : decide (0 < t101.size) = true := decide_eq_true (by omega)
        clear c6
        have H' := Aside0.mk H
        clear H
        have p7 : 0 ≤ (0 : Int) := (by omega)
        have q7 : 0 < t101.size := (by have : (0 : Int) < (t101.size : Int) := of_decide_eq_true (by first | (with_reducible assumption) | assumption); omega)
        have hx7 : ∀ h : 0 < t101.size, ((t101[0]'h).toNat : Int) = bt t101 0 := bt_at t101 0
        clear p7
        have qi7 : (0 < (t101.size : Int)) = True := eq_true (of_decide_eq_true (by first | (with_reducible assumption) | assumption))
        replace q7 := eq_true q7
        go_wp2
        go_meet
        case rel => exact ⟨_, (((bt t101 0) != 34)), (by first | rfl | (simp; done) | (simp [*]; done)), H', ⟨by first | omega | exact Nat.le_refl _⟩, ⟨by repeat (first | (with_reducible first | exact HI0.out | apply IsS176.alloc | apply IsS176.drewN | apply IsS176.drew | apply IsS176.set_0 | apply IsS176.set_1) | exact HI0.out)⟩, ⟨by repeat (first | (with_reducible first | exact HK.out | apply KeepBut.set_ | apply keep_drewN | apply keep_drew | apply keep_alloc) | exact HK.out)⟩, ⟨by repeat (first | (with_reducible first | exact HB.out | apply below_alloc | apply pw_below_drewN | apply below_drew1 | refine below_set ?_ (IsS176.ge HI0.out)) | exact HB.out)⟩⟩
      · rw [if_neg c6] at H
        exact absurd H (by simp)
  case rest =>
    clear HC3
    try clear c1
    try clear p2
    try clear c5
    try clear c5b0
    try clear c5b1
    try clear c6
    try clear c6b0
    try clear c6b1
    try clear p7
    try clear q7
    try clear hx7
    try clear qi7
    try clear p7
    try clear q7
    obtain ⟨kq, x16_2, rfl, HA, HJ2, HI0, HK, HB⟩ := hcut
    cases kq with
    | zero => exact absurd HA.out (by simp [cursor_Cursor_Quoted.j0])
    | succ kj2 =>
      have H := HA.out
      clear HA
      simp only [cursor_Cursor_Quoted.j0] at H
      by_cases c8 : x16_2 = true
      · subst c8
        have H1 : (some ((⟨#[]⟩ : ByteArray), false, t102, t103)) = some (r1, r2, r3, r4) := by rw [if_pos rfl] at H; exact H
        clear H
        have H := H1
        clear H1
        simp only [Option.some.injEq, Prod.mk.injEq] at H
        obtain ⟨rfl, rfl, rfl, rfl⟩ := H
        go_wp2
        go_ret2
        exact ⟨by first | rfl | (simp [errW_none, errW_some] <;> rfl) | (simp [*, errW_none, errW_some] <;> rfl), by repeat (first | (with_reducible first | exact HI0.out | apply IsS176.alloc | apply IsS176.drewN | apply IsS176.drew | apply IsS176.set_0 | apply IsS176.set_1) | exact HI0.out), by repeat (first | (with_reducible first | exact HB.out | apply below_alloc | apply pw_below_drewN | apply below_drew1 | refine below_set ?_ (IsS176.ge HI0.out)) | exact HB.out), by repeat (first | (with_reducible first | exact HK.out | apply KeepBut.set_ | apply keep_drewN | apply keep_drew | apply keep_alloc) | exact HK.out)⟩
      · replace c8 := Bool.eq_false_iff.mpr c8
        subst c8
        have H1 : (cursor_Cursor_Quoted.l0 kj2 t101 ([] : List Int) 1 t102 t103) = some (r1, r2, r3, r4) := by rw [if_neg (show ¬ (false = true) by decide)] at H; exact H
        clear H
        have H := H1
        clear H1
        have H' := Aside0.mk H
        clear H
        go_wp2
        go_loopg [5, 6] kj2 (fun kq v5 v6 w' => ∃ (x5_2 : List Int) (x6_2 : Int) (x1000_2 : ByteArray) (x1001_2 : Int), v6 = .int .i64 x6_2 ∧ Aside0 (cursor_Cursor_Quoted.l0 kq t101 x5_2 x6_2 x1000_2 x1001_2 = some (r1, r2, r3, r4)) ∧ Aside0 (kq ≤ kj2) ∧ Aside0 (Kd.R (Kd.int .u8) 5 w' w.heap.size (fun _ => True) v5 x5_2) ∧ Aside0 (IsS176 w0 w' g x1000_2 x1001_2) ∧ Aside0 (KeepBut w w' g none) ∧ Aside0 (Below w0.heap.size w0 w'))
        case atStart => exact ⟨(([] : List Int)), (1), (t102), (t103), (by first | rfl | (simp; done) | (simp [*]; done)), H', ⟨Nat.le_refl _⟩, ⟨by first | exact Kd.R_nil _ _ _ _ _ | exact Kd.N_nil _ _ _ _ _ | exact Kd.V_nil _ _ _ _ _ | exact Kd.Q_nil _ _ _ _ _ | exact Kd.S_nil _ _ _ _ _⟩, ⟨by repeat (first | (with_reducible first | exact HI0.out | apply IsS176.alloc | apply IsS176.drewN | apply IsS176.drew | apply IsS176.set_0 | apply IsS176.set_1) | exact HI0.out)⟩, ⟨by repeat (first | (with_reducible first | exact HK.out | apply KeepBut.set_ | apply keep_drewN | apply keep_drew | apply keep_alloc) | exact HK.out)⟩, ⟨by repeat (first | (with_reducible first | exact HB.out | apply below_alloc | apply pw_below_drewN | apply below_drew1 | refine below_set ?_ (IsS176.ge HI0.out)) | exact HB.out)⟩⟩
        case round =>
          clear H'
          try clear c1
          try clear p2
          try clear c5
          try clear c5b0
          try clear c5b1
          try clear c6
          try clear c6b0
          try clear c6b1
          try clear p7
          try clear q7
          try clear hx7
          try clear qi7
          try clear c8
          try clear p2
          try clear p7
          try clear q7
          obtain ⟨x5_2, x6_2, x1000_2, x1001_2, rfl, HA, HK2, HO_5, HI0, HK, HB⟩ := hrel
          cases gk with
          | zero => exact absurd HA.out (by simp [cursor_Cursor_Quoted.l0])
          | succ k2 =>
            have H := HA.out
            clear HA
            simp only [cursor_Cursor_Quoted.l0] at H
            by_cases c9 : x6_2 < (t101.size : Int)
            · rw [if_pos c9] at H
              have c9b0 : decide (x6_2 < (t101.size : Int)) = true := decide_eq_true c9
              clear c9
              by_cases c10 : 0 ≤ x6_2
              · rw [if_pos c10] at H
                have c10b0 : decide (0 ≤ x6_2) = true := decide_eq_true c10
                clear c10
                by_cases c12 : (bt t101 x6_2) = 34
                · rw [if_pos c12] at H
                  have c12b0 : ((bt t101 x6_2) == 34) = true := beq_iff_eq.mpr c12
                  have c12b1 : ((bt t101 x6_2) != 34) = false := bne_eq_false_iff_eq.mpr c12
                  clear c12
                  replace H := Option.bind_eq_some_iff.mp H
                  obtain ⟨⟨t104, t105, t106⟩, A130, H⟩ := H
                  (try dsimp only at H)
                  have A13 := Aside0.mk A130
                  clear A130
                  simp only [Option.some.injEq, Prod.mk.injEq] at H
                  obtain ⟨rfl, rfl, rfl, rfl⟩ := H
                  have p11 : 0 ≤ (x6_2 : Int) := of_decide_eq_true (by first | (with_reducible assumption) | assumption)
                  have q11 : x6_2 < (t101.size : Int) := of_decide_eq_true (by first | (with_reducible assumption) | assumption)
                  have hx11 := bt_at t101 x6_2
                  replace p11 := eq_true p11
                  replace q11 := eq_true q11
                  go_wp2_with (first | ((with_reducible refine gate_callee (f := 172) rfl ?_); refine goesL_ (some 32) rfl rfl Try.func172 (by kernel_rfl) rfl #[.pointer (some ⟨g, 0, none⟩), .int .i64 (wrap64 (x6_2 + 1))] rfl (by (try simp only [List.map_toArray, List.map_cons, List.map_nil]); first | done | rfl | (simp only [List.length_drop, List.length_take]; rfl)) ?_; (with_reducible refine (cursor_Cursor_take.calls g x1000_2 x1001_2 (wrap64 (x6_2 + 1)) t104 t105 t106 w0 _ ?side1 ?side2 A13.out).mono ?_); (case side1 => repeat (first | (with_reducible first | exact HI0.out | apply IsS176.alloc | apply IsS176.drewN | apply IsS176.drew | apply IsS176.set_0 | apply IsS176.set_1) | exact HI0.out)); (case side2 => repeat (first | (with_reducible first | exact HB.out | apply below_alloc | apply pw_below_drewN | apply below_drew1 | refine below_set ?_ (IsS176.ge HI0.out)) | exact HB.out)); rintro e w14 ⟨rfl, hi, hb, hk⟩; refine ⟨_, rfl, ?_⟩; have n0_ := Aside0.mk (Kd.R_mono (Kd.R_keep (IsS176.apart (show IsS176 w0 _ g x1000_2 x1001_2 from by repeat (first | (with_reducible first | exact HI0.out | apply IsS176.alloc | apply IsS176.drewN | apply IsS176.drew | apply IsS176.set_0 | apply IsS176.set_1) | exact HI0.out)) (by (with_reducible repeat (first | apply Kd.R_alloc | apply Kd.R_drewN | apply Kd.R_drew)); exact HO_5.out) (by decide)) hk (fun _ h => h.2)) (fun _ h => h.1)); have n1_ := Aside0.mk (KeepBut.trans (by repeat (first | (with_reducible first | exact HK.out | apply KeepBut.set_ | apply keep_drewN | apply keep_drew | apply keep_alloc) | exact HK.out)) hk (.inl rfl)); have n2_ := Aside0.mk (hb); have n3_ := Aside0.mk (hi); clear HO_5; clear HK; clear HB; clear HI0; have HO_5 := n0_; have HK := n1_; have HB := n2_; have HI0 := n3_; clear n0_ n1_ n2_ n3_; (try clear hb); (try clear hb2); (try clear hk); (try clear hi); have hcv15 := own_string (P := Try.prog) Try.underlying149 Try.underlying5 Try.underlying9 (Kd.own_of_R HO_5.out)))
                  go_ret2
                  exact ⟨by first | rfl | (simp [errW_none, errW_some] <;> rfl) | (simp [*, errW_none, errW_some] <;> rfl), by repeat (first | (with_reducible first | exact HI0.out | apply IsS176.alloc | apply IsS176.drewN | apply IsS176.drew | apply IsS176.set_0 | apply IsS176.set_1) | exact HI0.out), by repeat (first | (with_reducible first | exact HB.out | apply below_alloc | apply pw_below_drewN | apply below_drew1 | refine below_set ?_ (IsS176.ge HI0.out)) | exact HB.out), by repeat (first | (with_reducible first | exact HK.out | apply KeepBut.set_ | apply keep_drewN | apply keep_drew | apply keep_alloc) | exact HK.out)⟩
                · rw [if_neg c12] at H
                  have c12b0 : ((bt t101 x6_2) == 34) = false := beq_eq_false_iff_ne.mpr c12
                  have c12b1 : ((bt t101 x6_2) != 34) = true := bne_iff_ne.mpr c12
                  have HC16 := Aside0.mk H
                  clear H
                  have p11 : 0 ≤ (x6_2 : Int) := of_decide_eq_true (by first | (with_reducible assumption) | assumption)
                  have q11 : x6_2 < (t101.size : Int) := of_decide_eq_true (by first | (with_reducible assumption) | assumption)
                  have hx11 := bt_at t101 x6_2
                  replace p11 := eq_true p11
                  replace q11 := eq_true q11
                  go_upto_region 12 with (fail)
                  go_cut [35] (fun v35 wc => ∃ (kq : Nat) (x35_15 : Bool), v35 = .bool x35_15 ∧ Aside0 (cursor_Cursor_Quoted.j2 kq t101 x5_2 x6_2 (bt t101 x6_2) x35_15 x1000_2 x1001_2 = some (r1, r2, r3, r4)) ∧ Aside0 (kq ≤ k2) ∧ Aside0 (Kd.R (Kd.int .u8) 5 wc w.heap.size (fun _ => True) u5 x5_2) ∧ Aside0 (IsS176 w0 wc g x1000_2 x1001_2) ∧ Aside0 (KeepBut w wc g none) ∧ Aside0 (Below w0.heap.size w0 wc))
                  case first =>
                    have H := HC16.out
                    clear HC16
                    by_cases c17 : (bt t101 x6_2) = 92
                    · rw [if_pos c17] at H
                      have c17b0 : ((bt t101 x6_2) == 92) = true := beq_iff_eq.mpr c17
                      have c17b1 : ((bt t101 x6_2) != 92) = false := bne_eq_false_iff_eq.mpr c17
                      clear c17
                      (first | rw [c17b0] | (simp only [i64_w, i32_w]; rw [c17b0]) | skip)
                      have H' := Aside0.mk H
                      clear H
                      go_wp2
                      go_meet
                      case rel => exact ⟨_, (((wrap64 (x6_2 + 1)) == (t101.size : Int))), (by first | rfl | (simp; done) | (simp [*]; done)), H', ⟨by have := HJ2.out; have := HK2.out; first | omega | exact Nat.le_refl _⟩, ⟨by (with_reducible repeat (first | apply Kd.R_alloc | apply Kd.R_drewN | apply Kd.R_drew)); exact HO_5.out⟩, ⟨by repeat (first | (with_reducible first | exact HI0.out | apply IsS176.alloc | apply IsS176.drewN | apply IsS176.drew | apply IsS176.set_0 | apply IsS176.set_1) | exact HI0.out)⟩, ⟨by repeat (first | (with_reducible first | exact HK.out | apply KeepBut.set_ | apply keep_drewN | apply keep_drew | apply keep_alloc) | exact HK.out)⟩, ⟨by repeat (first | (with_reducible first | exact HB.out | apply below_alloc | apply pw_below_drewN | apply below_drew1 | refine below_set ?_ (IsS176.ge HI0.out)) | exact HB.out)⟩⟩
                    · rw [if_neg c17] at H
                      have c17b0 : ((bt t101 x6_2) == 92) = false := beq_eq_false_iff_ne.mpr c17
                      have c17b1 : ((bt t101 x6_2) != 92) = true := bne_iff_ne.mpr c17
                      (first | rw [c17b0] | (simp only [i64_w, i32_w]; rw [c17b0]) | skip)
                      have H' := Aside0.mk H
                      clear H
                      go_wp2
                      go_meet
                      case rel => exact ⟨_, (false), (by first | rfl | (simp; done) | (simp [*]; done)), H', ⟨by have := HJ2.out; have := HK2.out; first | omega | exact Nat.le_refl _⟩, ⟨by (with_reducible repeat (first | apply Kd.R_alloc | apply Kd.R_drewN | apply Kd.R_drew)); exact HO_5.out⟩, ⟨by repeat (first | (with_reducible first | exact HI0.out | apply IsS176.alloc | apply IsS176.drewN | apply IsS176.drew | apply IsS176.set_0 | apply IsS176.set_1) | exact HI0.out)⟩, ⟨by repeat (first | (with_reducible first | exact HK.out | apply KeepBut.set_ | apply keep_drewN | apply keep_drew | apply keep_alloc) | exact HK.out)⟩, ⟨by repeat (first | (with_reducible first | exact HB.out | apply below_alloc | apply pw_below_drewN | apply below_drew1 | refine below_set ?_ (IsS176.ge HI0.out)) | exact HB.out)⟩⟩
                  case rest =>
                    clear HC16
                    try clear c1
                    try clear p1
                    try clear q1
                    try clear hx1
                    try clear hcv1
                    try clear p2
                    try clear c5
                    try clear c5b0
                    try clear c5b1
                    try clear c6
                    try clear c6b0
                    try clear c6b1
                    try clear p6
                    try clear p7
                    try clear q7
                    try clear hx7
                    try clear qi7
                    try clear c8
                    try clear c9
                    try clear c9b0
                    try clear c10
                    try clear c10b0
                    try clear p11
                    try clear q11
                    try clear hx11
                    try clear c12
                    try clear c12b0
                    try clear c12b1
                    try clear c13
                    try clear hcv15
                    try clear c17
                    try clear c17b0
                    try clear c17b1
                    try clear p11
                    try clear p2
                    try clear p7
                    try clear q11
                    try clear q7
                    obtain ⟨kq, x35_15, rfl, HA, HJ15, HO_5, HI0, HK, HB⟩ := hcut
                    cases kq with
                    | zero => exact absurd HA.out (by simp [cursor_Cursor_Quoted.j2])
                    | succ kj15 =>
                      have H := HA.out
                      clear HA
                      simp only [cursor_Cursor_Quoted.j2] at H
                      by_cases c18 : x35_15 = true
                      · subst c18
                        have H1 : (some ((⟨#[]⟩ : ByteArray), false, x1000_2, x1001_2)) = some (r1, r2, r3, r4) := by rw [if_pos rfl] at H; exact H
                        clear H
                        have H := H1
                        clear H1
                        simp only [Option.some.injEq, Prod.mk.injEq] at H
                        obtain ⟨rfl, rfl, rfl, rfl⟩ := H
                        go_wp2
                        go_ret2
                        exact ⟨by first | rfl | (simp [errW_none, errW_some] <;> rfl) | (simp [*, errW_none, errW_some] <;> rfl), by repeat (first | (with_reducible first | exact HI0.out | apply IsS176.alloc | apply IsS176.drewN | apply IsS176.drew | apply IsS176.set_0 | apply IsS176.set_1) | exact HI0.out), by repeat (first | (with_reducible first | exact HB.out | apply below_alloc | apply pw_below_drewN | apply below_drew1 | refine below_set ?_ (IsS176.ge HI0.out)) | exact HB.out), by repeat (first | (with_reducible first | exact HK.out | apply KeepBut.set_ | apply keep_drewN | apply keep_drew | apply keep_alloc) | exact HK.out)⟩
                      · replace c18 := Bool.eq_false_iff.mpr c18
                        subst c18
                        have H1 : (if (bt t101 x6_2) = 92 then (if 0 ≤ (wrap64 (x6_2 + 1)) then (if (wrap64 (x6_2 + 1)) < (t101.size : Int) then ((octet_Value.f (strOfNums (([bt t101 (wrap64 (x6_2 + 1))] : List Int)))).bind fun t110 => (if t110 = true then (if x5_2.length < 140737488355328 then (cursor_Cursor_Quoted.l0 kj15 t101 (x5_2 ++ [bt t101 (wrap64 (x6_2 + 1))]) (wrap64 ((wrap64 (x6_2 + 1)) + 1)) x1000_2 x1001_2) else (none)) else (some ((⟨#[]⟩ : ByteArray), false, x1000_2, x1001_2)))) else (none)) else (none)) else ((octet_Value.f (strOfNums (([(bt t101 x6_2)] : List Int)))).bind fun t117 => (if t117 = true then (if x5_2.length < 140737488355328 then (cursor_Cursor_Quoted.l0 kj15 t101 (x5_2 ++ [(bt t101 x6_2)]) (wrap64 (x6_2 + 1)) x1000_2 x1001_2) else (none)) else (some ((⟨#[]⟩ : ByteArray), false, x1000_2, x1001_2))))) = some (r1, r2, r3, r4) := by rw [if_neg (show ¬ (false = true) by decide)] at H; exact H
                        clear H
                        have H := H1
                        clear H1
                        by_cases c19 : (bt t101 x6_2) = 92
                        · rw [if_pos c19] at H
                          have c19b0 : ((bt t101 x6_2) == 92) = true := beq_iff_eq.mpr c19
                          have c19b1 : ((bt t101 x6_2) != 92) = false := bne_eq_false_iff_eq.mpr c19
                          clear c19
                          obtain ⟨ji20, hji20⟩ : ∃ j_ : Int, (wrap64 (x6_2 + 1)) = j_ := ⟨_, rfl⟩
                          replace H : (if 0 ≤ (ji20) then (if (ji20) < (t101.size : Int) then ((octet_Value.f (strOfNums (([bt t101 (ji20)] : List Int)))).bind fun t110 => (if t110 = true then (if x5_2.length < 140737488355328 then (cursor_Cursor_Quoted.l0 kj15 t101 (x5_2 ++ [bt t101 (ji20)]) (wrap64 ((ji20) + 1)) x1000_2 x1001_2) else (none)) else (some ((⟨#[]⟩ : ByteArray), false, x1000_2, x1001_2)))) else (none)) else (none)) = some (r1, r2, r3, r4) := by first | (rw [hji20] at H; exact H) | (simp only [hji20] at H ⊢; exact H)
                          have hji20w : (IntKind.i64.wrap (x6_2 + 1)) = ji20 := (i64_w _).trans hji20
                          by_cases c21 : 0 ≤ (ji20)
                          · rw [if_pos c21] at H
                            have c21b0 : decide (0 ≤ (ji20)) = true := decide_eq_true c21
                            clear c21
                            by_cases c22 : (ji20) < (t101.size : Int)
                            · rw [if_pos c22] at H
                              have c22b0 : decide ((ji20) < (t101.size : Int)) = true := decide_eq_true c22
                              clear c22
                              obtain ⟨y107, hy107⟩ : ∃ y_ : List Int, y_ = (([bt t101 (ji20)] : List Int)) := ⟨_, rfl⟩
                              replace H : ((octet_Value.f (strOfNums y107)).bind fun t110 => (if t110 = true then (if x5_2.length < 140737488355328 then (cursor_Cursor_Quoted.l0 kj15 t101 (x5_2 ++ [bt t101 (ji20)]) (wrap64 ((ji20) + 1)) x1000_2 x1001_2) else (none)) else (some ((⟨#[]⟩ : ByteArray), false, x1000_2, x1001_2)))) = some (r1, r2, r3, r4) := by first | (rw [hy107]; with_reducible exact H) | (have H2_ := (Option.bind_some _ _).symm.trans H; rw [hy107]; with_reducible exact H2_) | (have H2_ := (Option.bind_some _ _).symm.trans H; with_reducible exact H2_) | with_reducible exact H | (rw [hy107]; exact H) | exact H
                              have Ny107 := Aside0.mk hy107
                              clear hy107
                              replace H := Option.bind_eq_some_iff.mp H
                              obtain ⟨t110, A240, H⟩ := H
                              (try dsimp only at H)
                              have A24 := Aside0.mk A240
                              clear A240
                              by_cases c25 : t110 = true
                              · subst c25
                                have H1 : (if x5_2.length < 140737488355328 then (cursor_Cursor_Quoted.l0 kj15 t101 (x5_2 ++ [bt t101 (ji20)]) (wrap64 ((ji20) + 1)) x1000_2 x1001_2) else (none)) = some (r1, r2, r3, r4) := by rw [if_pos rfl] at H; exact H
                                clear H
                                have H := H1
                                clear H1
                                by_cases c26 : x5_2.length < 140737488355328
                                · rw [if_pos c26] at H
                                  have LMc26 := Aside0.mk c26
                                  clear c26
                                  obtain ⟨y111, hy111⟩ : ∃ y_ : List Int, y_ = (x5_2 ++ [bt t101 (ji20)]) := ⟨_, rfl⟩
                                  replace H : (cursor_Cursor_Quoted.l0 kj15 t101 y111 (wrap64 ((ji20) + 1)) x1000_2 x1001_2) = some (r1, r2, r3, r4) := by first | (rw [hy111]; with_reducible exact H) | (have H2_ := (Option.bind_some _ _).symm.trans H; rw [hy111]; with_reducible exact H2_) | (have H2_ := (Option.bind_some _ _).symm.trans H; with_reducible exact H2_) | with_reducible exact H | (rw [hy111]; exact H) | exact H
                                  have Ny111 := Aside0.mk hy111
                                  clear hy111
                                  have H' := Aside0.mk H
                                  clear H
                                  have p23 : 0 ≤ ((ji20) : Int) := of_decide_eq_true (by first | (with_reducible assumption) | assumption)
                                  have q23 : (ji20) < (t101.size : Int) := of_decide_eq_true (by first | (with_reducible assumption) | assumption)
                                  have hx23 := bt_at t101 (ji20)
                                  replace p23 := eq_true p23
                                  replace q23 := eq_true q23
                                  go_wp2_with (first | ((with_reducible refine gate_dst (N := 54) rfl ?_); (try (refine gate_guard (by rfl) ?_; dsimp only)); refine Kd.R_lit (Kd.int .u8) _ 5 ?hg (N := 54) ?hd (xs := ([bt t101 (ji20)] : List Int)) (inner := [.int .u8 (bt t101 (ji20))]) (ok := fun _ => True) (okp := fun _ => True) ?hr ?hp (fun _ hk => hk) trivial (Below.refl _ _) (Nat.le_refl _) (by simp) ?_; (case hd => rfl); (case hg => rfl); (case hr => first | (go_simp; done) | (go_simp; rfl)); (case hp => exact (Reps.one (show Kd.M (Kd.int .u8) _ _ _ (bt t101 (ji20)) [.int .u8 (bt t101 (ji20))] from rfl) (Reps.none _ _))); intro v108 w27 ho28 hb hg_ hnew_; clear hg_ hnew_; (first | rw [← Ny107.out] at ho28 | (simp only [Int.reduceToNat] at ho28; rw [← Ny107.out] at ho28)); have n0_ := Aside0.mk (Kd.R_elder' (by (with_reducible repeat (first | apply Kd.R_alloc | apply Kd.R_drewN | apply Kd.R_drew)); exact HO_5.out) (Kd.R_base ho28) hb); have n1_ := Aside0.mk (Kd.R_lower (Kd.R_new' ho28 (Kd.R_lt (by (with_reducible repeat (first | apply Kd.R_alloc | apply Kd.R_drewN | apply Kd.R_drew)); exact HO_5.out))) (keep_size (w := w) (g := g) (row := none) (by repeat (first | (with_reducible first | exact HK.out | apply KeepBut.set_ | apply keep_drewN | apply keep_drew | apply keep_alloc) | exact HK.out)))); have n2_ := Aside0.mk (IsS176.below (by repeat (first | (with_reducible first | exact HI0.out | apply IsS176.alloc | apply IsS176.drewN | apply IsS176.drew | apply IsS176.set_0 | apply IsS176.set_1) | exact HI0.out)) hb); have n3_ := Aside0.mk (KeepBut.trans (by repeat (first | (with_reducible first | exact HK.out | apply KeepBut.set_ | apply keep_drewN | apply keep_drew | apply keep_alloc) | exact HK.out)) (KeepBut.of_below hb g none) (.inl rfl)); have n4_ := Aside0.mk (below_step (by repeat (first | (with_reducible first | exact HB.out | apply below_alloc | apply pw_below_drewN | apply below_drew1 | refine below_set ?_ (IsS176.ge HI0.out)) | exact HB.out)) hb); clear HO_5; clear HI0; clear HK; clear HB; have HO_5 := n0_; have HO109 := n1_; have HI0 := n2_; have HK := n3_; have HB := n4_; clear n0_ n1_ n2_ n3_ n4_; clear hb ho28; have hcv29 := own_string (P := Try.prog) Try.underlying149 Try.underlying5 Try.underlying9 (Kd.own_of_R HO109.out)) | ((with_reducible refine gate_callee (f := 139) rfl ?_); refine goesL_ (some 56) rfl rfl Try.func139 (by kernel_rfl) rfl #[.string (strOfNums y107)] rfl (by (try simp only [List.map_toArray, List.map_cons, List.map_nil]); first | done | rfl | (simp only [List.length_drop, List.length_take]; rfl)) ?_; (with_reducible refine (octet_Value.calls (strOfNums y107) true _ A24.out).mono ?_); rintro e w30 ⟨rfl, hb⟩; refine ⟨_, rfl, ?_⟩; have n0_ := Aside0.mk (Kd.R_below (by (with_reducible repeat (first | apply Kd.R_alloc | apply Kd.R_drewN | apply Kd.R_drew)); exact HO_5.out) hb); have n1_ := Aside0.mk (Kd.R_below (by (with_reducible repeat (first | apply Kd.R_alloc | apply Kd.R_drewN | apply Kd.R_drew)); exact HO109.out) hb); have n2_ := Aside0.mk (IsS176.below (by repeat (first | (with_reducible first | exact HI0.out | apply IsS176.alloc | apply IsS176.drewN | apply IsS176.drew | apply IsS176.set_0 | apply IsS176.set_1) | exact HI0.out)) hb); have n3_ := Aside0.mk (KeepBut.trans (by repeat (first | (with_reducible first | exact HK.out | apply KeepBut.set_ | apply keep_drewN | apply keep_drew | apply keep_alloc) | exact HK.out)) (KeepBut.of_below hb g none) (.inl rfl)); have n4_ := Aside0.mk (below_step (by repeat (first | (with_reducible first | exact HB.out | apply below_alloc | apply pw_below_drewN | apply below_drew1 | refine below_set ?_ (IsS176.ge HI0.out)) | exact HB.out)) hb); clear HO_5; clear HO109; clear HI0; clear HK; clear HB; have HO_5 := n0_; have HO109 := n1_; have HI0 := n2_; have HK := n3_; have HB := n4_; clear n0_ n1_ n2_ n3_ n4_; (try clear hb); (try clear hb2); (try clear hk); (try clear hi)) | ((with_reducible refine gate_builtin (b := .append) (xs := #[.tmp 58, .tmp 60]) rfl ?_); (try (refine gate_guard (by rfl) ?_; dsimp only)); at_builtin; refine Kd.R_append (Kd.int .u8) w.heap.size rfl (.tmp 58) (.tmp 60) 149 5 (.int .u8 0) 1 rfl Try.underlying149 info5 rfl (by decide) (by omega) u5 x5_2 (bt t101 (ji20)) [.int .u8 (bt t101 (ji20))] (fun k_ => some k_ ≠ (v108 : Value).ownBlock) (fun _ => False) rfl rfl ?aP (fun _ hk => hk.elim) ?aF ?aO (Below.refl _ _) ?aS ?aL ?_; (case aP => exact rfl); (case aF => exact (fun k_ hk => Kd.fresh' (Kd.R_lt (by (with_reducible repeat (first | apply Kd.R_alloc | apply Kd.R_drewN | apply Kd.R_drew)); exact HO109.out)) k_ hk)); (case aO => exact (by (with_reducible repeat (first | apply Kd.R_alloc | apply Kd.R_drewN | apply Kd.R_drew)); exact Kd.R_mono HO_5.out (fun _ hk => hk.2))); (case aS => exact (keep_size (w := w) (g := g) (row := none) (by repeat (first | (with_reducible first | exact HK.out | apply KeepBut.set_ | apply keep_drewN | apply keep_drew | apply keep_alloc) | exact HK.out)))); (case aL => have := LMc26.out; omega); intro v112 w31 ho hb hg hat; rw [← Ny111.out] at ho; have n0_ := Aside0.mk (IsS176.grown (by repeat (first | (with_reducible first | exact HI0.out | apply IsS176.alloc | apply IsS176.drewN | apply IsS176.drew | apply IsS176.set_0 | apply IsS176.set_1) | exact HI0.out)) hg (IsS176.own_ne HI0.out HO_5.out (by decide))); have n1_ := Aside0.mk (Kd.R_after (ok := (fun _ => True)) (by (with_reducible repeat (first | apply Kd.R_alloc | apply Kd.R_drewN | apply Kd.R_drew)); exact HO109.out) hg hat); have n2_ := Aside0.mk (below_weaken (by repeat (first | (with_reducible first | exact HB.out | apply below_alloc | apply pw_below_drewN | apply below_drew1 | refine below_set ?_ (IsS176.ge HI0.out)) | exact HB.out)) HL.out hb); have n3_ := Aside0.mk (KeepBut.trans (by repeat (first | (with_reducible first | exact HK.out | apply KeepBut.set_ | apply keep_drewN | apply keep_drew | apply keep_alloc) | exact HK.out)) (KeepBut.of_grown hg g) (Kd.R_base2 HO_5.out)); have n4_ := Aside0.mk (ho); clear HI0; clear HO109; clear HB; clear HK; clear HO_5; have HI0 := n0_; have HO109 := n1_; have HB := n2_; have HK := n3_; have HO113 := n4_; clear n0_ n1_ n2_ n3_ n4_; clear ho hb hg hat))
                                  go_roundg kj15
                                  case measure => have := HJ2.out; have := HK2.out; have := HJ15.out; omega
                                  case rel => exact ⟨(y111), (wrap64 ((ji20) + 1)), (x1000_2), (x1001_2), (by first | rfl | (simp; done) | (simp only [← hji20] <;> (first | rfl | simp)) | (simp [*]; done)), H', ⟨by have := HJ2.out; have := HK2.out; have := HJ15.out; omega⟩, ⟨by (with_reducible repeat (first | apply Kd.R_alloc | apply Kd.R_drewN | apply Kd.R_drew)); exact Kd.R_mono HO113.out (fun _ hk => trivial)⟩, ⟨by repeat (first | (with_reducible first | exact HI0.out | apply IsS176.alloc | apply IsS176.drewN | apply IsS176.drew | apply IsS176.set_0 | apply IsS176.set_1) | exact HI0.out)⟩, ⟨by repeat (first | (with_reducible first | exact HK.out | apply KeepBut.set_ | apply keep_drewN | apply keep_drew | apply keep_alloc) | exact HK.out)⟩, ⟨by repeat (first | (with_reducible first | exact HB.out | apply below_alloc | apply pw_below_drewN | apply below_drew1 | refine below_set ?_ (IsS176.ge HI0.out)) | exact HB.out)⟩⟩
                                · rw [if_neg c26] at H
                                  exact absurd H (by simp)
                              · replace c25 := Bool.eq_false_iff.mpr c25
                                subst c25
                                have H1 : (some ((⟨#[]⟩ : ByteArray), false, x1000_2, x1001_2)) = some (r1, r2, r3, r4) := by rw [if_neg (show ¬ (false = true) by decide)] at H; exact H
                                clear H
                                have H := H1
                                clear H1
                                simp only [Option.some.injEq, Prod.mk.injEq] at H
                                obtain ⟨rfl, rfl, rfl, rfl⟩ := H
                                have p23 : 0 ≤ ((ji20) : Int) := of_decide_eq_true (by first | (with_reducible assumption) | assumption)
                                have q23 : (ji20) < (t101.size : Int) := of_decide_eq_true (by first | (with_reducible assumption) | assumption)
                                have hx23 := bt_at t101 (ji20)
                                replace p23 := eq_true p23
                                replace q23 := eq_true q23
                                go_wp2_with (first | ((with_reducible refine gate_dst (N := 54) rfl ?_); (try (refine gate_guard (by rfl) ?_; dsimp only)); refine Kd.R_lit (Kd.int .u8) _ 5 ?hg (N := 54) ?hd (xs := ([bt t101 (ji20)] : List Int)) (inner := [.int .u8 (bt t101 (ji20))]) (ok := fun _ => True) (okp := fun _ => True) ?hr ?hp (fun _ hk => hk) trivial (Below.refl _ _) (Nat.le_refl _) (by simp) ?_; (case hd => rfl); (case hg => rfl); (case hr => first | (go_simp; done) | (go_simp; rfl)); (case hp => exact (Reps.one (show Kd.M (Kd.int .u8) _ _ _ (bt t101 (ji20)) [.int .u8 (bt t101 (ji20))] from rfl) (Reps.none _ _))); intro v108 w32 ho33 hb hg_ hnew_; clear hg_ hnew_; (first | rw [← Ny107.out] at ho33 | (simp only [Int.reduceToNat] at ho33; rw [← Ny107.out] at ho33)); have n0_ := Aside0.mk (Kd.R_elder' (by (with_reducible repeat (first | apply Kd.R_alloc | apply Kd.R_drewN | apply Kd.R_drew)); exact HO_5.out) (Kd.R_base ho33) hb); have n1_ := Aside0.mk (Kd.R_lower (Kd.R_new' ho33 (Kd.R_lt (by (with_reducible repeat (first | apply Kd.R_alloc | apply Kd.R_drewN | apply Kd.R_drew)); exact HO_5.out))) (keep_size (w := w) (g := g) (row := none) (by repeat (first | (with_reducible first | exact HK.out | apply KeepBut.set_ | apply keep_drewN | apply keep_drew | apply keep_alloc) | exact HK.out)))); have n2_ := Aside0.mk (IsS176.below (by repeat (first | (with_reducible first | exact HI0.out | apply IsS176.alloc | apply IsS176.drewN | apply IsS176.drew | apply IsS176.set_0 | apply IsS176.set_1) | exact HI0.out)) hb); have n3_ := Aside0.mk (KeepBut.trans (by repeat (first | (with_reducible first | exact HK.out | apply KeepBut.set_ | apply keep_drewN | apply keep_drew | apply keep_alloc) | exact HK.out)) (KeepBut.of_below hb g none) (.inl rfl)); have n4_ := Aside0.mk (below_step (by repeat (first | (with_reducible first | exact HB.out | apply below_alloc | apply pw_below_drewN | apply below_drew1 | refine below_set ?_ (IsS176.ge HI0.out)) | exact HB.out)) hb); clear HO_5; clear HI0; clear HK; clear HB; have HO_5 := n0_; have HO109 := n1_; have HI0 := n2_; have HK := n3_; have HB := n4_; clear n0_ n1_ n2_ n3_ n4_; clear hb ho33; have hcv34 := own_string (P := Try.prog) Try.underlying149 Try.underlying5 Try.underlying9 (Kd.own_of_R HO109.out)) | ((with_reducible refine gate_callee (f := 139) rfl ?_); refine goesL_ (some 56) rfl rfl Try.func139 (by kernel_rfl) rfl #[.string (strOfNums y107)] rfl (by (try simp only [List.map_toArray, List.map_cons, List.map_nil]); first | done | rfl | (simp only [List.length_drop, List.length_take]; rfl)) ?_; (with_reducible refine (octet_Value.calls (strOfNums y107) false _ A24.out).mono ?_); rintro e w35 ⟨rfl, hb⟩; refine ⟨_, rfl, ?_⟩; have n0_ := Aside0.mk (Kd.R_below (by (with_reducible repeat (first | apply Kd.R_alloc | apply Kd.R_drewN | apply Kd.R_drew)); exact HO_5.out) hb); have n1_ := Aside0.mk (Kd.R_below (by (with_reducible repeat (first | apply Kd.R_alloc | apply Kd.R_drewN | apply Kd.R_drew)); exact HO109.out) hb); have n2_ := Aside0.mk (IsS176.below (by repeat (first | (with_reducible first | exact HI0.out | apply IsS176.alloc | apply IsS176.drewN | apply IsS176.drew | apply IsS176.set_0 | apply IsS176.set_1) | exact HI0.out)) hb); have n3_ := Aside0.mk (KeepBut.trans (by repeat (first | (with_reducible first | exact HK.out | apply KeepBut.set_ | apply keep_drewN | apply keep_drew | apply keep_alloc) | exact HK.out)) (KeepBut.of_below hb g none) (.inl rfl)); have n4_ := Aside0.mk (below_step (by repeat (first | (with_reducible first | exact HB.out | apply below_alloc | apply pw_below_drewN | apply below_drew1 | refine below_set ?_ (IsS176.ge HI0.out)) | exact HB.out)) hb); clear HO_5; clear HO109; clear HI0; clear HK; clear HB; have HO_5 := n0_; have HO109 := n1_; have HI0 := n2_; have HK := n3_; have HB := n4_; clear n0_ n1_ n2_ n3_ n4_; (try clear hb); (try clear hb2); (try clear hk); (try clear hi)))
                                go_ret2
                                exact ⟨by first | rfl | (simp [errW_none, errW_some] <;> rfl) | (simp only [← hji20]; first | rfl | (simp [errW_none, errW_some] <;> rfl)) | (simp [*, errW_none, errW_some] <;> rfl), by repeat (first | (with_reducible first | exact HI0.out | apply IsS176.alloc | apply IsS176.drewN | apply IsS176.drew | apply IsS176.set_0 | apply IsS176.set_1) | exact HI0.out), by repeat (first | (with_reducible first | exact HB.out | apply below_alloc | apply pw_below_drewN | apply below_drew1 | refine below_set ?_ (IsS176.ge HI0.out)) | exact HB.out), by repeat (first | (with_reducible first | exact HK.out | apply KeepBut.set_ | apply keep_drewN | apply keep_drew | apply keep_alloc) | exact HK.out)⟩
                            · rw [if_neg c22] at H
                              exact absurd H (by simp)
                          · rw [if_neg c21] at H
                            exact absurd H (by simp)
                        · rw [if_neg c19] at H
                          have c19b0 : ((bt t101 x6_2) == 92) = false := beq_eq_false_iff_ne.mpr c19
                          have c19b1 : ((bt t101 x6_2) != 92) = true := bne_iff_ne.mpr c19
                          obtain ⟨y114, hy114⟩ : ∃ y_ : List Int, y_ = (([(bt t101 x6_2)] : List Int)) := ⟨_, rfl⟩
                          replace H : ((octet_Value.f (strOfNums y114)).bind fun t117 => (if t117 = true then (if x5_2.length < 140737488355328 then (cursor_Cursor_Quoted.l0 kj15 t101 (x5_2 ++ [(bt t101 x6_2)]) (wrap64 (x6_2 + 1)) x1000_2 x1001_2) else (none)) else (some ((⟨#[]⟩ : ByteArray), false, x1000_2, x1001_2)))) = some (r1, r2, r3, r4) := by first | (rw [hy114]; with_reducible exact H) | (have H2_ := (Option.bind_some _ _).symm.trans H; rw [hy114]; with_reducible exact H2_) | (have H2_ := (Option.bind_some _ _).symm.trans H; with_reducible exact H2_) | with_reducible exact H | (rw [hy114]; exact H) | exact H
                          have Ny114 := Aside0.mk hy114
                          clear hy114
                          replace H := Option.bind_eq_some_iff.mp H
                          obtain ⟨t117, A360, H⟩ := H
                          (try dsimp only at H)
                          have A36 := Aside0.mk A360
                          clear A360
                          by_cases c37 : t117 = true
                          · subst c37
                            have H1 : (if x5_2.length < 140737488355328 then (cursor_Cursor_Quoted.l0 kj15 t101 (x5_2 ++ [(bt t101 x6_2)]) (wrap64 (x6_2 + 1)) x1000_2 x1001_2) else (none)) = some (r1, r2, r3, r4) := by rw [if_pos rfl] at H; exact H
                            clear H
                            have H := H1
                            clear H1
                            by_cases c38 : x5_2.length < 140737488355328
                            · rw [if_pos c38] at H
                              have LMc38 := Aside0.mk c38
                              clear c38
                              obtain ⟨y118, hy118⟩ : ∃ y_ : List Int, y_ = (x5_2 ++ [(bt t101 x6_2)]) := ⟨_, rfl⟩
                              replace H : (cursor_Cursor_Quoted.l0 kj15 t101 y118 (wrap64 (x6_2 + 1)) x1000_2 x1001_2) = some (r1, r2, r3, r4) := by first | (rw [hy118]; with_reducible exact H) | (have H2_ := (Option.bind_some _ _).symm.trans H; rw [hy118]; with_reducible exact H2_) | (have H2_ := (Option.bind_some _ _).symm.trans H; with_reducible exact H2_) | with_reducible exact H | (rw [hy118]; exact H) | exact H
                              have Ny118 := Aside0.mk hy118
                              clear hy118
                              have H' := Aside0.mk H
                              clear H
                              go_wp2_with (first | ((with_reducible refine gate_dst (N := 54) rfl ?_); (try (refine gate_guard (by rfl) ?_; dsimp only)); refine Kd.R_lit (Kd.int .u8) _ 5 ?hg (N := 54) ?hd (xs := ([(bt t101 x6_2)] : List Int)) (inner := [.int .u8 (bt t101 x6_2)]) (ok := fun _ => True) (okp := fun _ => True) ?hr ?hp (fun _ hk => hk) trivial (Below.refl _ _) (Nat.le_refl _) (by simp) ?_; (case hd => rfl); (case hg => rfl); (case hr => first | (go_simp; done) | (go_simp; rfl)); (case hp => exact (Reps.one (show Kd.M (Kd.int .u8) _ _ _ (bt t101 x6_2) [.int .u8 (bt t101 x6_2)] from rfl) (Reps.none _ _))); intro v115 w39 ho40 hb hg_ hnew_; clear hg_ hnew_; (first | rw [← Ny114.out] at ho40 | (simp only [Int.reduceToNat] at ho40; rw [← Ny114.out] at ho40)); have n0_ := Aside0.mk (Kd.R_elder' (by (with_reducible repeat (first | apply Kd.R_alloc | apply Kd.R_drewN | apply Kd.R_drew)); exact HO_5.out) (Kd.R_base ho40) hb); have n1_ := Aside0.mk (Kd.R_lower (Kd.R_new' ho40 (Kd.R_lt (by (with_reducible repeat (first | apply Kd.R_alloc | apply Kd.R_drewN | apply Kd.R_drew)); exact HO_5.out))) (keep_size (w := w) (g := g) (row := none) (by repeat (first | (with_reducible first | exact HK.out | apply KeepBut.set_ | apply keep_drewN | apply keep_drew | apply keep_alloc) | exact HK.out)))); have n2_ := Aside0.mk (IsS176.below (by repeat (first | (with_reducible first | exact HI0.out | apply IsS176.alloc | apply IsS176.drewN | apply IsS176.drew | apply IsS176.set_0 | apply IsS176.set_1) | exact HI0.out)) hb); have n3_ := Aside0.mk (KeepBut.trans (by repeat (first | (with_reducible first | exact HK.out | apply KeepBut.set_ | apply keep_drewN | apply keep_drew | apply keep_alloc) | exact HK.out)) (KeepBut.of_below hb g none) (.inl rfl)); have n4_ := Aside0.mk (below_step (by repeat (first | (with_reducible first | exact HB.out | apply below_alloc | apply pw_below_drewN | apply below_drew1 | refine below_set ?_ (IsS176.ge HI0.out)) | exact HB.out)) hb); clear HO_5; clear HI0; clear HK; clear HB; have HO_5 := n0_; have HO116 := n1_; have HI0 := n2_; have HK := n3_; have HB := n4_; clear n0_ n1_ n2_ n3_ n4_; clear hb ho40; have hcv41 := own_string (P := Try.prog) Try.underlying149 Try.underlying5 Try.underlying9 (Kd.own_of_R HO116.out)) | ((with_reducible refine gate_callee (f := 139) rfl ?_); refine goesL_ (some 56) rfl rfl Try.func139 (by kernel_rfl) rfl #[.string (strOfNums y114)] rfl (by (try simp only [List.map_toArray, List.map_cons, List.map_nil]); first | done | rfl | (simp only [List.length_drop, List.length_take]; rfl)) ?_; (with_reducible refine (octet_Value.calls (strOfNums y114) true _ A36.out).mono ?_); rintro e w42 ⟨rfl, hb⟩; refine ⟨_, rfl, ?_⟩; have n0_ := Aside0.mk (Kd.R_below (by (with_reducible repeat (first | apply Kd.R_alloc | apply Kd.R_drewN | apply Kd.R_drew)); exact HO_5.out) hb); have n1_ := Aside0.mk (Kd.R_below (by (with_reducible repeat (first | apply Kd.R_alloc | apply Kd.R_drewN | apply Kd.R_drew)); exact HO116.out) hb); have n2_ := Aside0.mk (IsS176.below (by repeat (first | (with_reducible first | exact HI0.out | apply IsS176.alloc | apply IsS176.drewN | apply IsS176.drew | apply IsS176.set_0 | apply IsS176.set_1) | exact HI0.out)) hb); have n3_ := Aside0.mk (KeepBut.trans (by repeat (first | (with_reducible first | exact HK.out | apply KeepBut.set_ | apply keep_drewN | apply keep_drew | apply keep_alloc) | exact HK.out)) (KeepBut.of_below hb g none) (.inl rfl)); have n4_ := Aside0.mk (below_step (by repeat (first | (with_reducible first | exact HB.out | apply below_alloc | apply pw_below_drewN | apply below_drew1 | refine below_set ?_ (IsS176.ge HI0.out)) | exact HB.out)) hb); clear HO_5; clear HO116; clear HI0; clear HK; clear HB; have HO_5 := n0_; have HO116 := n1_; have HI0 := n2_; have HK := n3_; have HB := n4_; clear n0_ n1_ n2_ n3_ n4_; (try clear hb); (try clear hb2); (try clear hk); (try clear hi)) | ((with_reducible refine gate_builtin (b := .append) (xs := #[.tmp 58, .tmp 60]) rfl ?_); (try (refine gate_guard (by rfl) ?_; dsimp only)); at_builtin; refine Kd.R_append (Kd.int .u8) w.heap.size rfl (.tmp 58) (.tmp 60) 149 5 (.int .u8 0) 1 rfl Try.underlying149 info5 rfl (by decide) (by omega) u5 x5_2 (bt t101 x6_2) [.int .u8 (bt t101 x6_2)] (fun k_ => some k_ ≠ (v115 : Value).ownBlock) (fun _ => False) rfl rfl ?aP (fun _ hk => hk.elim) ?aF ?aO (Below.refl _ _) ?aS ?aL ?_; (case aP => exact rfl); (case aF => exact (fun k_ hk => Kd.fresh' (Kd.R_lt (by (with_reducible repeat (first | apply Kd.R_alloc | apply Kd.R_drewN | apply Kd.R_drew)); exact HO116.out)) k_ hk)); (case aO => exact (by (with_reducible repeat (first | apply Kd.R_alloc | apply Kd.R_drewN | apply Kd.R_drew)); exact Kd.R_mono HO_5.out (fun _ hk => hk.2))); (case aS => exact (keep_size (w := w) (g := g) (row := none) (by repeat (first | (with_reducible first | exact HK.out | apply KeepBut.set_ | apply keep_drewN | apply keep_drew | apply keep_alloc) | exact HK.out)))); (case aL => have := LMc38.out; omega); intro v119 w43 ho hb hg hat; rw [← Ny118.out] at ho; have n0_ := Aside0.mk (IsS176.grown (by repeat (first | (with_reducible first | exact HI0.out | apply IsS176.alloc | apply IsS176.drewN | apply IsS176.drew | apply IsS176.set_0 | apply IsS176.set_1) | exact HI0.out)) hg (IsS176.own_ne HI0.out HO_5.out (by decide))); have n1_ := Aside0.mk (Kd.R_after (ok := (fun _ => True)) (by (with_reducible repeat (first | apply Kd.R_alloc | apply Kd.R_drewN | apply Kd.R_drew)); exact HO116.out) hg hat); have n2_ := Aside0.mk (below_weaken (by repeat (first | (with_reducible first | exact HB.out | apply below_alloc | apply pw_below_drewN | apply below_drew1 | refine below_set ?_ (IsS176.ge HI0.out)) | exact HB.out)) HL.out hb); have n3_ := Aside0.mk (KeepBut.trans (by repeat (first | (with_reducible first | exact HK.out | apply KeepBut.set_ | apply keep_drewN | apply keep_drew | apply keep_alloc) | exact HK.out)) (KeepBut.of_grown hg g) (Kd.R_base2 HO_5.out)); have n4_ := Aside0.mk (ho); clear HI0; clear HO116; clear HB; clear HK; clear HO_5; have HI0 := n0_; have HO116 := n1_; have HB := n2_; have HK := n3_; have HO120 := n4_; clear n0_ n1_ n2_ n3_ n4_; clear ho hb hg hat))
                              go_roundg kj15
                              case measure => have := HJ2.out; have := HK2.out; have := HJ15.out; omega
                              case rel => exact ⟨(y118), (wrap64 (x6_2 + 1)), (x1000_2), (x1001_2), (by first | rfl | (simp; done) | (simp [*]; done)), H', ⟨by have := HJ2.out; have := HK2.out; have := HJ15.out; omega⟩, ⟨by (with_reducible repeat (first | apply Kd.R_alloc | apply Kd.R_drewN | apply Kd.R_drew)); exact Kd.R_mono HO120.out (fun _ hk => trivial)⟩, ⟨by repeat (first | (with_reducible first | exact HI0.out | apply IsS176.alloc | apply IsS176.drewN | apply IsS176.drew | apply IsS176.set_0 | apply IsS176.set_1) | exact HI0.out)⟩, ⟨by repeat (first | (with_reducible first | exact HK.out | apply KeepBut.set_ | apply keep_drewN | apply keep_drew | apply keep_alloc) | exact HK.out)⟩, ⟨by repeat (first | (with_reducible first | exact HB.out | apply below_alloc | apply pw_below_drewN | apply below_drew1 | refine below_set ?_ (IsS176.ge HI0.out)) | exact HB.out)⟩⟩
                            · rw [if_neg c38] at H
                              exact absurd H (by simp)
                          · replace c37 := Bool.eq_false_iff.mpr c37
                            subst c37
                            have H1 : (some ((⟨#[]⟩ : ByteArray), false, x1000_2, x1001_2)) = some (r1, r2, r3, r4) := by rw [if_neg (show ¬ (false = true) by decide)] at H; exact H
                            clear H
                            have H := H1
                            clear H1
                            simp only [Option.some.injEq, Prod.mk.injEq] at H
                            obtain ⟨rfl, rfl, rfl, rfl⟩ := H
                            go_wp2_with (first | ((with_reducible refine gate_dst (N := 54) rfl ?_); (try (refine gate_guard (by rfl) ?_; dsimp only)); refine Kd.R_lit (Kd.int .u8) _ 5 ?hg (N := 54) ?hd (xs := ([(bt t101 x6_2)] : List Int)) (inner := [.int .u8 (bt t101 x6_2)]) (ok := fun _ => True) (okp := fun _ => True) ?hr ?hp (fun _ hk => hk) trivial (Below.refl _ _) (Nat.le_refl _) (by simp) ?_; (case hd => rfl); (case hg => rfl); (case hr => first | (go_simp; done) | (go_simp; rfl)); (case hp => exact (Reps.one (show Kd.M (Kd.int .u8) _ _ _ (bt t101 x6_2) [.int .u8 (bt t101 x6_2)] from rfl) (Reps.none _ _))); intro v115 w44 ho45 hb hg_ hnew_; clear hg_ hnew_; (first | rw [← Ny114.out] at ho45 | (simp only [Int.reduceToNat] at ho45; rw [← Ny114.out] at ho45)); have n0_ := Aside0.mk (Kd.R_elder' (by (with_reducible repeat (first | apply Kd.R_alloc | apply Kd.R_drewN | apply Kd.R_drew)); exact HO_5.out) (Kd.R_base ho45) hb); have n1_ := Aside0.mk (Kd.R_lower (Kd.R_new' ho45 (Kd.R_lt (by (with_reducible repeat (first | apply Kd.R_alloc | apply Kd.R_drewN | apply Kd.R_drew)); exact HO_5.out))) (keep_size (w := w) (g := g) (row := none) (by repeat (first | (with_reducible first | exact HK.out | apply KeepBut.set_ | apply keep_drewN | apply keep_drew | apply keep_alloc) | exact HK.out)))); have n2_ := Aside0.mk (IsS176.below (by repeat (first | (with_reducible first | exact HI0.out | apply IsS176.alloc | apply IsS176.drewN | apply IsS176.drew | apply IsS176.set_0 | apply IsS176.set_1) | exact HI0.out)) hb); have n3_ := Aside0.mk (KeepBut.trans (by repeat (first | (with_reducible first | exact HK.out | apply KeepBut.set_ | apply keep_drewN | apply keep_drew | apply keep_alloc) | exact HK.out)) (KeepBut.of_below hb g none) (.inl rfl)); have n4_ := Aside0.mk (below_step (by repeat (first | (with_reducible first | exact HB.out | apply below_alloc | apply pw_below_drewN | apply below_drew1 | refine below_set ?_ (IsS176.ge HI0.out)) | exact HB.out)) hb); clear HO_5; clear HI0; clear HK; clear HB; have HO_5 := n0_; have HO116 := n1_; have HI0 := n2_; have HK := n3_; have HB := n4_; clear n0_ n1_ n2_ n3_ n4_; clear hb ho45; have hcv46 := own_string (P := Try.prog) Try.underlying149 Try.underlying5 Try.underlying9 (Kd.own_of_R HO116.out)) | ((with_reducible refine gate_callee (f := 139) rfl ?_); refine goesL_ (some 56) rfl rfl Try.func139 (by kernel_rfl) rfl #[.string (strOfNums y114)] rfl (by (try simp only [List.map_toArray, List.map_cons, List.map_nil]); first | done | rfl | (simp only [List.length_drop, List.length_take]; rfl)) ?_; (with_reducible refine (octet_Value.calls (strOfNums y114) false _ A36.out).mono ?_); rintro e w47 ⟨rfl, hb⟩; refine ⟨_, rfl, ?_⟩; have n0_ := Aside0.mk (Kd.R_below (by (with_reducible repeat (first | apply Kd.R_alloc | apply Kd.R_drewN | apply Kd.R_drew)); exact HO_5.out) hb); have n1_ := Aside0.mk (Kd.R_below (by (with_reducible repeat (first | apply Kd.R_alloc | apply Kd.R_drewN | apply Kd.R_drew)); exact HO116.out) hb); have n2_ := Aside0.mk (IsS176.below (by repeat (first | (with_reducible first | exact HI0.out | apply IsS176.alloc | apply IsS176.drewN | apply IsS176.drew | apply IsS176.set_0 | apply IsS176.set_1) | exact HI0.out)) hb); have n3_ := Aside0.mk (KeepBut.trans (by repeat (first | (with_reducible first | exact HK.out | apply KeepBut.set_ | apply keep_drewN | apply keep_drew | apply keep_alloc) | exact HK.out)) (KeepBut.of_below hb g none) (.inl rfl)); have n4_ := Aside0.mk (below_step (by repeat (first | (with_reducible first | exact HB.out | apply below_alloc | apply pw_below_drewN | apply below_drew1 | refine below_set ?_ (IsS176.ge HI0.out)) | exact HB.out)) hb); clear HO_5; clear HO116; clear HI0; clear HK; clear HB; have HO_5 := n0_; have HO116 := n1_; have HI0 := n2_; have HK := n3_; have HB := n4_; clear n0_ n1_ n2_ n3_ n4_; (try clear hb); (try clear hb2); (try clear hk); (try clear hi)))
                            go_ret2
                            exact ⟨by first | rfl | (simp [errW_none, errW_some] <;> rfl) | (simp [*, errW_none, errW_some] <;> rfl), by repeat (first | (with_reducible first | exact HI0.out | apply IsS176.alloc | apply IsS176.drewN | apply IsS176.drew | apply IsS176.set_0 | apply IsS176.set_1) | exact HI0.out), by repeat (first | (with_reducible first | exact HB.out | apply below_alloc | apply pw_below_drewN | apply below_drew1 | refine below_set ?_ (IsS176.ge HI0.out)) | exact HB.out), by repeat (first | (with_reducible first | exact HK.out | apply KeepBut.set_ | apply keep_drewN | apply keep_drew | apply keep_alloc) | exact HK.out)⟩
              · rw [if_neg c10] at H
                exact absurd H (by simp)
            · rw [if_neg c9] at H
              have c9b0 : decide (x6_2 < (t101.size : Int)) = false := decide_eq_false c9
              clear c9
              simp only [Option.some.injEq, Prod.mk.injEq] at H
              obtain ⟨rfl, rfl, rfl, rfl⟩ := H
              go_wp2
              go_ret2
              exact ⟨by first | rfl | (simp [errW_none, errW_some] <;> rfl) | (simp [*, errW_none, errW_some] <;> rfl), by repeat (first | (with_reducible first | exact HI0.out | apply IsS176.alloc | apply IsS176.drewN | apply IsS176.drew | apply IsS176.set_0 | apply IsS176.set_1) | exact HI0.out), by repeat (first | (with_reducible first | exact HB.out | apply below_alloc | apply pw_below_drewN | apply below_drew1 | refine below_set ?_ (IsS176.ge HI0.out)) | exact HB.out), by repeat (first | (with_reducible first | exact HK.out | apply KeepBut.set_ | apply keep_drewN | apply keep_drew | apply keep_alloc) | exact HK.out)⟩
end Go.Proofs.Ytjnhghplfdiijaa.Q

namespace Go.Proofs.Ytjnhghplfdiijaa.Q
open Go.RowKit Go.Proofs.YtjnhghplfdiijaaW.PrintWords Go.Proofs.YtjnhghplfdiijaaW.PrintLast Go.Proofs.YtjnhghplfdiijaaW.PrintMore
set_option linter.unusedVariables false
set_option linter.unusedSimpArgs false
/-- What stands up to the closing quotation mark, without its backslashes; and what comes behind. -/
def qL : List UInt8 → List UInt8 → Option (List UInt8 × List UInt8)
  | [], _ => none
  | [c], acc => if c = 34 then some (acc, []) else none
  | c :: d :: r, acc => if c = 34 then some (acc, d :: r) else if c = 92 then (if valC d = true then qL r (acc ++ [d]) else none) else if valC c = true then qL (d :: r) (acc ++ [c]) else none
def quotedL : List UInt8 → Option (List UInt8 × List UInt8)
  | [] => none
  | c :: r => if c = 34 then qL r [] else none
theorem qL_length : ∀ (n : Nat) (l acc : List UInt8), l.length ≤ n → ∀ v r, qL l acc = some (v, r) → r.length < l.length ∧ v.length ≤ acc.length + l.length
  | _, [], _, _, v, r, h => by simp [qL] at h
  | _, [c], acc, _, v, r, h => by
    unfold qL at h
    split at h
    · simp only [Option.some.injEq, Prod.mk.injEq] at h
      obtain ⟨rfl, rfl⟩ := h
      simp
    · cases h
  | n + 1, c :: d :: l, acc, hn, v, r, h => by
    unfold qL at h
    split at h
    · simp only [Option.some.injEq, Prod.mk.injEq] at h
      obtain ⟨rfl, rfl⟩ := h
      simp
    · split at h
      · split at h
        · have := qL_length n l _ (by simp at hn; omega) v r h
          simp at this ⊢; omega
        · cases h
      · split at h
        · have := qL_length n (d :: l) _ (by simp at hn ⊢; omega) v r h
          simp at this ⊢; omega
        · cases h
  | 0, c :: d :: l, acc, hn, v, r, h => by simp at hn
theorem quotedL_length {l v r : List UInt8} (h : quotedL l = some (v, r)) : r.length < l.length ∧ v.length ≤ l.length := by
  cases l with
  | nil => simp [quotedL] at h
  | cons c l =>
    simp only [quotedL] at h
    by_cases e : c = 34
    · rw [if_pos e] at h
      have := qL_length l.length l [] (Nat.le_refl _) v r h
      simp at this ⊢; omega
    · rw [if_neg e] at h; cases h
theorem cut1 {s : ByteArray} {i : Nat} {c : UInt8} {r : List UInt8} (h : (tl s).drop i = c :: r) : s.extract i (i + 1) = ofl [c] := by
  apply tl_inj
  rw [tl_extract, tl_ofl, h, show i + 1 - i = 1 by omega]
  rfl
theorem ev_val1 (c : UInt8) : Ev (fun k => abutmentref01_Value.f k (ofl [c])) (valC c) := by
  have h := ev_value (ofl [c]) (by rw [ofl_size]; simp)
  rw [all8_tl, tl_ofl] at h
  simpa [valC] using h
theorem add1 {i n : Nat} (h : i + 1 < n) (hn : n ≤ 9223372036854775807) : wrap64 (((i + 1 : Nat) : Int) + 1) = ((i + 2 : Nat) : Int) := wrap_succ h hn
/-- The reference's answer: the text, and how much was taken (0: it is none). -/
def quotedR (s : ByteArray) : ByteArray × Int := match quotedL (tl s) with | some (v, r) => (ofl v, ((s.size - r.length : Nat) : Int)) | none => (⟨#[]⟩, 0)
def qR (s : ByteArray) (l : List UInt8) (acc : ByteArray) : ByteArray × Int := match qL l (tl acc) with | some (v, r) => (ofl v, ((s.size - r.length : Nat) : Int)) | none => (⟨#[]⟩, 0)
theorem u34 (c : UInt8) : (c.toNat : Int) = 34 ↔ c = 34 := u8_int (c := c) (n := 34) (by omega)
theorem u92 (c : UInt8) : (c.toNat : Int) = 92 ↔ c = 92 := u8_int (c := c) (n := 92) (by omega)
theorem quoted_end (s : ByteArray) (hs : s.size ≤ 1000000000) (i : Nat) (acc : ByteArray) (h : (tl s).drop i = []) : Ev (fun k => abutmentref04_Quoted.l0 k s acc (i : Int)) (⟨#[]⟩, 0) := by
  have h1 := at_nil h
  exact Ev.step (f := fun _ => some (⟨#[]⟩, 0)) (fun k => by simp only [abutmentref04_Quoted.l0]; rw [if_neg (by omega)]) (Ev.now _)
theorem quoted_loop (s : ByteArray) (hs : s.size ≤ 1000000000) : ∀ (n : Nat) (r : List UInt8) (i : Nat) (acc : ByteArray), r.length ≤ n → (tl s).drop i = r → acc.size ≤ i → Ev (fun k => abutmentref04_Quoted.l0 k s acc (i : Int)) (qR s r acc)
  | n, [], i, acc, hn, h, ha => by
    unfold qR qL
    exact quoted_end s hs i acc h
  | 0, c :: r, i, acc, hn, h, ha => by simp at hn
  | n + 1, c :: r, i, acc, hn, h, ha => by
    obtain ⟨h1, h2, h3, _⟩ := at_cons h
    have hw := Aside0.mk (wrap_succ h1 (show s.size ≤ 9223372036854775807 by omega))
    have hsz : s.size - r.length = i + 1 := by
      have := congrArg List.length h3
      rw [List.length_drop, tl_length] at this
      omega
    by_cases e1 : c = 34
    · have e : qR s (c :: r) acc = (acc, ((i + 1 : Nat) : Int)) := by
        unfold qR
        cases r with
        | nil => simp only [qL]; rw [if_pos e1]; simp only [ofl_tl]; rw [hsz]
        | cons d r => simp only [qL]; rw [if_pos e1]; simp only [ofl_tl]; rw [hsz]
      rw [e]
      refine Ev.step (f := fun _ => some (acc, ((i + 1 : Nat) : Int))) (fun k => ?_) (Ev.now _)
      simp only [abutmentref04_Quoted.l0]
      rw [if_pos (by omega), if_pos (by omega), h2, if_pos ((u34 c).2 e1), hw.out]
    by_cases e2 : c = 92
    · cases r with
      | nil =>
        have e : qR s [c] acc = (⟨#[]⟩, 0) := by unfold qR; simp only [qL]; rw [if_neg e1]
        rw [e]
        refine Ev.step (f := fun _ => some (⟨#[]⟩, 0)) (fun k => ?_) (Ev.now _)
        simp only [abutmentref04_Quoted.l0]
        simp only [List.length_nil] at hsz
        rw [if_pos (by omega), if_pos (by omega), h2, if_neg (by rw [u34]; exact e1), if_pos ((u92 c).2 e2), hw.out, if_pos (by omega)]
      | cons d r =>
        obtain ⟨g1, g2, g3, _⟩ := at_cons h3
        have hw2 := Aside0.mk (add1 g1 (show s.size ≤ 9223372036854775807 by omega))
        have hc := cut1 h3
        have e : qR s (c :: d :: r) acc = if valC d = true then qR s r (acc ++ ofl [d]) else (⟨#[]⟩, 0) := by
          unfold qR
          simp only [qL]
          rw [if_neg e1, if_pos e2, tl_append, tl_ofl]
          by_cases hv : valC d = true
          · rw [if_pos hv, if_pos hv]
          · rw [if_neg hv, if_neg hv]
        rw [e]
        refine Ev.step (f := fun k => (abutmentref01_Value.f k (ofl [d])).bind fun t => if t = true then abutmentref04_Quoted.l0 k s (acc ++ ofl [d]) ((i + 2 : Nat) : Int) else some (⟨#[]⟩, 0)) (fun k => ?_) ?_
        · simp only [abutmentref04_Quoted.l0]
          rw [if_pos (by omega), if_pos (by omega), h2, if_neg (by rw [u34]; exact e1), if_pos ((u92 c).2 e2), hw.out, if_neg (by omega), if_pos (by omega), hw2.out, if_pos (by omega), if_pos (by omega), Int.toNat_natCast, Int.toNat_natCast, hc]
          rw [if_pos (show acc.size + (ofl _).size ≤ 9223372036854775807 by rw [ofl_size, List.length_singleton]; omega)]
        · refine Ev.bind (ev_val1 d) ?_
          cases hv : valC d with
          | true =>
            simp only [if_true]
            exact quoted_loop s hs n r (i + 2) _ (by simp at hn; omega) g3 (by rw [ByteArray.size_append, ofl_size, List.length_singleton]; omega)
          | false => exact Ev.now _
    · have hc := cut1 h
      have e : qR s (c :: r) acc = if valC c = true then qR s r (acc ++ ofl [c]) else (⟨#[]⟩, 0) := by
        unfold qR
        cases r with
        | nil =>
          simp only [qL]
          rw [if_neg e1]
          by_cases hv : valC c = true
          · rw [if_pos hv]
          · rw [if_neg hv]
        | cons d r =>
          simp only [qL]
          rw [if_neg e1, if_neg e2, tl_append, tl_ofl]
          by_cases hv : valC c = true
          · rw [if_pos hv, if_pos hv]
          · rw [if_neg hv, if_neg hv]
      rw [e]
      refine Ev.step (f := fun k => (abutmentref01_Value.f k (ofl [c])).bind fun t => if t = true then abutmentref04_Quoted.l0 k s (acc ++ ofl [c]) ((i + 1 : Nat) : Int) else some (⟨#[]⟩, 0)) (fun k => ?_) ?_
      · simp only [abutmentref04_Quoted.l0]
        rw [if_pos (by omega), if_pos (by omega), h2, if_neg (by rw [u34]; exact e1), if_neg (by rw [u92]; exact e2), if_neg (by omega), hw.out, if_pos (by omega), if_pos (by omega), Int.toNat_natCast, Int.toNat_natCast, hc]
        rw [if_pos (show acc.size + (ofl _).size ≤ 9223372036854775807 by rw [ofl_size, List.length_singleton]; omega)]
      · refine Ev.bind (ev_val1 c) ?_
        cases hv : valC c with
        | true =>
          simp only [if_true]
          exact quoted_loop s hs n r (i + 1) _ (by simp at hn; omega) h3 (by rw [ByteArray.size_append, ofl_size, List.length_singleton]; omega)
        | false => exact Ev.now _
theorem ev_quoted (s : ByteArray) (hs : s.size ≤ 1000000000) : Ev (fun k => abutmentref04_Quoted.f k s) (quotedR s) := by
  cases h : tl s with
  | nil =>
    have hz : s.size = 0 := by rw [← tl_length, h]; rfl
    have e : quotedR s = (⟨#[]⟩, 0) := by unfold quotedR; rw [h]; rfl
    rw [e]
    refine Ev.congr (f := fun k => abutmentref04_Quoted.j0 k s true) (fun k => by unfold abutmentref04_Quoted.f; rw [if_pos (by omega)]) ?_
    exact Ev.step (f := fun _ => some (⟨#[]⟩, 0)) (fun k => by simp only [abutmentref04_Quoted.j0]; rw [if_pos trivial]) (Ev.now _)
  | cons c r =>
    obtain ⟨h1, h2, h3, _⟩ := at_cons (s := s) (i := 0) (c := c) (r := r) h
    have h2 : bt s 0 = (c.toNat : Int) := h2
    have e : quotedR s = if c = 34 then qR s r ⟨#[]⟩ else (⟨#[]⟩, 0) := by
      unfold quotedR qR
      rw [h]
      simp only [quotedL]
      by_cases e1 : c = 34
      · rw [if_pos e1, if_pos e1]; rfl
      · rw [if_neg e1, if_neg e1]
    rw [e]
    refine Ev.congr (f := fun k => abutmentref04_Quoted.j0 k s ((c.toNat : Int) != 34)) (fun k => by unfold abutmentref04_Quoted.f; rw [if_neg (by omega), if_pos (by omega), h2]) ?_
    by_cases e1 : c = 34
    · rw [if_pos e1]
      refine Ev.step (f := fun k => abutmentref04_Quoted.l0 k s ⟨#[]⟩ 1) (fun k => by simp only [abutmentref04_Quoted.j0]; rw [if_neg (by simp [(u34 c).2 e1])]) ?_
      exact quoted_loop s hs r.length r 1 ⟨#[]⟩ (Nat.le_refl _) h3 (by decide)
    · rw [if_neg e1]
      exact Ev.step (f := fun _ => some (⟨#[]⟩, 0)) (fun k => by simp only [abutmentref04_Quoted.j0]; rw [if_pos (by simp only [bne_iff_ne, ne_eq, u34]; exact e1)]) (Ev.now _)
end Go.Proofs.Ytjnhghplfdiijaa.Q

namespace Go.Proofs.Ytjnhghplfdiijaa.Q
open Go.RowKit Go.Proofs.YtjnhghplfdiijaaW.PrintWords Go.Proofs.YtjnhghplfdiijaaW.PrintLast Go.Proofs.YtjnhghplfdiijaaW.PrintMore Go.Lib Go.Shelf
set_option linter.unusedVariables false
set_option linter.unusedSimpArgs false
theorem rTok_any (s : ByteArray) (hs : s.size ≤ 1000000000) (W : World) : Calls Try.prog 124 #[.string s] W fun e w' => e = .returned (.int .i64 (spanN tcharI s : Nat)) ∧ Below W.heap.size W w' := by
  obtain ⟨K, hK⟩ := ev_tok s (by omega)
  exact (abutmentref04_Token.calls K s _ W (hK K (Nat.le_refl _))).mono fun e w' ⟨h1, h2⟩ => ⟨h1, h2.below⟩
theorem rLower_any (s : ByteArray) (hs : s.size ≤ 1000000000) (W : World) : Calls Try.prog 83 #[.string s] W fun e w' => e = .returned (.string (lowerS s)) ∧ Below W.heap.size W w' := by
  obtain ⟨K, hK⟩ := ev_lower s hs
  exact abutmentref01_Lower.calls K s _ W (hK K (Nat.le_refl _))
theorem rQuoted_any (s : ByteArray) (hs : s.size ≤ 1000000000) (W : World) : Calls Try.prog 138 #[.string s] W fun e w' => e = .returned (.tuple #[.string (quotedR s).1, .int .i64 (quotedR s).2]) ∧ Below W.heap.size W w' := by
  obtain ⟨K, hK⟩ := ev_quoted s hs
  exact (abutmentref04_Quoted.calls K s (quotedR s).1 (quotedR s).2 W (hK K (Nat.le_refl _))).mono fun e w' ⟨h1, h2⟩ => ⟨h1, h2.below⟩
theorem quotedR_range (s : ByteArray) : 0 ≤ (quotedR s).2 ∧ (quotedR s).2 ≤ s.size := by
  unfold quotedR
  split <;> simp <;> omega
theorem put3 {w : World} {g t : Nat} {a0 b0 c0 : Value} (h : w.heap[g]? = some (.cells #[a0, b0, c0] t (0, 0))) (a b c : Value) : (((w.setCell ⟨g, 0, none⟩ a).setCell ⟨g, 1, none⟩ b).setCell ⟨g, 2, none⟩ c).heap[g]? = some (.cells #[a, b, c] t (0, 0)) :=
  blk_put (blk_put (blk_put h 0 a rfl) 1 b rfl) 2 c rfl
theorem below3 {B : Nat} {w0 w : World} (h : Below B w0 w) {g : Nat} (hg : B ≤ g) (a b c : Value) : Below B w0 (((w.setCell ⟨g, 0, none⟩ a).setCell ⟨g, 1, none⟩ b).setCell ⟨g, 2, none⟩ c) := ((h.setCell hg _).setCell hg _).setCell hg _
def oneR (s : ByteArray) : ByteArray × ByteArray × Bool × Bool :=
  if spanN tcharI s = 0 ∨ spanN tcharI s = s.size then (lowerS (s.extract 0 (spanN tcharI s)), ⟨#[]⟩, false, decide (0 < spanN tcharI s))
  else if bt s (spanN tcharI s : Nat) ≠ 61 then (lowerS (s.extract 0 (spanN tcharI s)), ⟨#[]⟩, false, false)
  else if 0 < spanN tcharI (s.extract (spanN tcharI s + 1) s.size) then
    (lowerS (s.extract 0 (spanN tcharI s)), (s.extract (spanN tcharI s + 1) s.size).extract 0 (spanN tcharI (s.extract (spanN tcharI s + 1) s.size)), true, decide (spanN tcharI (s.extract (spanN tcharI s + 1) s.size) = (s.extract (spanN tcharI s + 1) s.size).size))
  else (lowerS (s.extract 0 (spanN tcharI s)), (quotedR (s.extract (spanN tcharI s + 1) s.size)).1, true, decide (0 < (quotedR (s.extract (spanN tcharI s + 1) s.size)).2 ∧ (quotedR (s.extract (spanN tcharI s + 1) s.size)).2 = ((s.extract (spanN tcharI s + 1) s.size).size : Int)))
def abutmentref21_One.f (s : ByteArray) : Option (ByteArray × ByteArray × Bool × Bool) := if s.size ≤ 1000000000 then some (oneR s) else none
set_option maxHeartbeats 4000000 in
set_option maxRecDepth 100000 in
theorem one_short (s : ByteArray) (hs : s.size ≤ 1000000000) (n : Nat) (hn : spanN tcharI s = n) (hz : n = 0 ∨ n = s.size) (w : World) :
    Calls Try.prog 87 #[.string s] w fun e w' => e = .returned (.tuple #[.agg #[.string (lowerS (s.extract 0 n)), .string ⟨#[]⟩, .bool false], .bool (decide (0 < n))]) ∧ Below w.heap.size w w' := by
  have HT := Aside0.mk (fun W => rTok_any s hs W)
  have hnle := spanN_le tcharI s
  rw [hn] at HT hnle
  clear hn
  have hnle2 : (n : Int) ≤ (s.size : Int) := by omega
  have HL := Aside0.mk (fun W => rLower_any (s.extract 0 n) (by simp; omega) W)
  obtain ⟨nm, hnm⟩ : ∃ nm, lowerS (s.extract 0 n) = nm := ⟨_, rfl⟩
  rw [hnm] at HL ⊢
  clear hnm
  have hz2 : (((n : Int) == 0) = true ∧ decide (0 < n) = false ∧ decide ((0 : Int) < (n : Int)) = false) ∨ (((n : Int) == 0) = false ∧ ((n : Int) == (s.size : Int)) = true ∧ decide (0 < n) = true ∧ decide ((0 : Int) < (n : Int)) = true) := by
    by_cases e : n = 0
    · left; subst e; exact ⟨rfl, rfl, rfl⟩
    · right; exact ⟨beq_eq_false_iff_ne.mpr (by omega), beq_iff_eq.mpr (by omega), decide_eq_true (by omega), decide_eq_true (by omega)⟩
  go_enter Try.func87, Try.ntmps87
  go_wp2_with fail
  refine (HT.out _).mono ?_
  rintro e w1 ⟨rfl, hb⟩
  have G1 := Aside0.mk (blk_below (blk_new w (.cells #[.string ⟨#[]⟩, .string ⟨#[]⟩, .bool false] 51 (0, 0))) hb)
  have B1 : Aside0 (Below w.heap.size w w1) := ⟨((Below.refl _ _).alloc (Nat.le_refl _) _).trans (hb.mono (by simp))⟩
  clear hb HT
  go_wp2_with fail
  refine (HL.out _).mono ?_
  rintro e w2 ⟨rfl, hb⟩
  have G2 := Aside0.mk (blk_below G1.out hb)
  have B2 := Aside0.mk (B1.out.trans (hb.mono B1.out.size))
  clear hb HL G1 B1
  have G3 := Aside0.mk (blk_alloc G2.out (.cells #[.string nm, .string ⟨#[]⟩, .bool false] 51))
  have D3 := Aside0.mk (blk_new w2 (.cells #[.string nm, .string ⟨#[]⟩, .bool false] 51 (0, 0)))
  have B3 := Aside0.mk (B2.out.alloc B2.out.size (.cells #[.string nm, .string ⟨#[]⟩, .bool false] 51))
  have N3 : w.heap.size ≠ w2.heap.size := fun e => by have := blk_lt G2.out; omega
  have N4 : w2.heap.size ≠ w.heap.size := fun e => N3 e.symm
  have Z3 := Aside0.mk B2.out.size
  clear G2 B2
  have q0_0 := blk_cell G3.out 0
  have q0_1 := blk_cell G3.out 1
  have q0_2 := blk_cell G3.out 2
  simp only [List.getElem?_toArray, List.getElem?_cons_zero, List.getElem?_cons_succ] at q0_0 q0_1 q0_2
  have f0_0 := blk_frozen G3.out 0
  have f0_1 := blk_frozen G3.out 1
  have f0_2 := blk_frozen G3.out 2
  rcases hz2 with ⟨z1, z2, z3⟩ | ⟨z1, z2, z3, z4⟩
  all_goals
    go_wp2
    refine bodyPost_ret (results_ct rfl _ _ w.heap.size 51 #[.string nm, .string ⟨#[]⟩, .bool false] (0, 0) _ rfl (put3 G3.out _ _ _) Try.underlying51 rfl (by kernel_rfl)) rfl ⟨(by first | (rw [z2]; rfl) | (rw [z3]; rfl)), below3 B3.out (Nat.le_refl _) _ _ _⟩
set_option maxHeartbeats 4000000 in
set_option maxRecDepth 100000 in
theorem one_other (s : ByteArray) (hs : s.size ≤ 1000000000) (n : Nat) (hn : spanN tcharI s = n) (hz : n ≠ 0) (hz2 : n ≠ s.size) (hb61 : bt s (n : Int) ≠ 61) (w : World) :
    Calls Try.prog 87 #[.string s] w fun e w' => e = .returned (.tuple #[.agg #[.string (lowerS (s.extract 0 n)), .string ⟨#[]⟩, .bool false], .bool false]) ∧ Below w.heap.size w w' := by
  have HT := Aside0.mk (fun W => rTok_any s hs W)
  have hnle := spanN_le tcharI s
  rw [hn] at HT hnle
  clear hn
  have hnle2 : (n : Int) ≤ (s.size : Int) := by omega
  have HL := Aside0.mk (fun W => rLower_any (s.extract 0 n) (by simp; omega) W)
  obtain ⟨nm, hnm⟩ : ∃ nm, lowerS (s.extract 0 n) = nm := ⟨_, rfl⟩
  rw [hnm] at HL ⊢
  clear hnm
  have hlt : n < s.size := by omega
  have z1 : ((n : Int) == 0) = false := beq_eq_false_iff_ne.mpr (by omega)
  have z2 : ((n : Int) == (s.size : Int)) = false := beq_eq_false_iff_ne.mpr (by omega)
  have hbt : ∀ h : n < s.size, ((s[n]'h).toNat : Int) = bt s (n : Int) := fun h => bt_at s (n : Int) h
  have p1 : (0 : Int) ≤ (n : Int) := by omega
  have p2 : (n : Int) < (s.size : Int) := by omega
  clear hz hz2
  have c1 : ((bt s (n : Int)) == 61) = false := beq_eq_false_iff_ne.mpr hb61
  have c2 : ((bt s (n : Int)) != 61) = true := bne_iff_ne.mpr hb61
  clear hb61
  go_enter Try.func87, Try.ntmps87
  go_wp2_with fail
  refine (HT.out _).mono ?_
  rintro e w1 ⟨rfl, hb⟩
  have G1 := Aside0.mk (blk_below (blk_new w (.cells #[.string ⟨#[]⟩, .string ⟨#[]⟩, .bool false] 51 (0, 0))) hb)
  have B1 : Aside0 (Below w.heap.size w w1) := ⟨((Below.refl _ _).alloc (Nat.le_refl _) _).trans (hb.mono (by simp))⟩
  clear hb HT
  go_wp2_with fail
  refine (HL.out _).mono ?_
  rintro e w2 ⟨rfl, hb⟩
  have G2 := Aside0.mk (blk_below G1.out hb)
  have B2 := Aside0.mk (B1.out.trans (hb.mono B1.out.size))
  clear hb HL G1 B1
  have G3 := Aside0.mk (blk_alloc G2.out (.cells #[.string nm, .string ⟨#[]⟩, .bool false] 51))
  have D3 := Aside0.mk (blk_new w2 (.cells #[.string nm, .string ⟨#[]⟩, .bool false] 51 (0, 0)))
  have B3 := Aside0.mk (B2.out.alloc B2.out.size (.cells #[.string nm, .string ⟨#[]⟩, .bool false] 51))
  have N3 : w.heap.size ≠ w2.heap.size := fun e => by have := blk_lt G2.out; omega
  have N4 : w2.heap.size ≠ w.heap.size := fun e => N3 e.symm
  have Z3 := Aside0.mk B2.out.size
  clear G2 B2
  have q0_0 := blk_cell G3.out 0
  have q0_1 := blk_cell G3.out 1
  have q0_2 := blk_cell G3.out 2
  simp only [List.getElem?_toArray, List.getElem?_cons_zero, List.getElem?_cons_succ] at q0_0 q0_1 q0_2
  have f0_0 := blk_frozen G3.out 0
  have f0_1 := blk_frozen G3.out 1
  have f0_2 := blk_frozen G3.out 2
  go_wp2
  refine bodyPost_ret (results_ct rfl _ _ w.heap.size 51 #[.string nm, .string ⟨#[]⟩, .bool false] (0, 0) _ rfl (put3 G3.out _ _ _) Try.underlying51 rfl (by kernel_rfl)) rfl ⟨rfl, below3 B3.out (Nat.le_refl _) _ _ _⟩
set_option maxHeartbeats 4000000 in
set_option maxRecDepth 100000 in
theorem one_token (s : ByteArray) (hs : s.size ≤ 1000000000) (n : Nat) (hn : spanN tcharI s = n) (hz : n ≠ 0) (hz2 : n ≠ s.size) (hb61 : bt s (n : Int) = 61) (k : Nat) (hk : spanN tcharI (s.extract (n + 1) s.size) = k) (hk0 : 0 < k) (w : World) :
    Calls Try.prog 87 #[.string s] w fun e w' => e = .returned (.tuple #[.agg #[.string (lowerS (s.extract 0 n)), .string ((s.extract (n + 1) s.size).extract 0 k), .bool true], .bool (decide (k = (s.extract (n + 1) s.size).size))]) ∧ Below w.heap.size w w' := by
  have HT := Aside0.mk (fun W => rTok_any s hs W)
  have hnle := spanN_le tcharI s
  rw [hn] at HT hnle
  clear hn
  have hnle2 : (n : Int) ≤ (s.size : Int) := by omega
  have HL := Aside0.mk (fun W => rLower_any (s.extract 0 n) (by simp; omega) W)
  obtain ⟨nm, hnm⟩ : ∃ nm, lowerS (s.extract 0 n) = nm := ⟨_, rfl⟩
  rw [hnm] at HL ⊢
  clear hnm
  have hlt : n < s.size := by omega
  have z1 : ((n : Int) == 0) = false := beq_eq_false_iff_ne.mpr (by omega)
  have z2 : ((n : Int) == (s.size : Int)) = false := beq_eq_false_iff_ne.mpr (by omega)
  have hbt : ∀ h : n < s.size, ((s[n]'h).toNat : Int) = bt s (n : Int) := fun h => bt_at s (n : Int) h
  have p1 : (0 : Int) ≤ (n : Int) := by omega
  have p2 : (n : Int) < (s.size : Int) := by omega
  clear hz hz2
  have c1 : ((bt s (n : Int)) == 61) = true := beq_iff_eq.mpr hb61
  have c2 : ((bt s (n : Int)) != 61) = false := bne_eq_false_iff_eq.mpr hb61
  clear hb61
  have hw : IntKind.i64.wrap ((n : Int) + 1) = (n : Int) + 1 := IntWalk.i64_in _ (by omega)
  have p3 : (0 : Int) ≤ (n : Int) + 1 := by omega
  have p4 : (n : Int) + 1 ≤ (s.size : Int) := by omega
  have p5 : ((n : Int) + 1).toNat = n + 1 := by omega
  have hsz : (s.extract (n + 1) s.size).size ≤ 1000000000 := by simp; omega
  obtain ⟨t, ht⟩ : ∃ t, s.extract (n + 1) s.size = t := ⟨_, rfl⟩
  have HE := Aside0.mk ht
  rw [ht] at hsz hk ⊢
  clear ht
  have HK := Aside0.mk (fun W => rTok_any t hsz W)
  have hkle := spanN_le tcharI t
  rw [hk] at HK hkle
  clear hk
  have hkle2 : (k : Int) ≤ (t.size : Int) := by omega
  have p6 : (0 : Int) ≤ (k : Int) := by omega
  have p7 : decide ((0 : Int) < (k : Int)) = true := decide_eq_true (by omega)
  have p8 : decide (0 < k) = true := decide_eq_true hk0
  clear hk0
  obtain ⟨b, hb⟩ : ∃ b, decide (k = t.size) = b := ⟨_, rfl⟩
  have hb2 : ((k : Int) == (t.size : Int)) = b := by rw [← hb, Bool.eq_iff_iff]; simp; omega
  rw [hb]
  clear hb
  go_enter Try.func87, Try.ntmps87
  go_wp2_with fail
  refine (HT.out _).mono ?_
  rintro e w1 ⟨rfl, hb⟩
  have G1 := Aside0.mk (blk_below (blk_new w (.cells #[.string ⟨#[]⟩, .string ⟨#[]⟩, .bool false] 51 (0, 0))) hb)
  have B1 : Aside0 (Below w.heap.size w w1) := ⟨((Below.refl _ _).alloc (Nat.le_refl _) _).trans (hb.mono (by simp))⟩
  clear hb HT
  go_wp2_with fail
  refine (HL.out _).mono ?_
  rintro e w2 ⟨rfl, hb⟩
  have G2 := Aside0.mk (blk_below G1.out hb)
  have B2 := Aside0.mk (B1.out.trans (hb.mono B1.out.size))
  clear hb HL G1 B1
  have G4 := Aside0.mk (blk_alloc G2.out (.cells #[.string nm, .string ⟨#[]⟩, .bool true] 51))
  have D4 := Aside0.mk (blk_new w2 (.cells #[.string nm, .string ⟨#[]⟩, .bool true] 51 (0, 0)))
  have B4 := Aside0.mk (B2.out.alloc B2.out.size (.cells #[.string nm, .string ⟨#[]⟩, .bool true] 51))
  have N3 : w.heap.size ≠ w2.heap.size := fun e => by have := blk_lt G2.out; omega
  have N4 : w2.heap.size ≠ w.heap.size := fun e => N3 e.symm
  have Z3 := Aside0.mk B2.out.size
  clear G2 B2
  go_upto_region 9 with (fail)
  rw [HE.out]
  clear hw p3 p4 p5 c1 c2 z1 z2 hbt p1 p2
  go_wp2_with fail
  refine (HK.out _).mono ?_
  rintro e w3 ⟨rfl, hb⟩
  have G5 := Aside0.mk (blk_below G4.out hb)
  have D5 := Aside0.mk (blk_below D4.out hb)
  have B5 := Aside0.mk (B4.out.trans (hb.mono B4.out.size))
  clear hb G4 D4 B4 HK
  have q5_0 := blk_cell G5.out 0
  have q5_1 := blk_cell G5.out 1
  have q5_2 := blk_cell G5.out 2
  simp only [List.getElem?_toArray, List.getElem?_cons_zero, List.getElem?_cons_succ] at q5_0 q5_1 q5_2
  have f5_0 := blk_frozen G5.out 0
  have f5_1 := blk_frozen G5.out 1
  have f5_2 := blk_frozen G5.out 2
  have q6_0 := blk_cell D5.out 0
  have q6_1 := blk_cell D5.out 1
  have q6_2 := blk_cell D5.out 2
  simp only [List.getElem?_toArray, List.getElem?_cons_zero, List.getElem?_cons_succ] at q6_0 q6_1 q6_2
  have f6_0 := blk_frozen D5.out 0
  have f6_1 := blk_frozen D5.out 1
  have f6_2 := blk_frozen D5.out 2
  have G6 := Aside0.mk (blk_far G5.out (p := ⟨w2.heap.size, 1, none⟩) N3 (.string (t.extract 0 k)))
  have B6 := Aside0.mk (B5.out.setCell (p := ⟨w2.heap.size, 1, none⟩) Z3.out (.string (t.extract 0 k)))
  go_wp2
  refine bodyPost_ret (results_ct rfl _ _ w.heap.size 51 #[.string nm, .string (t.extract 0 k), .bool true] (0, 0) _ rfl (put3 G6.out _ _ _) Try.underlying51 rfl (by kernel_rfl)) rfl ⟨rfl, below3 B6.out (Nat.le_refl _) _ _ _⟩
set_option maxHeartbeats 4000000 in
set_option maxRecDepth 100000 in
theorem one_quoted (s : ByteArray) (hs : s.size ≤ 1000000000) (n : Nat) (hn : spanN tcharI s = n) (hz : n ≠ 0) (hz2 : n ≠ s.size) (hb61 : bt s (n : Int) = 61) (k : Nat) (hk : spanN tcharI (s.extract (n + 1) s.size) = k) (hk0 : ¬ 0 < k) (w : World) :
    Calls Try.prog 87 #[.string s] w fun e w' => e = .returned (.tuple #[.agg #[.string (lowerS (s.extract 0 n)), .string (quotedR (s.extract (n + 1) s.size)).1, .bool true], .bool (decide (0 < (quotedR (s.extract (n + 1) s.size)).2 ∧ (quotedR (s.extract (n + 1) s.size)).2 = ((s.extract (n + 1) s.size).size : Int)))]) ∧ Below w.heap.size w w' := by
  have HT := Aside0.mk (fun W => rTok_any s hs W)
  have hnle := spanN_le tcharI s
  rw [hn] at HT hnle
  clear hn
  have hnle2 : (n : Int) ≤ (s.size : Int) := by omega
  have HL := Aside0.mk (fun W => rLower_any (s.extract 0 n) (by simp; omega) W)
  obtain ⟨nm, hnm⟩ : ∃ nm, lowerS (s.extract 0 n) = nm := ⟨_, rfl⟩
  rw [hnm] at HL ⊢
  clear hnm
  have hlt : n < s.size := by omega
  have z1 : ((n : Int) == 0) = false := beq_eq_false_iff_ne.mpr (by omega)
  have z2 : ((n : Int) == (s.size : Int)) = false := beq_eq_false_iff_ne.mpr (by omega)
  have hbt : ∀ h : n < s.size, ((s[n]'h).toNat : Int) = bt s (n : Int) := fun h => bt_at s (n : Int) h
  have p1 : (0 : Int) ≤ (n : Int) := by omega
  have p2 : (n : Int) < (s.size : Int) := by omega
  clear hz hz2
  have c1 : ((bt s (n : Int)) == 61) = true := beq_iff_eq.mpr hb61
  have c2 : ((bt s (n : Int)) != 61) = false := bne_eq_false_iff_eq.mpr hb61
  clear hb61
  have hw : IntKind.i64.wrap ((n : Int) + 1) = (n : Int) + 1 := IntWalk.i64_in _ (by omega)
  have p3 : (0 : Int) ≤ (n : Int) + 1 := by omega
  have p4 : (n : Int) + 1 ≤ (s.size : Int) := by omega
  have p5 : ((n : Int) + 1).toNat = n + 1 := by omega
  have hsz : (s.extract (n + 1) s.size).size ≤ 1000000000 := by simp; omega
  obtain ⟨t, ht⟩ : ∃ t, s.extract (n + 1) s.size = t := ⟨_, rfl⟩
  have HE := Aside0.mk ht
  rw [ht] at hsz hk ⊢
  clear ht
  have HK := Aside0.mk (fun W => rTok_any t hsz W)
  have hkle := spanN_le tcharI t
  rw [hk] at HK hkle
  clear hk
  have hkle2 : (k : Int) ≤ (t.size : Int) := by omega
  have p6 : (0 : Int) ≤ (k : Int) := by omega
  have p7 : decide ((0 : Int) < (k : Int)) = false := decide_eq_false (by omega)
  have p8 : decide (0 < k) = false := decide_eq_false hk0
  clear hk0
  have hqr := quotedR_range t
  have HQ := Aside0.mk (fun W => rQuoted_any t hsz W)
  obtain ⟨v, hv⟩ : ∃ v, (quotedR t).1 = v := ⟨_, rfl⟩
  obtain ⟨q, hq⟩ : ∃ q, (quotedR t).2 = q := ⟨_, rfl⟩
  rw [hv, hq] at HQ ⊢
  rw [hq] at hqr
  clear hv hq
  obtain ⟨hq0, hq1⟩ := hqr
  obtain ⟨b, hb⟩ : ∃ b, decide (0 < q ∧ q = (t.size : Int)) = b := ⟨_, rfl⟩
  rw [hb]
  have hcase : (decide ((0 : Int) < q) = false ∧ b = false) ∨ (decide ((0 : Int) < q) = true ∧ (q == (t.size : Int)) = b) := by
    rw [← hb]
    by_cases e : 0 < q
    · right; exact ⟨decide_eq_true e, by rw [Bool.eq_iff_iff]; simp [e]⟩
    · left; exact ⟨decide_eq_false e, decide_eq_false (fun h => e h.1)⟩
  clear hb
  go_enter Try.func87, Try.ntmps87
  go_wp2_with fail
  refine (HT.out _).mono ?_
  rintro e w1 ⟨rfl, hb⟩
  have G1 := Aside0.mk (blk_below (blk_new w (.cells #[.string ⟨#[]⟩, .string ⟨#[]⟩, .bool false] 51 (0, 0))) hb)
  have B1 : Aside0 (Below w.heap.size w w1) := ⟨((Below.refl _ _).alloc (Nat.le_refl _) _).trans (hb.mono (by simp))⟩
  clear hb HT
  go_wp2_with fail
  refine (HL.out _).mono ?_
  rintro e w2 ⟨rfl, hb⟩
  have G2 := Aside0.mk (blk_below G1.out hb)
  have B2 := Aside0.mk (B1.out.trans (hb.mono B1.out.size))
  clear hb HL G1 B1
  have G4 := Aside0.mk (blk_alloc G2.out (.cells #[.string nm, .string ⟨#[]⟩, .bool true] 51))
  have D4 := Aside0.mk (blk_new w2 (.cells #[.string nm, .string ⟨#[]⟩, .bool true] 51 (0, 0)))
  have B4 := Aside0.mk (B2.out.alloc B2.out.size (.cells #[.string nm, .string ⟨#[]⟩, .bool true] 51))
  have N3 : w.heap.size ≠ w2.heap.size := fun e => by have := blk_lt G2.out; omega
  have N4 : w2.heap.size ≠ w.heap.size := fun e => N3 e.symm
  have Z3 := Aside0.mk B2.out.size
  clear G2 B2
  go_upto_region 9 with (fail)
  rw [HE.out]
  clear hw p3 p4 p5 c1 c2 z1 z2 hbt p1 p2
  go_wp2_with fail
  refine (HK.out _).mono ?_
  rintro e w3 ⟨rfl, hb⟩
  have G5 := Aside0.mk (blk_below G4.out hb)
  have D5 := Aside0.mk (blk_below D4.out hb)
  have B5 := Aside0.mk (B4.out.trans (hb.mono B4.out.size))
  clear hb G4 D4 B4 HK
  have q5_0 := blk_cell G5.out 0
  have q5_1 := blk_cell G5.out 1
  have q5_2 := blk_cell G5.out 2
  simp only [List.getElem?_toArray, List.getElem?_cons_zero, List.getElem?_cons_succ] at q5_0 q5_1 q5_2
  have f5_0 := blk_frozen G5.out 0
  have f5_1 := blk_frozen G5.out 1
  have f5_2 := blk_frozen G5.out 2
  have q6_0 := blk_cell D5.out 0
  have q6_1 := blk_cell D5.out 1
  have q6_2 := blk_cell D5.out 2
  simp only [List.getElem?_toArray, List.getElem?_cons_zero, List.getElem?_cons_succ] at q6_0 q6_1 q6_2
  have f6_0 := blk_frozen D5.out 0
  have f6_1 := blk_frozen D5.out 1
  have f6_2 := blk_frozen D5.out 2
  have G6 := Aside0.mk (blk_far G5.out (p := ⟨w2.heap.size, 1, none⟩) N3 (.string (t.extract 0 k)))
  have B6 := Aside0.mk (B5.out.setCell (p := ⟨w2.heap.size, 1, none⟩) Z3.out (.string (t.extract 0 k)))
  go_wp2_with fail
  refine (HQ.out _).mono ?_
  rintro e w4 ⟨rfl, hb⟩
  have D6 := Aside0.mk (blk_put (cs' := #[.string nm, .string (t.extract 0 k), .bool true]) D5.out 1 (.string (t.extract 0 k)) rfl)
  have G7 := Aside0.mk (blk_below G6.out hb)
  have D7 := Aside0.mk (blk_below D6.out hb)
  have B7 := Aside0.mk (B6.out.trans (hb.mono B6.out.size))
  clear hb G6 D6 B6 HQ
  clear q5_0 f5_0 q5_1 f5_1 q5_2 f5_2
  clear q6_0 f6_0 q6_1 f6_1 q6_2 f6_2
  have q7_0 := blk_cell G7.out 0
  have q7_1 := blk_cell G7.out 1
  have q7_2 := blk_cell G7.out 2
  simp only [List.getElem?_toArray, List.getElem?_cons_zero, List.getElem?_cons_succ] at q7_0 q7_1 q7_2
  have f7_0 := blk_frozen G7.out 0
  have f7_1 := blk_frozen G7.out 1
  have f7_2 := blk_frozen G7.out 2
  have q8_0 := blk_cell D7.out 0
  have q8_1 := blk_cell D7.out 1
  have q8_2 := blk_cell D7.out 2
  simp only [List.getElem?_toArray, List.getElem?_cons_zero, List.getElem?_cons_succ] at q8_0 q8_1 q8_2
  have f8_0 := blk_frozen D7.out 0
  have f8_1 := blk_frozen D7.out 1
  have f8_2 := blk_frozen D7.out 2
  have G8 := Aside0.mk (blk_far G7.out (p := ⟨w2.heap.size, 1, none⟩) N3 (.string v))
  have B8 := Aside0.mk (B7.out.setCell (p := ⟨w2.heap.size, 1, none⟩) Z3.out (.string v))
  rcases hcase with ⟨h1, rfl⟩ | ⟨h1, h2⟩
  all_goals
    go_wp2
    refine bodyPost_ret (results_ct rfl _ _ w.heap.size 51 #[.string nm, .string v, .bool true] (0, 0) _ rfl (put3 G8.out _ _ _) Try.underlying51 rfl (by kernel_rfl)) rfl ⟨rfl, below3 B8.out (Nat.le_refl _) _ _ _⟩
theorem abutmentref21_One.calls (a0 : ByteArray) (r1 : ByteArray) (r2 : ByteArray) (r3 : Bool) (r4 : Bool) (w : World) (h : abutmentref21_One.f a0 = some (r1, r2, r3, r4)) :
    Calls Try.prog 87 #[.string a0] w fun e w' => e = .returned (.tuple #[.agg #[.string r1, .string r2, .bool r3], .bool r4]) ∧ Below w.heap.size w w' := by
  unfold abutmentref21_One.f at h
  split at h
  · rename_i hs
    injection h with h
    unfold oneR at h
    by_cases c1 : spanN tcharI a0 = 0 ∨ spanN tcharI a0 = a0.size
    · rw [if_pos c1] at h
      simp only [Prod.mk.injEq] at h
      obtain ⟨rfl, rfl, rfl, rfl⟩ := h
      exact one_short a0 hs _ rfl c1 w
    · rw [if_neg c1] at h
      have c1a : spanN tcharI a0 ≠ 0 := fun e => c1 (.inl e)
      have c1b : spanN tcharI a0 ≠ a0.size := fun e => c1 (.inr e)
      by_cases c2 : bt a0 (spanN tcharI a0 : Nat) ≠ 61
      · rw [if_pos c2] at h
        simp only [Prod.mk.injEq] at h
        obtain ⟨rfl, rfl, rfl, rfl⟩ := h
        exact one_other a0 hs _ rfl c1a c1b c2 w
      · rw [if_neg c2] at h
        have c2 : bt a0 (spanN tcharI a0 : Nat) = 61 := Classical.not_not.1 c2
        by_cases c3 : 0 < spanN tcharI (a0.extract (spanN tcharI a0 + 1) a0.size)
        · rw [if_pos c3] at h
          simp only [Prod.mk.injEq] at h
          obtain ⟨rfl, rfl, rfl, rfl⟩ := h
          exact one_token a0 hs _ rfl c1a c1b c2 _ rfl c3 w
        · rw [if_neg c3] at h
          simp only [Prod.mk.injEq] at h
          obtain ⟨rfl, rfl, rfl, rfl⟩ := h
          exact one_quoted a0 hs _ rfl c1a c1b c2 _ rfl c3 w
  · exact absurd h (by simp)
end Go.Proofs.Ytjnhghplfdiijaa.Q

namespace Go.Proofs.Ytjnhghplfdiijaa.Q
open Go.RowKit Go.Proofs.YtjnhghplfdiijaaW.PrintWords Go.Proofs.YtjnhghplfdiijaaW.PrintLast Go.Proofs.YtjnhghplfdiijaaW.PrintMore
attribute [local go_sem] max2_int min2_int max_two min_two max_three min_three max_four min_four
set_option linter.unusedVariables false
set_option linter.unusedSimpArgs false
def octet_Fold.l0 : Nat → ByteArray → ByteArray → Int → Int → Option (Bool)
  | 0, _, _, _, _ => none
  | k + 1, x0, x1, x12, x13 => if x13 < x12 then (if 0 ≤ x13 then (if x13 < (x0.size : Int) then ((octet_lower.f (bt x0 x13)).bind fun t101 => (if x13 < (x1.size : Int) then ((octet_lower.f (bt x1 x13)).bind fun t102 => (if t101 = t102 then (octet_Fold.l0 k x0 x1 x12 (wrap64 (x13 + 1))) else (some false))) else (none))) else (none)) else (none)) else (some true)
def octet_Fold.f (k : Nat) (a0 : ByteArray) (a1 : ByteArray) : Option (Bool) := if (a0.size : Int) = (a1.size : Int) then (octet_Fold.l0 k a0 a1 (a0.size : Int) 0) else (some false)
set_option maxHeartbeats 8000000 in
set_option maxRecDepth 100000 in
theorem octet_Fold.calls (k : Nat) (a0 : ByteArray) (a1 : ByteArray) (r : Bool) (w : World) (h : octet_Fold.f k a0 a1 = some r) :
    Calls Try.prog 115 #[.string a0, .string a1] w fun e w' => e = .returned (.bool r) ∧ Drawn0 w w' := by
  have H : (if (a0.size : Int) = (a1.size : Int) then (octet_Fold.l0 k a0 a1 (a0.size : Int) 0) else (some false)) = some r := h
  clear h
  by_cases c3 : (a0.size : Int) = (a1.size : Int)
  · rw [if_pos c3] at H
    have c3b0 : ((a0.size : Int) == (a1.size : Int)) = true := beq_iff_eq.mpr c3
    have c3b1 : ((a0.size : Int) != (a1.size : Int)) = false := bne_eq_false_iff_eq.mpr c3
    have c3b2 : (a0.size == a1.size) = true := by first | simpa using c3 | (simp at c3 ⊢; omega)
    clear c3
    have H' := Aside0.mk H
    clear H
    go_enter Try.func115, Try.ntmps115
    go_wp2
    repeat (go_quiet (fail); try go_wp2)
    go_loopg [13] k (fun kq v13 w' => ∃ (x13_1 : Int), v13 = .int .i64 x13_1 ∧ Aside0 (octet_Fold.l0 kq a0 a1 (a0.size : Int) x13_1 = some r) ∧ Aside0 (kq ≤ k) ∧ Drawn0 w w')
    case atStart => exact ⟨(0), (by first | rfl | (simp; done) | (simp [*]; done)), H', ⟨Nat.le_refl _⟩, by repeat (first | exact Drawn0.refl _ | apply Drawn0.step)⟩
    case round =>
      clear H'
      try clear c1
      try clear p2
      try clear c3
      try clear c3b0
      try clear c3b1
      try clear c3b2
      obtain ⟨x13_1, rfl, HA, HK1, ⟨m1, rfl⟩⟩ := hrel
      cases gk with
      | zero => exact absurd HA.out (by simp [octet_Fold.l0])
      | succ k1 =>
        have H := HA.out
        clear HA
        simp only [octet_Fold.l0] at H
        by_cases c4 : x13_1 < (a0.size : Int)
        · rw [if_pos c4] at H
          have c4b0 : decide (x13_1 < (a0.size : Int)) = true := decide_eq_true c4
          clear c4
          by_cases c5 : 0 ≤ x13_1
          · rw [if_pos c5] at H
            have c5b0 : decide (0 ≤ x13_1) = true := decide_eq_true c5
            clear c5
            by_cases c6 : x13_1 < (a0.size : Int)
            · rw [if_pos c6] at H
              have c6b0 : decide (x13_1 < (a0.size : Int)) = true := decide_eq_true c6
              clear c6
              replace H := Option.bind_eq_some_iff.mp H
              obtain ⟨t101, A80, H⟩ := H
              (try dsimp only at H)
              have A8 := Aside0.mk A80
              clear A80
              by_cases c9 : x13_1 < (a1.size : Int)
              · rw [if_pos c9] at H
                have c9b0 : decide (x13_1 < (a1.size : Int)) = true := decide_eq_true c9
                clear c9
                replace H := Option.bind_eq_some_iff.mp H
                obtain ⟨t102, A110, H⟩ := H
                (try dsimp only at H)
                have A11 := Aside0.mk A110
                clear A110
                by_cases c12 : t101 = t102
                · rw [if_pos c12] at H
                  have c12b0 : (t101 == t102) = true := beq_iff_eq.mpr c12
                  have c12b1 : (t101 != t102) = false := bne_eq_false_iff_eq.mpr c12
                  clear c12
                  have H' := Aside0.mk H
                  clear H
                  have p7 : 0 ≤ (x13_1 : Int) := of_decide_eq_true (by first | (with_reducible assumption) | assumption)
                  have q7 : x13_1 < (a0.size : Int) := of_decide_eq_true (by first | (with_reducible assumption) | assumption)
                  have hx7 := bt_at a0 x13_1
                  replace p7 := eq_true p7
                  replace q7 := eq_true q7
                  go_wp2_with (first | (go_at_call 160; (with_reducible refine (octet_lower.calls (bt a0 x13_1) t101 _ A8.out).mono ?_); rintro e w' ⟨rfl, ⟨nd, rfl⟩⟩; (try first | exact ⟨rfl, _, World.drewN_drewN _ _ _⟩ | exact ⟨rfl, _, Eq.trans (World.drewN_drewN _ _ _) (congrArg (World.drewN _) (Nat.add_assoc _ _ _))⟩); have p10 : 0 ≤ (x13_1 : Int) := of_decide_eq_true (by first | (with_reducible assumption) | assumption); have q10 : x13_1 < (a1.size : Int) := of_decide_eq_true (by first | (with_reducible assumption) | assumption); have hx10 := bt_at a1 x13_1; replace p10 := eq_true p10; replace q10 := eq_true q10) | (go_at_call 160; (with_reducible refine (octet_lower.calls (bt a1 x13_1) t102 _ A11.out).mono ?_); rintro e w' ⟨rfl, ⟨nd, rfl⟩⟩; (try first | exact ⟨rfl, _, World.drewN_drewN _ _ _⟩ | exact ⟨rfl, _, Eq.trans (World.drewN_drewN _ _ _) (congrArg (World.drewN _) (Nat.add_assoc _ _ _))⟩)))
                  repeat (go_quiet (first | (go_at_call 160; (with_reducible refine (octet_lower.calls (bt a0 x13_1) t101 _ A8.out).mono ?_); rintro e w' ⟨rfl, ⟨nd, rfl⟩⟩; (try first | exact ⟨rfl, _, World.drewN_drewN _ _ _⟩ | exact ⟨rfl, _, Eq.trans (World.drewN_drewN _ _ _) (congrArg (World.drewN _) (Nat.add_assoc _ _ _))⟩); have p10 : 0 ≤ (x13_1 : Int) := of_decide_eq_true (by first | (with_reducible assumption) | assumption); have q10 : x13_1 < (a1.size : Int) := of_decide_eq_true (by first | (with_reducible assumption) | assumption); have hx10 := bt_at a1 x13_1; replace p10 := eq_true p10; replace q10 := eq_true q10) | (go_at_call 160; (with_reducible refine (octet_lower.calls (bt a1 x13_1) t102 _ A11.out).mono ?_); rintro e w' ⟨rfl, ⟨nd, rfl⟩⟩; (try first | exact ⟨rfl, _, World.drewN_drewN _ _ _⟩ | exact ⟨rfl, _, Eq.trans (World.drewN_drewN _ _ _) (congrArg (World.drewN _) (Nat.add_assoc _ _ _))⟩))); try go_wp2_with (first | (go_at_call 160; (with_reducible refine (octet_lower.calls (bt a0 x13_1) t101 _ A8.out).mono ?_); rintro e w' ⟨rfl, ⟨nd, rfl⟩⟩; (try first | exact ⟨rfl, _, World.drewN_drewN _ _ _⟩ | exact ⟨rfl, _, Eq.trans (World.drewN_drewN _ _ _) (congrArg (World.drewN _) (Nat.add_assoc _ _ _))⟩); have p10 : 0 ≤ (x13_1 : Int) := of_decide_eq_true (by first | (with_reducible assumption) | assumption); have q10 : x13_1 < (a1.size : Int) := of_decide_eq_true (by first | (with_reducible assumption) | assumption); have hx10 := bt_at a1 x13_1; replace p10 := eq_true p10; replace q10 := eq_true q10) | (go_at_call 160; (with_reducible refine (octet_lower.calls (bt a1 x13_1) t102 _ A11.out).mono ?_); rintro e w' ⟨rfl, ⟨nd, rfl⟩⟩; (try first | exact ⟨rfl, _, World.drewN_drewN _ _ _⟩ | exact ⟨rfl, _, Eq.trans (World.drewN_drewN _ _ _) (congrArg (World.drewN _) (Nat.add_assoc _ _ _))⟩))))
                  go_roundg k1
                  case measure => have := HK1.out; omega
                  case rel => exact ⟨(wrap64 (x13_1 + 1)), (by first | rfl | (simp; done) | (simp [*]; done)), H', ⟨by have := HK1.out; omega⟩, by repeat (first | exact Drawn0.refl _ | apply Drawn0.step)⟩
                · rw [if_neg c12] at H
                  have c12b0 : (t101 == t102) = false := beq_eq_false_iff_ne.mpr c12
                  have c12b1 : (t101 != t102) = true := bne_iff_ne.mpr c12
                  obtain rfl := Option.some.inj H
                  have p7 : 0 ≤ (x13_1 : Int) := of_decide_eq_true (by first | (with_reducible assumption) | assumption)
                  have q7 : x13_1 < (a0.size : Int) := of_decide_eq_true (by first | (with_reducible assumption) | assumption)
                  have hx7 := bt_at a0 x13_1
                  replace p7 := eq_true p7
                  replace q7 := eq_true q7
                  go_wp2_with (first | (go_at_call 160; (with_reducible refine (octet_lower.calls (bt a0 x13_1) t101 _ A8.out).mono ?_); rintro e w' ⟨rfl, ⟨nd, rfl⟩⟩; (try first | exact ⟨rfl, _, World.drewN_drewN _ _ _⟩ | exact ⟨rfl, _, Eq.trans (World.drewN_drewN _ _ _) (congrArg (World.drewN _) (Nat.add_assoc _ _ _))⟩); have p10 : 0 ≤ (x13_1 : Int) := of_decide_eq_true (by first | (with_reducible assumption) | assumption); have q10 : x13_1 < (a1.size : Int) := of_decide_eq_true (by first | (with_reducible assumption) | assumption); have hx10 := bt_at a1 x13_1; replace p10 := eq_true p10; replace q10 := eq_true q10) | (go_at_call 160; (with_reducible refine (octet_lower.calls (bt a1 x13_1) t102 _ A11.out).mono ?_); rintro e w' ⟨rfl, ⟨nd, rfl⟩⟩; (try first | exact ⟨rfl, _, World.drewN_drewN _ _ _⟩ | exact ⟨rfl, _, Eq.trans (World.drewN_drewN _ _ _) (congrArg (World.drewN _) (Nat.add_assoc _ _ _))⟩)))
                  repeat (go_quiet (first | (go_at_call 160; (with_reducible refine (octet_lower.calls (bt a0 x13_1) t101 _ A8.out).mono ?_); rintro e w' ⟨rfl, ⟨nd, rfl⟩⟩; (try first | exact ⟨rfl, _, World.drewN_drewN _ _ _⟩ | exact ⟨rfl, _, Eq.trans (World.drewN_drewN _ _ _) (congrArg (World.drewN _) (Nat.add_assoc _ _ _))⟩); have p10 : 0 ≤ (x13_1 : Int) := of_decide_eq_true (by first | (with_reducible assumption) | assumption); have q10 : x13_1 < (a1.size : Int) := of_decide_eq_true (by first | (with_reducible assumption) | assumption); have hx10 := bt_at a1 x13_1; replace p10 := eq_true p10; replace q10 := eq_true q10) | (go_at_call 160; (with_reducible refine (octet_lower.calls (bt a1 x13_1) t102 _ A11.out).mono ?_); rintro e w' ⟨rfl, ⟨nd, rfl⟩⟩; (try first | exact ⟨rfl, _, World.drewN_drewN _ _ _⟩ | exact ⟨rfl, _, Eq.trans (World.drewN_drewN _ _ _) (congrArg (World.drewN _) (Nat.add_assoc _ _ _))⟩))); try go_wp2_with (first | (go_at_call 160; (with_reducible refine (octet_lower.calls (bt a0 x13_1) t101 _ A8.out).mono ?_); rintro e w' ⟨rfl, ⟨nd, rfl⟩⟩; (try first | exact ⟨rfl, _, World.drewN_drewN _ _ _⟩ | exact ⟨rfl, _, Eq.trans (World.drewN_drewN _ _ _) (congrArg (World.drewN _) (Nat.add_assoc _ _ _))⟩); have p10 : 0 ≤ (x13_1 : Int) := of_decide_eq_true (by first | (with_reducible assumption) | assumption); have q10 : x13_1 < (a1.size : Int) := of_decide_eq_true (by first | (with_reducible assumption) | assumption); have hx10 := bt_at a1 x13_1; replace p10 := eq_true p10; replace q10 := eq_true q10) | (go_at_call 160; (with_reducible refine (octet_lower.calls (bt a1 x13_1) t102 _ A11.out).mono ?_); rintro e w' ⟨rfl, ⟨nd, rfl⟩⟩; (try first | exact ⟨rfl, _, World.drewN_drewN _ _ _⟩ | exact ⟨rfl, _, Eq.trans (World.drewN_drewN _ _ _) (congrArg (World.drewN _) (Nat.add_assoc _ _ _))⟩))))
                  go_ret
                  exact ⟨by first | rfl | (simp; done) | (simp [*]; done), by repeat (first | exact Drawn0.refl _ | apply Drawn0.step)⟩
              · rw [if_neg c9] at H
                exact absurd H (by simp)
            · rw [if_neg c6] at H
              exact absurd H (by simp)
          · rw [if_neg c5] at H
            exact absurd H (by simp)
        · rw [if_neg c4] at H
          have c4b0 : decide (x13_1 < (a0.size : Int)) = false := decide_eq_false c4
          clear c4
          obtain rfl := Option.some.inj H
          go_wp2
          repeat (go_quiet (fail); try go_wp2)
          go_ret
          exact ⟨by first | rfl | (simp; done) | (simp [*]; done), by repeat (first | exact Drawn0.refl _ | apply Drawn0.step)⟩
  · rw [if_neg c3] at H
    have c3b0 : ((a0.size : Int) == (a1.size : Int)) = false := beq_eq_false_iff_ne.mpr c3
    have c3b1 : ((a0.size : Int) != (a1.size : Int)) = true := bne_iff_ne.mpr c3
    have c3b2 : (a0.size == a1.size) = false := by first | simpa using c3 | (simp at c3 ⊢; omega)
    obtain rfl := Option.some.inj H
    go_enter Try.func115, Try.ntmps115
    go_wp2
    repeat (go_quiet (fail); try go_wp2)
    go_ret
    exact ⟨by first | rfl | (simp; done) | (simp [*]; done), by repeat (first | exact Drawn0.refl _ | apply Drawn0.step)⟩
end Go.Proofs.Ytjnhghplfdiijaa.Q

namespace Go.Proofs.Ytjnhghplfdiijaa.Q
open Go.RowKit Go.Proofs.YtjnhghplfdiijaaW.PrintWords Go.Proofs.YtjnhghplfdiijaaW.PrintLast Go.Proofs.YtjnhghplfdiijaaW.PrintMore Go.Lib Go.Shelf
set_option linter.unusedVariables false
set_option linter.unusedSimpArgs false
/-- A function value that answers p at the texts of a list, and keeps what lay. -/
def StrPred (P : Program) (f : Nat) (lb : Array Value) (p : ByteArray → Bool) (l : List ByteArray) (w : World) : Prop :=
  ∀ (x : ByteArray) (W : World), x ∈ l → Below w.heap.size w W → Calls P f (#[.string x] ++ lb) W fun e w' => e = .returned (.bool (p x)) ∧ Below W.heap.size W w'
/-- The first place of which p holds, or -1. -/
def idxI {α : Type} (p : α → Bool) (l : List α) : Int := match l.findIdx? p with | some i => (i : Int) | none => -1
theorem idxI_hit {α : Type} (p : α → Bool) (l : List α) (k : Nat) (x : α) (hk : l[k]? = some x) (hp : p x = true) (h : ∀ (j : Nat) y, j < k → l[j]? = some y → p y = false) : idxI p l = (k : Int) := by
  have hlt : k < l.length := (List.getElem?_eq_some_iff.1 hk).1
  have hx : l[k] = x := (List.getElem?_eq_some_iff.1 hk).2
  have : l.findIdx? p = some k := by
    rw [List.findIdx?_eq_some_iff_getElem]
    refine ⟨hlt, by rw [hx]; exact hp, fun j hj => ?_⟩
    have := h j _ hj (List.getElem?_eq_getElem (by omega))
    simpa using this
  unfold idxI
  rw [this]
theorem idxI_miss {α : Type} (p : α → Bool) (l : List α) (h : ∀ (j : Nat) y, l[j]? = some y → p y = false) : idxI p l = -1 := by
  have : l.findIdx? p = none := by
    rw [List.findIdx?_eq_none_iff]
    intro x hx
    obtain ⟨j, hj, rfl⟩ := List.getElem_of_mem hx
    exact h j _ (List.getElem?_eq_getElem hj)
  unfold idxI
  rw [this]
theorem idxI_any {α : Type} (p : α → Bool) (l : List α) : decide (0 ≤ idxI p l) = l.any p := by
  unfold idxI
  cases h : l.findIdx? p with
  | some i =>
    have h2 := List.findIdx?_eq_some_iff_getElem.1 h
    obtain ⟨hi, hp, _⟩ := h2
    have : l.any p = true := List.any_eq_true.2 ⟨_, List.getElem_mem hi, hp⟩
    rw [this]
    simp
  | none =>
    rw [List.findIdx?_eq_none_iff] at h
    have : l.any p = false := by
      rw [Bool.eq_false_iff]
      intro ha
      obtain ⟨x, hx, hp⟩ := List.any_eq_true.1 ha
      rw [h x hx] at hp
      cases hp
    rw [this]
    rfl
set_option maxHeartbeats 2000000 in
theorem IndexFunc_str (f : Nat) (lb : Array Value) (ef : ∀ args w, (callFunc f args).run Try.prog w = .ok (.enter f args) w) (p : ByteArray → Bool) (A : Option Addr) (c : Nat) (l : List ByteArray) (w : World)
    (hr : Kd.C Kd.string w A l.length l) (hl : l.length ≤ 9223372036854775807) (hcall : StrPred Try.prog f lb p l w) :
    Calls Try.prog 126 #[.slice A l.length c, .func (.func f) #[] lb] w fun e w' => e = .returned (.int .i64 (idxI p l)) ∧ Below w.heap.size w w' := by
  have HR := Aside0.mk hr
  have HC := Aside0.mk hcall
  clear hr hcall
  go_enter Try.func126, Try.ntmps126
  go_wp2
  go_loopg [5, 8] l.length (fun gg _ i wr => ∃ k : Nat, k ≤ l.length ∧ l.length - k ≤ gg ∧ i = .int .i64 k ∧ Below w.heap.size w wr ∧ Aside0 (∀ j y, j < k → l[j]? = some y → p y = false))
  case atStart => exact ⟨0, Nat.zero_le _, by omega, rfl, Below.refl _ _, ⟨fun j y hj => by omega⟩⟩
  case round =>
    obtain ⟨k, hk, hgg, rfl, HB, HA⟩ := hrel
    by_cases hlt : k < l.length
    · obtain ⟨ad, e, hc⟩ := Kd.at_string (Kd.C_below HR.out HB) (k : Int) (by omega) (by omega)
      subst e
      have hget : rdOf ByteArray.empty l (k : Int) = l[k] := by simp [rdOf, hlt]
      rw [hget] at hc
      have hc' : wr.cell? (ad.add k) = some (.string l[k]) := hc
      clear hc hget
      have HK := Aside0.mk (List.getElem?_eq_getElem hlt)
      have HM := Aside0.mk (List.getElem_mem hlt)
      generalize l[k] = y at hc' HK HM
      have hHC := Aside0.mk (HC.out y wr HM.out HB)
      cases hq : p y with
      | true =>
        rw [hq] at hHC
        have HQ := Aside0.mk hq
        clear hq
        go_wp2_with fail
        refine hHC.out.mono ?_
        rintro e w2 ⟨rfl, hb⟩
        have HBX := Aside0.mk hb
        clear hb
        go_wp2
        go_ret
        rw [idxI_hit p l k y HK.out HQ.out (fun j z hj hz => HA.out j z hj hz)]
        exact ⟨rfl, HB.trans (HBX.out.mono HB.size)⟩
      | false =>
        rw [hq] at hHC
        have HQ := Aside0.mk hq
        clear hq
        go_wp2_with fail
        refine hHC.out.mono ?_
        rintro e w2 ⟨rfl, hb⟩
        have HBX := Aside0.mk hb
        clear hb
        go_wp2
        go_roundg (gk - 1)
        case measure => omega
        case rel =>
          refine ⟨k + 1, by omega, by omega, by go_num, HB.trans (HBX.out.mono HB.size), ⟨fun j z hj hz => ?_⟩⟩
          by_cases e : j = k
          · subst e
            have := HK.out.symm.trans hz
            injection this with this
            subst this
            exact HQ.out
          · exact HA.out j z (by omega) hz
    · go_wp2
      go_ret
      rw [idxI_miss p l (fun j z hz => HA.out j z (by have := (List.getElem?_eq_some_iff.1 hz).1; omega) hz)]
      exact ⟨rfl, HB⟩
theorem ContainsFunc_str (f : Nat) (lb : Array Value) (ef : ∀ args w, (callFunc f args).run Try.prog w = .ok (.enter f args) w) (p : ByteArray → Bool) (A : Option Addr) (c : Nat) (l : List ByteArray) (w : World)
    (hr : Kd.C Kd.string w A l.length l) (hl : l.length ≤ 9223372036854775807) (hcall : StrPred Try.prog f lb p l w) :
    Calls Try.prog 78 #[.slice A l.length c, .func (.func f) #[] lb] w fun e w' => e = .returned (.bool (l.any p)) ∧ Below w.heap.size w w' := by
  have HC := Aside0.mk (IndexFunc_str f lb ef p A c l w hr hl hcall)
  have HE := Aside0.mk (idxI_any p l)
  clear hr hcall
  generalize idxI p l = i at HC HE
  generalize l.any p = b at HE ⊢
  have e := HE.out
  subst e
  clear HE
  go_enter Try.func78, Try.ntmps78
  go_wp2_with fail
  refine HC.out.mono ?_
  rintro e w2 ⟨rfl, hb⟩
  have HBX := Aside0.mk hb
  clear hb
  go_wp2
  go_ret
  exact ⟨rfl, HBX.out⟩
/-- Are two texts one but for the letters' case? -/
def foldE (a b : ByteArray) : Bool := decide ((bytesOf a).map lowB = (bytesOf b).map lowB)
theorem foldE_iff (a b : ByteArray) : foldE a b = true ↔ a.size = b.size ∧ ∀ j : Nat, j < a.size → lowB (bt a (j : Int)) = lowB (bt b (j : Int)) := by
  unfold foldE
  rw [decide_eq_true_eq]
  constructor
  · intro h
    have hl := congrArg List.length h
    simp only [List.length_map, bytesOf_length] at hl
    refine ⟨hl, fun j hj => ?_⟩
    have h1 := congrArg (fun l => l[j]?) h
    simp only [List.getElem?_map, bytesOf_get a j hj, bytesOf_get b j (by omega), Option.map_some, Option.some.injEq] at h1
    exact h1
  · rintro ⟨hl, h⟩
    apply List.ext_getElem?
    intro j
    by_cases hj : j < a.size
    · rw [List.getElem?_map, List.getElem?_map, bytesOf_get a j hj, bytesOf_get b j (by omega), Option.map_some, Option.map_some, h j hj]
    · rw [List.getElem?_eq_none (by rw [List.length_map, bytesOf_length]; omega), List.getElem?_eq_none (by rw [List.length_map, bytesOf_length]; omega)]
theorem fold_loop (a b : ByteArray) (hl : a.size = b.size) (hm : a.size ≤ 9223372036854775807) : ∀ (d k i : Nat), a.size - i = d → i ≤ a.size → d < k →
    ∃ r, octet_Fold.l0 k a b (a.size : Int) (i : Int) = some r ∧ (r = true ↔ ∀ j : Nat, i ≤ j → j < a.size → lowB (bt a (j : Int)) = lowB (bt b (j : Int)))
  | 0, k, i, hd, hi, hk => by
    obtain ⟨k, rfl⟩ : ∃ m, k = m + 1 := ⟨k - 1, by omega⟩
    refine ⟨true, ?_, by simp; intro j h1 h2; omega⟩
    simp only [octet_Fold.l0]
    rw [if_neg (by omega)]
  | d + 1, k, i, hd, hi, hk => by
    obtain ⟨k, rfl⟩ : ∃ m, k = m + 1 := ⟨k - 1, by omega⟩
    simp only [octet_Fold.l0]
    rw [if_pos (by omega), if_pos (by omega), if_pos (by omega), lowB_f]
    simp only [Option.bind_some]
    rw [if_pos (by omega), lowB_f]
    simp only [Option.bind_some]
    by_cases he : lowB (bt a (i : Int)) = lowB (bt b (i : Int))
    · rw [if_pos he]
      obtain ⟨r, hr, hrr⟩ := fold_loop a b hl hm d k (i + 1) (by omega) (by omega) (by omega)
      refine ⟨r, ?_, hrr.trans ⟨fun h j h1 h2 => ?_, fun h j h1 h2 => h j (by omega) h2⟩⟩
      · rw [show wrap64 ((i : Int) + 1) = ((i + 1 : Nat) : Int) by unfold wrap64; omega]
        exact hr
      · by_cases e : j = i
        · subst e; exact he
        · exact h j (by omega) h2
    · rw [if_neg he]
      exact ⟨false, rfl, by simp; exact ⟨i, Nat.le_refl _, by omega, he⟩⟩
theorem fold_plain (a b : ByteArray) (hm : a.size ≤ 9223372036854775807) : octet_Fold.f (a.size + 1) a b = some (foldE a b) := by
  unfold octet_Fold.f
  by_cases hl : a.size = b.size
  · rw [if_pos (by omega)]
    obtain ⟨r, hr, hrr⟩ := fold_loop a b hl hm a.size (a.size + 1) 0 (by omega) (by omega) (by omega)
    have e : r = foldE a b := by
      rw [Bool.eq_iff_iff, hrr, foldE_iff]
      exact ⟨fun h => ⟨hl, fun j hj => h j (by omega) hj⟩, fun h j _ hj => h.2 j hj⟩
    rw [← e]
    exact hr
  · rw [if_neg (by omega)]
    have : foldE a b = false := by rw [Bool.eq_false_iff, ne_eq, foldE_iff]; exact fun h => hl h.1
    rw [this]
theorem Fold_any (a b : ByteArray) (hm : a.size ≤ 9223372036854775807) (w : World) :
    Calls Try.prog 115 #[.string a, .string b] w fun e w' => e = .returned (.bool (foldE a b)) ∧ Drawn0 w w' :=
  octet_Fold.calls _ a b _ w (fold_plain a b hm)
end Go.Proofs.Ytjnhghplfdiijaa.Q

namespace Go.Proofs.Ytjnhghplfdiijaa.Q
open Go.RowKit Go.Proofs.YtjnhghplfdiijaaW.PrintWords Go.Proofs.YtjnhghplfdiijaaW.PrintLast Go.Proofs.YtjnhghplfdiijaaW.PrintMore Go.Lib Go.Shelf
set_option linter.unusedVariables false
set_option linter.unusedSimpArgs false
theorem named_inner (x : ByteArray) (B : Nat) (n : ByteArray) (hn : n.size ≤ 9223372036854775807) (W : World) (hc : W.cell? ⟨B, 0, none⟩ = some (.string x)) :
    Calls Try.prog 190 #[.string n, .pointer (some ⟨B, 0, none⟩)] W fun e w' => e = .returned (.bool (foldE n x)) ∧ Below W.heap.size W w' := by
  have HF := Aside0.mk (Fold_any n x hn W)
  go_enter Try.func190, Try.ntmps190
  go_wp2_with fail
  refine HF.out.mono ?_
  rintro e w1 ⟨rfl, hd⟩
  have HD := Aside0.mk hd
  clear hd
  go_wp2
  go_ret
  exact ⟨rfl, HD.out.below⟩
/-- Has a field one of some names? -/
def namedB (names : List ByteArray) (x : ByteArray) : Bool := names.any fun n => foldE n x
set_option maxHeartbeats 1000000 in
theorem named_pred (names : List ByteArray) (hn : ∀ n ∈ names, n.size ≤ 9223372036854775807) (hl : names.length ≤ 9223372036854775807) (x y : ByteArray) (Bn : Nat) (A : Option Addr) (c : Nat) (W : World)
    (hb : W.cell? ⟨Bn, 0, none⟩ = some (.slice A names.length c)) (hr : Kd.C Kd.string W A names.length names) :
    Calls Try.prog 189 #[.agg #[.string x, .string y], .pointer (some ⟨Bn, 0, none⟩)] W fun e w' => e = .returned (.bool (namedB names x)) ∧ Below W.heap.size W w' := by
  have hblt := World.block_lt_of_cell? W _ hb
  have HC : Aside0 (∀ W1, Below W.heap.size W W1 → W1.cell? ⟨W.heap.size, 0, none⟩ = some (.string x) → W.heap.size < W1.heap.size → Calls Try.prog 78 #[.slice A names.length c, .func (.func 190) #[] #[.pointer (some ⟨W.heap.size, 0, none⟩)]] W1 fun e w' => e = .returned (.bool (namedB names x)) ∧ Below W1.heap.size W1 w') := ⟨fun W1 h1 h2 h3 => by
    have := ContainsFunc_str 190 #[.pointer (some ⟨W.heap.size, 0, none⟩)] (enters_of Try.func190 (by kernel_rfl) rfl) (fun n => foldE n x) A c names W1 (Kd.C_below hr h1) hl (fun n W2 hm hb2 => named_inner x W.heap.size n (hn n hm) W2 ((hb2.cell (p := ⟨W.heap.size, 0, none⟩) h3).trans h2))
    exact this⟩
  clear hr
  go_enter Try.func189, Try.ntmps189
  go_wp2_with fail
  refine (HC.out _ ((Below.refl _ _).alloc (Nat.le_refl _) _) (by first | (go_simp; done) | (go_simp; rfl)) (by simp)).mono ?_
  rintro e w1 ⟨rfl, hd⟩
  have HD := Aside0.mk hd
  clear hd
  go_wp2
  go_ret
  exact ⟨rfl, ((Below.refl _ _).alloc (Nat.le_refl _) _).trans (HD.out.mono (by simp))⟩
theorem named_new (A : Option Addr) (n c : Nat) (w : World) :
    Calls Try.prog 161 #[.slice A n c] w fun e w' => e = .returned (.func (.func 189) #[] #[.pointer (some ⟨w.heap.size, 0, none⟩)]) ∧ w.alloc (.cells #[.slice A n c] 93) = w' := by
  go_enter Try.func161, Try.ntmps161
  go_wp2
  go_ret
  exact ⟨rfl, rfl⟩
theorem Kd.C_one_string {w : World} {b : Nat} {x : ByteArray} (h : w.cell? ⟨b, 0, none⟩ = some (.string x)) : Kd.C Kd.string w (some ⟨b, 0, none⟩) 1 [x] := by
  refine Kd.C_of_reads (d := ByteArray.empty) (h1 := fun _ => rfl) ⟨rfl, by simp, fun _ => ⟨_, rfl, fun j hj => ?_⟩⟩
  obtain rfl : j = 0 := by omega
  exact h
def header_All.f (l : List S60) (name : ByteArray) : Option (List ByteArray) :=
  if name.size ≤ 9223372036854775807 ∧ l.length ≤ 8796093022207 then some ((l.filter fun f => foldE name f.f0).map fun f => f.f1) else none
set_option maxHeartbeats 4000000 in
theorem header_All.calls (A0 : Option Addr) (c0 : Nat) (l0 : List S60) (a1 : ByteArray) (r : List ByteArray) (w : World) (hr0 : Kd.C k60 w A0 l0.length l0) (hc0 : l0.length ≤ c0) (h : header_All.f l0 a1 = some r) :
    Calls Try.prog 116 #[.slice A0 l0.length c0, .string a1] w fun e w' => ∃ v0_ : Value, e = .returned v0_ ∧ Kd.R Kd.string 9 w' w.heap.size (fun _ => True) v0_ r ∧ Below w.heap.size w w' := by
  have hs : a1.size ≤ 9223372036854775807 ∧ l0.length ≤ 8796093022207 := by
    unfold header_All.f at h
    split at h
    · assumption
    · cases h
  unfold header_All.f at h
  rw [if_pos hs] at h
  have HH := Aside0.mk (Option.some.inj h)
  clear h
  have HR0 := Aside0.mk hr0
  have HC0 := Aside0.mk hc0
  clear hr0 hc0
  have HS := Aside0.mk hs
  have hl := hs.2
  clear hs
  go_enter Try.func116, Try.ntmps116
  go_wp2_with (go_at_call 161; refine (named_new _ _ _ _).mono ?_; rintro e w' ⟨rfl, rfl⟩)
  obtain ⟨W0, hW0⟩ : ∃ W0, (w.alloc (Obj.cells #[Value.string a1] 9)).alloc (Obj.cells #[Value.slice (some ⟨w.heap.size, 0, none⟩) 1 1] 93) = W0 := ⟨_, rfl⟩
  have hz : W0.heap.size = w.heap.size + 2 := by rw [← hW0]; simp
  have hb0 : Below w.heap.size w W0 := by rw [← hW0]; exact ((Below.refl _ _).alloc (Nat.le_refl _) _).alloc (by simp) _
  have hc1 : W0.cell? ⟨w.heap.size + 1, 0, none⟩ = some (.slice (some ⟨w.heap.size, 0, none⟩) 1 1) := by rw [← hW0]; have := blk_cell (blk_new (w.alloc (Obj.cells #[Value.string a1] 9)) (Obj.cells #[Value.slice (some ⟨w.heap.size, 0, none⟩) 1 1] 93)) 0; rw [World.size_alloc] at this; exact this.trans rfl
  have hc2 : W0.cell? ⟨w.heap.size, 0, none⟩ = some (.string a1) := by rw [← hW0]; exact (((Below.refl _ _).alloc (Nat.le_refl _) _).cell (p := ⟨w.heap.size, 0, none⟩) (by simp)).trans ((blk_cell (blk_new w _) 0).trans rfl)
  have HF0 := Aside0.mk (And.intro hz (And.intro hb0 (And.intro hc1 hc2)))
  rw [hW0]
  clear hW0 hz hb0 hc1 hc2
  go_loopg [6, 14] l0.length (fun gg v i wr => ∃ (k : Nat) (xs : List ByteArray), k ≤ l0.length ∧ l0.length - k ≤ gg ∧ i = .int .i64 k ∧ Aside0 (xs = ((l0.take k).filter fun f => foldE a1 f.f0).map fun f => f.f1) ∧ Aside0 (Kd.R Kd.string 9 wr (w.heap.size + 2) (fun _ => True) v xs) ∧ Aside0 (Below (w.heap.size + 2) W0 wr))
  case atStart => exact ⟨0, [], Nat.zero_le _, by omega, rfl, ⟨rfl⟩, ⟨Kd.R_nil _ _ _ _ _⟩, ⟨Below.refl _ _⟩⟩
  case round =>
    obtain ⟨k, xs, hk, hgg, rfl, HX, HO, HB⟩ := hrel
    have HBw : Aside0 (Below w.heap.size w wr) := ⟨HF0.out.2.1.trans (HB.out.mono (by omega))⟩
    by_cases hlt : k < l0.length
    · obtain ⟨ad, e, hq0, hq1⟩ := at_T60 (Kd.C_below HR0.out HBw.out) (k : Int) (by omega) (by omega)
      subst e
      have hget : rd_T60 l0 (k : Int) = l0[k] := by simp [rd_T60, hlt]
      rw [hget] at hq0 hq1
      have HK := Aside0.mk (List.getElem?_eq_getElem hlt)
      clear hget
      generalize l0[k] = y at hq0 hq1 HK
      have hq2 : wr.cell? (ad.add (k * 2)) = some (.string y.f0) := hq0
      have hq3 : wr.cell? ⟨(ad.add (k * 2)).block, (ad.add (k * 2)).off + 1, none⟩ = some (.string y.f1) := hq1
      clear hq0 hq1
      have HP : Aside0 (Calls Try.prog 189 #[.agg #[.string y.f0, .string y.f1], .pointer (some ⟨w.heap.size + 1, 0, none⟩)] (wr.alloc (Obj.cells #[Value.string y.f0, Value.string y.f1] 60)) fun e w' => e = .returned (.bool (foldE a1 y.f0)) ∧ Below (wr.alloc (Obj.cells #[Value.string y.f0, Value.string y.f1] 60)).heap.size (wr.alloc (Obj.cells #[Value.string y.f0, Value.string y.f1] 60)) w') := ⟨by
        have hba : Below (w.heap.size + 2) W0 (wr.alloc (Obj.cells #[Value.string y.f0, Value.string y.f1] 60)) := HB.out.alloc (by have := HB.out.size; have := HF0.out.1; omega) _
        have k1 := (hba.cell (p := ⟨w.heap.size + 1, 0, none⟩) (by simp)).trans HF0.out.2.2.1
        have k2 := (hba.cell (p := ⟨w.heap.size, 0, none⟩) (by simp)).trans HF0.out.2.2.2
        have := named_pred [a1] (fun n hn => by simp at hn; subst hn; exact HS.out.1) (by simp) y.f0 y.f1 (w.heap.size + 1) (some ⟨w.heap.size, 0, none⟩) 1 _ k1 (Kd.C_one_string k2)
        simpa [namedB] using this⟩
      cases hq : foldE a1 y.f0 with
      | true =>
        rw [hq] at HP
        have HQ := Aside0.mk hq
        clear hq
        have HSZ := Aside0.mk (And.intro HB.out.size HF0.out.1)
        go_wp2_with fail
        refine HP.out.mono ?_
        rintro e w2 ⟨rfl, hb⟩
        have hx1 : w2.cell? ⟨wr.heap.size, 1, none⟩ = some (.string y.f1) := (hb.cell (p := ⟨wr.heap.size, 1, none⟩) (by simp)).trans ((blk_cell (blk_new wr _) 1).trans rfl)
        have HBX := Aside0.mk hb
        clear hb
        have HO2 := Aside0.mk (Kd.R_below (Kd.R_alloc HO.out _) HBX.out)
        have HB2 : Aside0 (Below (w.heap.size + 2) W0 w2) := ⟨(HB.out.alloc (by have := HSZ.out; omega) _).trans (HBX.out.mono (by have := HSZ.out; simp; omega))⟩
        have hxl : Aside0 (xs.length ≤ k) := ⟨by rw [HX.out, List.length_map]; exact Nat.le_trans (List.length_filter_le _ _) (List.length_take_le _ _)⟩
        go_wp2_with ((with_reducible refine gate_builtin (b := .append) (xs := #[.tmp 21, .tmp 24]) rfl ?_); at_builtin; refine Kd.R_append Kd.string (w0 := W0) (w.heap.size + 2) rfl (.tmp 21) (.tmp 24) 93 9 (.string ⟨#[]⟩) 16 rfl Try.underlying93 info9 rfl (by decide) (by omega) u6 xs y.f1 [.string y.f1] (fun _ => True) (fun _ => False) rfl rfl ?aP (fun _ hk => hk.elim) ?aF ?aO ?aB ?aS ?aL ?_; (case aP => exact rfl); (case aB => exact HB2.out); (case aF => exact (fun _ _ => trivial)); (case aO => exact HO2.out); (case aS => have := HB2.out.size; have := HSZ.out; omega); (case aL => have := hxl.out; omega); intro v1 w3 ho hb hg hat; have HO3 := Aside0.mk ho; have HB3 := Aside0.mk hb; clear ho hb hg hat)
        go_roundg (gk - 1)
        case measure => omega
        case rel =>
          refine ⟨k + 1, xs ++ [y.f1], by omega, by omega, by go_num, ⟨?_⟩, HO3, HB3⟩
          rw [HX.out, List.take_add_one, HK.out]
          simp [HQ.out]
      | false =>
        rw [hq] at HP
        have HQ := Aside0.mk hq
        clear hq
        go_wp2_with fail
        refine HP.out.mono ?_
        rintro e w2 ⟨rfl, hb⟩
        have HBX := Aside0.mk hb
        clear hb
        go_wp2
        go_roundg (gk - 1)
        case measure => omega
        case rel =>
          refine ⟨k + 1, xs, by omega, by omega, by go_num, ⟨?_⟩, ⟨?_⟩, ⟨?_⟩⟩
          · rw [HX.out, List.take_add_one, HK.out]
            simp [HQ.out]
          · exact Kd.R_below (Kd.R_alloc HO.out _) HBX.out
          · exact (HB.out.alloc (by have := HB.out.size; have := HF0.out.1; omega) _).trans (HBX.out.mono (by have := HB.out.size; have := HF0.out.1; simp; omega))
    · go_wp2
      refine bodyPost_ret (v := u6) (by simp [results, Try.results116, go_sem]) rfl ⟨u6, rfl, ?_, HBw.out⟩
      have e : l0.take k = l0 := List.take_of_length_le (by omega)
      rw [← HH.out, ← e, ← HX.out]
      exact Kd.R_lower HO.out (by omega)
end Go.Proofs.Ytjnhghplfdiijaa.Q

namespace Go.Proofs
open Go.Shelf
def Try.lays156_ren : Go.Shelf.Ren := ⟨fun | 156 => 143 | 165 => 177 | 166 => 178 | 169 => 179 | 240 => 192 | 241 => 193 | 276 => 199 | 277 => 200 | n => n, fun | 31 => 93 | 9 => 9 | 3 => 3 | 4 => 4 | 0 => 0 | 20 => 20 | 72 => 180 | 76 => 184 | 70 => 178 | 37 => 149 | 75 => 183 | 127 => 192 | 164 => 201 | 5 => 5 | 80 => 152 | n => n, fun | n => n⟩
theorem Try.lays156 : Go.Proofs.Lays.n156 Try.prog Try.lays156_ren := {
  mixed := by kernel_rfl
  f156 := Try.func143.trans (congrArg some (by kernel_rfl))
  f165 := Try.func177.trans (congrArg some (by kernel_rfl))
  f166 := Try.func178.trans (congrArg some (by kernel_rfl))
  f169 := Try.func179.trans (congrArg some (by kernel_rfl))
  f240 := Try.func192.trans (congrArg some (by kernel_rfl))
  f241 := Try.func193.trans (congrArg some (by kernel_rfl))
  f276 := Try.func199.trans (congrArg some (by kernel_rfl))
  f277 := Try.func200.trans (congrArg some (by kernel_rfl))
  t0 := Try.underlying0
  a0 := Try.isAgg0
  z0 := Try.sizeOf0
  v0 := Try.zeroValue0
  t3 := Try.underlying3
  a3 := Try.isAgg3
  z3 := Try.sizeOf3
  v3 := Try.zeroValue3
  t4 := Try.underlying4
  a4 := Try.isAgg4
  z4 := Try.sizeOf4
  v4 := Try.zeroValue4
  t9 := Try.underlying9
  a9 := Try.isAgg9
  z9 := Try.sizeOf9
  v9 := Try.zeroValue9
  t20 := Try.underlying20
  a20 := Try.isAgg20
  z20 := Try.sizeOf20
  v20 := Try.zeroValue20
  t31 := Try.underlying93
  a31 := Try.isAgg93
  z31 := Try.sizeOf93
  v31 := Try.zeroValue93
  t37 := Try.underlying149
  a37 := Try.isAgg149
  z37 := Try.sizeOf149
  v37 := Try.zeroValue149
  t70 := Try.underlying178
  a70 := Try.isAgg178
  z70 := Try.sizeOf178
  v70 := Try.zeroValue178
  t72 := Try.underlying180
  a72 := Try.isAgg180
  z72 := Try.sizeOf180
  v72 := Try.zeroValue180
  t75 := Try.underlying183
  a75 := Try.isAgg183
  z75 := Try.sizeOf183
  v75 := Try.zeroValue183
  t76 := Try.underlying184
  a76 := Try.isAgg184
  z76 := Try.sizeOf184
  v76 := Try.zeroValue184
  t127 := Try.underlying192
  a127 := Try.isAgg192
  z127 := Try.sizeOf192
  v127 := Try.zeroValue192
  t164 := Try.underlying201
  a164 := Try.isAgg201
  z164 := Try.sizeOf201
  v164 := Try.zeroValue201 }
theorem Try.Builder_Extra_156 : Builder.Extra Try.prog Try.lays156_ren := {
  sizeBuilder := by kernel_rfl
  liesBuilder := by kernel_rfl
  t5 := Try.underlying5
  a5 := Try.isAgg5
  z5 := Try.sizeOf5
  v5 := Try.zeroValue5
  infoByte := by kernel_rfl
  cellsByte := by kernel_rfl
  sizeByte := by kernel_rfl
  neB5 := by decide }
open Go.RowKit in
/-- No element: the empty string; the world is as it was. (Whatever the slice's address and capacity: a nil slice too.) (LAID: no walk: one application.) -/
theorem Try.strings_Join_none (a : Option Addr) (c : Nat) (sep : ByteArray) (w : World) :
    Calls Try.prog 143 #[.slice a 0 c, .string sep] w fun e w' => e = .returned (.string ⟨#[]⟩) ∧ w' = w := Any.strings_Join_none Try.lays156 Try.Builder_Extra_156 a c sep w
open Go.RowKit in
/-- strings.Join: "Join concatenates the elements of its first argument to create a single string. The separator string sep is placed between elements in the resulting string.": HOWEVER MANY ELEMENTS. Below the heap's end the world is as it was. (LAID: no walk: one application.) -/
theorem Try.strings_Join (bk o c : Nat) (xs : List ByteArray) (sep : ByteArray) (w : World) (hcells : ∀ (j : Nat) x, xs[j]? = some x → w.cell? ⟨bk, o + j, none⟩ = some (.string x)) (hbk : bk < w.heap.size) (hN : xs.length ≤ 140737488355328) (hcap : xs.length ≤ c) (hlen : (Lib.join (xs.map (·.data.toList)) sep.data.toList).length ≤ 140737488355328) :
    Calls Try.prog 143 #[.slice (some ⟨bk, o, none⟩) xs.length c, .string sep] w fun e w' => e = .returned (.string ⟨(Lib.join (xs.map (·.data.toList)) sep.data.toList).toArray⟩) ∧ Below w.heap.size w w' := Any.strings_Join Try.lays156 Try.Builder_Extra_156 bk o c xs sep w hcells hbk hN hcap hlen
end Go.Proofs

namespace Go.Proofs.Ytjnhghplfdiijaa.Q
open Go.RowKit Go.Proofs.YtjnhghplfdiijaaW.PrintWords Go.Proofs.YtjnhghplfdiijaaW.PrintLast Go.Proofs.YtjnhghplfdiijaaW.PrintMore Go.Lib Go.Shelf
set_option linter.unusedVariables false
set_option linter.unusedSimpArgs false
/-- Texts with comma and blank between, as octets. -/
def joinL (l : List ByteArray) : List UInt8 := Lib.join (l.map (·.data.toList)) [44, 32]
def joinS (l : List ByteArray) : ByteArray := ⟨(joinL l).toArray⟩
def lists_Join.f (l : List ByteArray) : Option ByteArray := if l.length ≤ 140737488355328 ∧ (joinL l).length ≤ 140737488355328 then some (joinS l) else none
theorem C_strings {w : World} {A : Option Addr} {l : List ByteArray} (h : Kd.C Kd.string w A l.length l) (h0 : 0 < l.length) : ∃ bk o, A = some ⟨bk, o, none⟩ ∧ bk < w.heap.size ∧ ∀ (j : Nat) x, l[j]? = some x → w.cell? ⟨bk, o + j, none⟩ = some (.string x) := by
  obtain ⟨ad, e, hc⟩ := Kd.at_string h 0 (by omega) (by omega)
  have hs : ad.spot = none := by
    have h1 : ad.add (0 : Int).toNat = ad := by simp [Addr.add]
    rw [h1] at hc
    unfold World.cell? at hc
    split at hc
    · split at hc
      · cases hc
      · rename_i hsp
        cases hsp2 : ad.spot with
        | none => rfl
        | some x => rw [hsp2] at hsp; simp at hsp
    · cases hc
  obtain ⟨bk, o, sp⟩ := ad
  simp only at hs
  subst hs
  have hadd : ∀ j, (⟨bk, o, none⟩ : Addr).add j = ⟨bk, o + j, none⟩ := fun j => by unfold Addr.add; split <;> simp_all
  refine ⟨bk, o, e, ?_, fun j x hj => ?_⟩
  · have := World.block_lt_of_cell? w _ hc
    rw [hadd] at this
    exact this
  · have hlt := (List.getElem?_eq_some_iff.1 hj).1
    obtain ⟨ad2, e2, hc2⟩ := Kd.at_string h (j : Int) (by omega) (by omega)
    rw [e] at e2
    injection e2 with e2
    subst e2
    rw [hadd] at hc2
    have hx : rdOf ByteArray.empty l (j : Int) = x := by
      have := (List.getElem?_eq_some_iff.1 hj).2
      simp [rdOf, hlt, this]
    rw [hx] at hc2
    exact hc2
theorem lists_Join.calls (A0 : Option Addr) (c0 : Nat) (l0 : List ByteArray) (r : ByteArray) (w : World) (hr0 : Kd.C Kd.string w A0 l0.length l0) (hc0 : l0.length ≤ c0) (h : lists_Join.f l0 = some r) :
    Calls Try.prog 90 #[.slice A0 l0.length c0] w fun e w' => e = .returned (.string r) ∧ Below w.heap.size w w' := by
  unfold lists_Join.f at h
  split at h
  · rename_i hs
    have e := Option.some.inj h
    subst e
    clear h
    by_cases h0 : 0 < l0.length
    · obtain ⟨bk, o, e, hbk, hcells⟩ := C_strings hr0 h0
      subst e
      have HJ := Aside0.mk (Try.strings_Join bk o c0 l0 ⟨#[44, 32]⟩ w hcells hbk hs.1 hc0 hs.2)
      clear hr0 hcells hs
      go_enter Try.func90, Try.ntmps90
      go_wp2_with fail
      refine HJ.out.mono ?_
      rintro e w2 ⟨rfl, hb⟩
      have HBX := Aside0.mk hb
      clear hb
      go_wp2
      go_ret
      exact ⟨rfl, HBX.out⟩
    · obtain rfl : l0 = [] := List.eq_nil_of_length_eq_zero (by omega)
      have HJ := Aside0.mk (Try.strings_Join_none A0 c0 ⟨#[44, 32]⟩ w)
      clear hr0 hs
      go_enter Try.func90, Try.ntmps90
      go_wp2_with fail
      refine HJ.out.mono ?_
      rintro e w2 ⟨rfl, e2⟩
      subst e2
      go_wp2
      go_ret
      exact ⟨rfl, Below.refl _ _⟩
  · cases h
end Go.Proofs.Ytjnhghplfdiijaa.Q

namespace Go.Proofs.Ytjnhghplfdiijaa.Q
open Go.RowKit Go.Proofs.YtjnhghplfdiijaaW.PrintWords Go.Proofs.YtjnhghplfdiijaaW.PrintLast Go.Proofs.YtjnhghplfdiijaaW.PrintMore
attribute [local go_sem] max2_int min2_int max_two min_two max_three min_three max_four min_four
set_option linter.unusedVariables false
set_option linter.unusedSimpArgs false
def header_Combined.f (l0 : List (S60)) (a1 : ByteArray) : Option (ByteArray × Bool) := (header_All.f l0 a1).bind fun t101 => ((lists_Join.f t101).bind fun t104 => (some (t104, decide ((t101.length : Int) > 0))))
set_option maxHeartbeats 8000000 in
set_option maxRecDepth 100000 in
theorem header_Combined.calls (A0 : Option Addr) (c0 : Nat) (l0 : List (S60)) (a1 : ByteArray) (r1 : ByteArray) (r2 : Bool) (w : World) (hr0 : Kd.C k60 w A0 l0.length l0) (hc0 : l0.length ≤ c0) (h : header_Combined.f l0 a1 = some (r1, r2)) :
    Calls Try.prog 72 #[.slice A0 l0.length c0, .string a1] w fun e w' => e = .returned (.tuple #[.string r1, .bool r2]) ∧ Below w.heap.size w w' := by
  have HR0 := Aside0.mk hr0
  have HC0 := Aside0.mk hc0
  clear hr0 hc0
  have HB := Aside0.mk (Below.refl w.heap.size w)
  have H : ((header_All.f l0 a1).bind fun t101 => ((lists_Join.f t101).bind fun t104 => (some (t104, decide ((t101.length : Int) > 0))))) = some (r1, r2) := h
  clear h
  replace H := Option.bind_eq_some_iff.mp H
  obtain ⟨t101, A30, H⟩ := H
  (try dsimp only at H)
  have A3 := Aside0.mk A30
  clear A30
  replace H := Option.bind_eq_some_iff.mp H
  obtain ⟨t104, A40, H⟩ := H
  (try dsimp only at H)
  have A4 := Aside0.mk A40
  clear A40
  simp only [Option.some.injEq, Prod.mk.injEq] at H
  obtain ⟨rfl, rfl⟩ := H
  go_enter Try.func72, Try.ntmps72
  go_wp2_with (first | ((with_reducible refine gate_callee (f := 116) rfl ?_); refine goesL_ (some 9) rfl rfl Try.func116 (by kernel_rfl) rfl #[.slice A0 l0.length c0, .string a1] rfl (by (try simp only [List.map_toArray, List.map_cons, List.map_nil]); first | done | rfl | (simp only [List.length_drop, List.length_take]; rfl)) ?_; (with_reducible refine (header_All.calls _ _ l0 a1 t101 _ ?side1 ?side2 A3.out).mono ?_); (case side1 => repeat (first | exact HR0.out | (with_reducible refine Kd.C_alloc ?_ _) | (with_reducible refine Kd.C_drewN ?_ _) | (with_reducible refine Kd.C_drew ?_))); (case side2 => exact HC0.out); rintro e w5 ⟨v102, rfl, ho0, hb⟩; refine ⟨_, rfl, ?_⟩; have n0_ := Aside0.mk (Kd.R_lower ho0 (below_size (by repeat (first | (with_reducible first | exact HB.out | apply below_alloc | apply pw_below_drewN | apply below_drew1) | exact HB.out)))); have n1_ := Aside0.mk (below_step (by repeat (first | (with_reducible first | exact HB.out | apply below_alloc | apply pw_below_drewN | apply below_drew1) | exact HB.out)) hb); clear HB; have HO103 := n0_; have HB := n1_; clear n0_ n1_; (try clear hb); (try clear hb2); (try clear hk); (try clear hi); (try clear ho0); obtain ⟨Ao6, co6, eo6⟩ := Kd.R_slice HO103.out; subst eo6) | ((with_reducible refine gate_callee (f := 90) rfl ?_); refine goesL_ (some 11) rfl rfl Try.func90 (by kernel_rfl) rfl #[.slice Ao6 t101.length co6] rfl (by (try simp only [List.map_toArray, List.map_cons, List.map_nil]); first | done | rfl | (simp only [List.length_drop, List.length_take]; rfl)) ?_; (with_reducible refine (lists_Join.calls _ _ t101 t104 _ ?side1 ?side2 A4.out).mono ?_); (case side1 => repeat (first | exact (Kd.R_reads' HO103.out).2.2 | (with_reducible refine Kd.C_alloc ?_ _) | (with_reducible refine Kd.C_drewN ?_ _) | (with_reducible refine Kd.C_drew ?_))); (case side2 => exact (Kd.R_reads' HO103.out).2.1); rintro e w7 ⟨rfl, hb⟩; refine ⟨_, rfl, ?_⟩; have n0_ := Aside0.mk (Kd.R_below (by (with_reducible repeat (first | apply Kd.R_alloc | apply Kd.R_drewN | apply Kd.R_drew)); exact HO103.out) hb); have n1_ := Aside0.mk (below_step (by repeat (first | (with_reducible first | exact HB.out | apply below_alloc | apply pw_below_drewN | apply below_drew1) | exact HB.out)) hb); clear HO103; clear HB; have HO103 := n0_; have HB := n1_; clear n0_ n1_; (try clear hb); (try clear hb2); (try clear hk); (try clear hi)))
  go_ret2
  exact ⟨by first | rfl | (simp [errW_none, errW_some] <;> rfl) | (simp [*, errW_none, errW_some] <;> rfl), by repeat (first | (with_reducible first | exact HB.out | apply below_alloc | apply pw_below_drewN | apply below_drew1) | exact HB.out)⟩
end Go.Proofs.Ytjnhghplfdiijaa.Q

namespace Go.Proofs.Ytjnhghplfdiijaa.Q
open Go.RowKit Go.Proofs.YtjnhghplfdiijaaW.PrintWords Go.Proofs.YtjnhghplfdiijaaW.PrintLast Go.Proofs.YtjnhghplfdiijaaW.PrintMore
attribute [local go_sem] max2_int min2_int max_two min_two max_three min_three max_four min_four
set_option linter.unusedVariables false
set_option linter.unusedSimpArgs false
def abutmentref10_Is.f (k : Nat) (a0 : ByteArray) (a1 : ByteArray) : Option (Bool) := (abutmentref01_Lower.f k a0).bind fun t101 => ((abutmentref01_Lower.f k a1).bind fun t102 => (some (t101.toList == t102.toList)))
set_option maxHeartbeats 8000000 in
set_option maxRecDepth 100000 in
theorem abutmentref10_Is.calls (k : Nat) (a0 : ByteArray) (a1 : ByteArray) (r : Bool) (w : World) (h : abutmentref10_Is.f k a0 a1 = some r) :
    Calls Try.prog 169 #[.string a0, .string a1] w fun e w' => e = .returned (.bool r) ∧ Below w.heap.size w w' := by
  have HB := Aside0.mk (Below.refl w.heap.size w)
  have H : ((abutmentref01_Lower.f k a0).bind fun t101 => ((abutmentref01_Lower.f k a1).bind fun t102 => (some (t101.toList == t102.toList)))) = some r := h
  clear h
  replace H := Option.bind_eq_some_iff.mp H
  obtain ⟨t101, A30, H⟩ := H
  (try dsimp only at H)
  have A3 := Aside0.mk A30
  clear A30
  replace H := Option.bind_eq_some_iff.mp H
  obtain ⟨t102, A40, H⟩ := H
  (try dsimp only at H)
  have A4 := Aside0.mk A40
  clear A40
  obtain rfl := Option.some.inj H
  go_enter Try.func169, Try.ntmps169
  go_wp2_with (first | ((with_reducible refine gate_callee (f := 83) rfl ?_); refine goesL_ (some 6) rfl rfl Try.func83 (by kernel_rfl) rfl #[.string a0] rfl (by (try simp only [List.map_toArray, List.map_cons, List.map_nil]); first | done | rfl | (simp only [List.length_drop, List.length_take]; rfl)) ?_; (with_reducible refine (abutmentref01_Lower.calls k a0 t101 _ A3.out).mono ?_); rintro e w5 ⟨rfl, hb⟩; refine ⟨_, rfl, ?_⟩; have n0_ := Aside0.mk (below_step (by repeat (first | (with_reducible first | exact HB.out | apply below_alloc | apply pw_below_drewN | apply below_drew1) | exact HB.out)) hb); clear HB; have HB := n0_; clear n0_; (try clear hb); (try clear hb2); (try clear hk); (try clear hi)) | ((with_reducible refine gate_callee (f := 83) rfl ?_); refine goesL_ (some 8) rfl rfl Try.func83 (by kernel_rfl) rfl #[.string a1] rfl (by (try simp only [List.map_toArray, List.map_cons, List.map_nil]); first | done | rfl | (simp only [List.length_drop, List.length_take]; rfl)) ?_; (with_reducible refine (abutmentref01_Lower.calls k a1 t102 _ A4.out).mono ?_); rintro e w6 ⟨rfl, hb⟩; refine ⟨_, rfl, ?_⟩; have n0_ := Aside0.mk (below_step (by repeat (first | (with_reducible first | exact HB.out | apply below_alloc | apply pw_below_drewN | apply below_drew1) | exact HB.out)) hb); clear HB; have HB := n0_; clear n0_; (try clear hb); (try clear hb2); (try clear hk); (try clear hi)))
  go_ret
  exact ⟨by first | rfl | (simp [errW_none, errW_some] <;> rfl) | (simp [*, errW_none, errW_some] <;> rfl), by repeat (first | (with_reducible first | exact HB.out | apply below_alloc | apply pw_below_drewN | apply below_drew1) | exact HB.out)⟩
end Go.Proofs.Ytjnhghplfdiijaa.Q

namespace Go.Proofs.Ytjnhghplfdiijaa.Q
open Go.RowKit Go.Proofs.YtjnhghplfdiijaaW.PrintWords Go.Proofs.YtjnhghplfdiijaaW.PrintLast Go.Proofs.YtjnhghplfdiijaaW.PrintMore
attribute [local go_sem] max2_int min2_int max_two min_two max_three min_three max_four min_four
set_option linter.unusedVariables false
set_option linter.unusedSimpArgs false
def abutmentref10_All.l0 : Nat → List (S60) → ByteArray → List ByteArray → Int → Option (List ByteArray)
  | 0, _, _, _, _ => none
  | k + 1, x0, x1, x5, x6 => if x6 < (x0.length : Int) then (if 0 ≤ x6 then ((abutmentref10_Is.f k ((rd_T60 x0 x6).f0) x1).bind fun t105 => (if t105 = true then (if x5.length < 8796093022208 then (abutmentref10_All.l0 k x0 x1 (x5 ++ [(rd_T60 x0 x6).f1]) (wrap64 (x6 + 1))) else (none)) else (abutmentref10_All.l0 k x0 x1 x5 (wrap64 (x6 + 1))))) else (none)) else (some x5)
def abutmentref10_All.f (k : Nat) (l0 : List (S60)) (a1 : ByteArray) : Option (List ByteArray) := abutmentref10_All.l0 k l0 a1 (([] : List ByteArray)) 0
set_option maxHeartbeats 8000000 in
set_option maxRecDepth 100000 in
theorem abutmentref10_All.calls (k : Nat) (A0 : Option Addr) (c0 : Nat) (l0 : List (S60)) (a1 : ByteArray) (r : List ByteArray) (w : World) (hr0 : Kd.C k60 w A0 l0.length l0) (hc0 : l0.length ≤ c0) (h : abutmentref10_All.f k l0 a1 = some r) :
    Calls Try.prog 121 #[.slice A0 l0.length c0, .string a1] w fun e w' => ∃ v0_ : Value, e = .returned (v0_) ∧ Kd.R Kd.string 9 w' w.heap.size (fun _ => True) v0_ r ∧ Below w.heap.size w w' := by
  have HR0 := Aside0.mk hr0
  have HC0 := Aside0.mk hc0
  clear hr0 hc0
  have HB := Aside0.mk (Below.refl w.heap.size w)
  have H : (abutmentref10_All.l0 k l0 a1 (([] : List ByteArray)) 0) = some r := h
  clear h
  obtain ⟨y101, hy101⟩ : ∃ y_ : List ByteArray, y_ = (([] : List ByteArray)) := ⟨_, rfl⟩
  replace H : (abutmentref10_All.l0 k l0 a1 y101 0) = some r := by first | (rw [hy101]; with_reducible exact H) | (have H2_ := (Option.bind_some _ _).symm.trans H; rw [hy101]; with_reducible exact H2_) | (have H2_ := (Option.bind_some _ _).symm.trans H; with_reducible exact H2_) | with_reducible exact H | (rw [hy101]; exact H) | exact H
  have Ny101 := Aside0.mk hy101
  clear hy101
  have H' := Aside0.mk H
  clear H
  go_enter Try.func121, Try.ntmps121
  go_wp2_with (first | ((with_reducible refine gate_dst (N := 7) rfl ?_); refine Kd.R_lit Kd.string _ 9 ?hg (N := 7) ?hd (xs := ([] : List ByteArray)) (inner := []) (ok := fun _ => True) (okp := fun _ => True) ?hr ?hp (fun _ hk => hk) trivial (Below.refl _ _) (Nat.le_refl _) (by simp) ?_; (case hd => rfl); (case hg => rfl); (case hr => first | (go_simp; done) | (go_simp; rfl)); (case hp => exact (Reps.none _ _)); intro v102 w3 ho4 hb hg_ hnew_; clear hg_ hnew_; (first | rw [← Ny101.out] at ho4 | (simp only [Int.reduceToNat] at ho4; rw [← Ny101.out] at ho4)); have n0_ := Aside0.mk (Kd.R_lower ho4 (below_size (by repeat (first | (with_reducible first | exact HB.out | apply below_alloc | apply pw_below_drewN | apply below_drew1) | exact HB.out)))); have n1_ := Aside0.mk (below_step (by repeat (first | (with_reducible first | exact HB.out | apply below_alloc | apply pw_below_drewN | apply below_drew1) | exact HB.out)) hb); clear HB; have HO103 := n0_; have HB := n1_; clear n0_ n1_; clear hb ho4))
  go_loopg [5, 6] k (fun kq v5 v6 w' => ∃ (x5_1 : List ByteArray) (x6_1 : Int), v6 = .int .i64 x6_1 ∧ Aside0 (abutmentref10_All.l0 kq l0 a1 x5_1 x6_1 = some r) ∧ Aside0 (kq ≤ k) ∧ Aside0 (Kd.R Kd.string 9 w' w.heap.size (fun _ => True) v5 x5_1) ∧ Aside0 (Below w.heap.size w w'))
  case atStart => exact ⟨(y101), (0), (by first | rfl | (simp; done) | (simp [*]; done)), H', ⟨Nat.le_refl _⟩, ⟨by (with_reducible repeat (first | apply Kd.R_alloc | apply Kd.R_drewN | apply Kd.R_drew)); exact HO103.out⟩, ⟨by repeat (first | (with_reducible first | exact HB.out | apply below_alloc | apply pw_below_drewN | apply below_drew1) | exact HB.out)⟩⟩
  case round =>
    clear H'
    try clear c1
    try clear p2
    obtain ⟨x5_1, x6_1, rfl, HA, HK1, HO_5, HB⟩ := hrel
    cases gk with
    | zero => exact absurd HA.out (by simp [abutmentref10_All.l0])
    | succ k1 =>
      have H := HA.out
      clear HA
      simp only [abutmentref10_All.l0] at H
      by_cases c5 : x6_1 < (l0.length : Int)
      · rw [if_pos c5] at H
        have c5b0 : decide (x6_1 < (l0.length : Int)) = true := decide_eq_true c5
        clear c5
        by_cases c6 : 0 ≤ x6_1
        · rw [if_pos c6] at H
          have c6b0 : decide (0 ≤ x6_1) = true := decide_eq_true c6
          clear c6
          replace H := Option.bind_eq_some_iff.mp H
          obtain ⟨t105, A70, H⟩ := H
          (try dsimp only at H)
          have A7 := Aside0.mk A70
          clear A70
          by_cases c8 : t105 = true
          · subst c8
            have H1 : (if x5_1.length < 8796093022208 then (abutmentref10_All.l0 k1 l0 a1 (x5_1 ++ [(rd_T60 l0 x6_1).f1]) (wrap64 (x6_1 + 1))) else (none)) = some r := by rw [if_pos rfl] at H; exact H
            clear H
            have H := H1
            clear H1
            by_cases c9 : x5_1.length < 8796093022208
            · rw [if_pos c9] at H
              have LMc9 := Aside0.mk c9
              clear c9
              obtain ⟨y107, hy107⟩ : ∃ y_ : List ByteArray, y_ = (x5_1 ++ [(rd_T60 l0 x6_1).f1]) := ⟨_, rfl⟩
              replace H : (abutmentref10_All.l0 k1 l0 a1 y107 (wrap64 (x6_1 + 1))) = some r := by first | (rw [hy107]; with_reducible exact H) | (have H2_ := (Option.bind_some _ _).symm.trans H; rw [hy107]; with_reducible exact H2_) | (have H2_ := (Option.bind_some _ _).symm.trans H; with_reducible exact H2_) | with_reducible exact H | (rw [hy107]; exact H) | exact H
              have Ny107 := Aside0.mk hy107
              clear hy107
              have H' := Aside0.mk H
              clear H
              have p104 : 0 ≤ (x6_1 : Int) := of_decide_eq_true (by first | (with_reducible assumption) | assumption)
              have q104 : x6_1 < (l0.length : Int) := of_decide_eq_true (by first | (with_reducible assumption) | assumption)
              obtain ⟨ad104, e104, hx104_0, hx104_1⟩ := at_T60 HR0.out x6_1 p104 q104
              cases e104
              replace hx104_0 := (HB.out.cell (World.block_lt_of_cell? w _ hx104_0)).trans hx104_0
              replace hx104_1 := (HB.out.cell (World.block_lt_of_cell? w _ hx104_1)).trans hx104_1
              replace p104 := eq_true p104
              replace q104 := eq_true q104
              go_wp2_with (first | ((with_reducible refine gate_callee (f := 169) rfl ?_); refine goesL_ (some 20) rfl rfl Try.func169 (by kernel_rfl) rfl #[.string ((rd_T60 l0 x6_1).f0), .string a1] rfl (by (try simp only [List.map_toArray, List.map_cons, List.map_nil]); first | done | rfl | (simp only [List.length_drop, List.length_take]; rfl)) ?_; (with_reducible refine (abutmentref10_Is.calls k1 ((rd_T60 l0 x6_1).f0) a1 true _ A7.out).mono ?_); rintro e w10 ⟨rfl, hb⟩; refine ⟨_, rfl, ?_⟩; have n0_ := Aside0.mk (Kd.R_below (by (with_reducible repeat (first | apply Kd.R_alloc | apply Kd.R_drewN | apply Kd.R_drew)); exact HO_5.out) hb); have n1_ := Aside0.mk (below_step (by repeat (first | (with_reducible first | exact HB.out | apply below_alloc | apply pw_below_drewN | apply below_drew1) | exact HB.out)) hb); clear HO_5; clear HB; have HO_5 := n0_; have HB := n1_; clear n0_ n1_; (try clear hb); (try clear hb2); (try clear hk); (try clear hi); have p106 : 0 ≤ (x6_1 : Int) := of_decide_eq_true (by first | (with_reducible assumption) | assumption); have q106 : x6_1 < (l0.length : Int) := of_decide_eq_true (by first | (with_reducible assumption) | assumption); obtain ⟨ad106, e106, hx106_0, hx106_1⟩ := at_T60 HR0.out x6_1 p106 q106; obtain rfl : ad104 = ad106 := (by injection e106); replace hx106_0 := (HB.out.cell (World.block_lt_of_cell? w _ hx106_0)).trans hx106_0; replace hx106_1 := (HB.out.cell (World.block_lt_of_cell? w _ hx106_1)).trans hx106_1; replace p106 := eq_true p106; replace q106 := eq_true q106) | ((with_reducible refine gate_builtin (b := .append) (xs := #[.tmp 21, .tmp 27]) rfl ?_); at_builtin; refine Kd.R_append Kd.string (w0 := w) w.heap.size rfl (.tmp 21) (.tmp 27) 93 9 (.string ⟨#[]⟩) 16 rfl Try.underlying93 info9 rfl (by decide) (by omega) u5 x5_1 ((rd_T60 l0 x6_1).f1) [.string ((rd_T60 l0 x6_1).f1)] (fun _ => True) (fun _ => False) rfl rfl ?aP (fun _ hk => hk.elim) ?aF ?aO ?aB ?aS ?aL ?_; (case aP => exact rfl); (case aB => exact (by repeat (first | (with_reducible first | exact HB.out | apply below_alloc | apply pw_below_drewN | apply below_drew1) | exact HB.out))); (case aF => exact (fun _ _ => trivial)); (case aO => exact (by (with_reducible repeat (first | apply Kd.R_alloc | apply Kd.R_drewN | apply Kd.R_drew)); exact HO_5.out)); (case aS => exact (below_size (by repeat (first | (with_reducible first | exact HB.out | apply below_alloc | apply pw_below_drewN | apply below_drew1) | exact HB.out)))); (case aL => have := LMc9.out; omega); intro v108 w11 ho hb hg hat; rw [← Ny107.out] at ho; have n0_ := Aside0.mk (hb); have n1_ := Aside0.mk (ho); clear HB; clear HO_5; have HB := n0_; have HO109 := n1_; clear n0_ n1_; clear ho hb hg hat))
              go_roundg k1
              case measure => have := HK1.out; omega
              case rel => exact ⟨(y107), (wrap64 (x6_1 + 1)), (by first | rfl | (simp; done) | (simp [*]; done)), H', ⟨by have := HK1.out; omega⟩, ⟨by (with_reducible repeat (first | apply Kd.R_alloc | apply Kd.R_drewN | apply Kd.R_drew)); exact HO109.out⟩, ⟨by repeat (first | (with_reducible first | exact HB.out | apply below_alloc | apply pw_below_drewN | apply below_drew1) | exact HB.out)⟩⟩
            · rw [if_neg c9] at H
              exact absurd H (by simp)
          · replace c8 := Bool.eq_false_iff.mpr c8
            subst c8
            have H1 : (abutmentref10_All.l0 k1 l0 a1 x5_1 (wrap64 (x6_1 + 1))) = some r := by rw [if_neg (show ¬ (false = true) by decide)] at H; exact H
            clear H
            have H := H1
            clear H1
            have H' := Aside0.mk H
            clear H
            have p104 : 0 ≤ (x6_1 : Int) := of_decide_eq_true (by first | (with_reducible assumption) | assumption)
            have q104 : x6_1 < (l0.length : Int) := of_decide_eq_true (by first | (with_reducible assumption) | assumption)
            obtain ⟨ad104, e104, hx104_0, hx104_1⟩ := at_T60 HR0.out x6_1 p104 q104
            cases e104
            replace hx104_0 := (HB.out.cell (World.block_lt_of_cell? w _ hx104_0)).trans hx104_0
            replace hx104_1 := (HB.out.cell (World.block_lt_of_cell? w _ hx104_1)).trans hx104_1
            replace p104 := eq_true p104
            replace q104 := eq_true q104
            go_wp2_with (first | ((with_reducible refine gate_callee (f := 169) rfl ?_); refine goesL_ (some 20) rfl rfl Try.func169 (by kernel_rfl) rfl #[.string ((rd_T60 l0 x6_1).f0), .string a1] rfl (by (try simp only [List.map_toArray, List.map_cons, List.map_nil]); first | done | rfl | (simp only [List.length_drop, List.length_take]; rfl)) ?_; (with_reducible refine (abutmentref10_Is.calls k1 ((rd_T60 l0 x6_1).f0) a1 false _ A7.out).mono ?_); rintro e w12 ⟨rfl, hb⟩; refine ⟨_, rfl, ?_⟩; have n0_ := Aside0.mk (Kd.R_below (by (with_reducible repeat (first | apply Kd.R_alloc | apply Kd.R_drewN | apply Kd.R_drew)); exact HO_5.out) hb); have n1_ := Aside0.mk (below_step (by repeat (first | (with_reducible first | exact HB.out | apply below_alloc | apply pw_below_drewN | apply below_drew1) | exact HB.out)) hb); clear HO_5; clear HB; have HO_5 := n0_; have HB := n1_; clear n0_ n1_; (try clear hb); (try clear hb2); (try clear hk); (try clear hi)))
            go_roundg k1
            case measure => have := HK1.out; omega
            case rel => exact ⟨(x5_1), (wrap64 (x6_1 + 1)), (by first | rfl | (simp; done) | (simp [*]; done)), H', ⟨by have := HK1.out; omega⟩, ⟨by (with_reducible repeat (first | apply Kd.R_alloc | apply Kd.R_drewN | apply Kd.R_drew)); exact HO_5.out⟩, ⟨by repeat (first | (with_reducible first | exact HB.out | apply below_alloc | apply pw_below_drewN | apply below_drew1) | exact HB.out)⟩⟩
        · rw [if_neg c6] at H
          exact absurd H (by simp)
      · rw [if_neg c5] at H
        have c5b0 : decide (x6_1 < (l0.length : Int)) = false := decide_eq_false c5
        clear c5
        obtain rfl := Option.some.inj H
        go_wp2
        go_ret
        exact ⟨_, by first | rfl | (simp [errW_none, errW_some] <;> rfl) | (simp [*, errW_none, errW_some] <;> rfl), by (with_reducible repeat (first | apply Kd.R_alloc | apply Kd.R_drewN | apply Kd.R_drew)); exact HO_5.out, by repeat (first | (with_reducible first | exact HB.out | apply below_alloc | apply pw_below_drewN | apply below_drew1) | exact HB.out)⟩
end Go.Proofs.Ytjnhghplfdiijaa.Q

namespace Go.Proofs.Ytjnhghplfdiijaa.Q
open Go.RowKit Go.Proofs.YtjnhghplfdiijaaW.PrintWords Go.Proofs.YtjnhghplfdiijaaW.PrintLast Go.Proofs.YtjnhghplfdiijaaW.PrintMore
attribute [local go_sem] max2_int min2_int max_two min_two max_three min_three max_four min_four
set_option linter.unusedVariables false
set_option linter.unusedSimpArgs false
def abutmentref07_Join.l0 : Nat → List ByteArray → ByteArray → Int → Option (ByteArray)
  | 0, _, _, _ => none
  | k + 1, x0, x3, x4 => if x4 < (x0.length : Int) then (if x4 > 0 then (if x3.size + 2 ≤ 9223372036854775807 then (if 0 ≤ x4 then (if (x3 ++ (⟨#[44, 32]⟩ : ByteArray)).size + (rdOf ByteArray.empty x0 x4).size ≤ 9223372036854775807 then (abutmentref07_Join.l0 k x0 ((x3 ++ (⟨#[44, 32]⟩ : ByteArray)) ++ (rdOf ByteArray.empty x0 x4)) (wrap64 (x4 + 1))) else (none)) else (none)) else (none)) else (if 0 ≤ x4 then (if x3.size + (rdOf ByteArray.empty x0 x4).size ≤ 9223372036854775807 then (abutmentref07_Join.l0 k x0 (x3 ++ (rdOf ByteArray.empty x0 x4)) (wrap64 (x4 + 1))) else (none)) else (none))) else (some x3)
def abutmentref07_Join.f (k : Nat) (l0 : List ByteArray) : Option (ByteArray) := abutmentref07_Join.l0 k l0 (⟨#[]⟩ : ByteArray) 0
set_option maxHeartbeats 8000000 in
set_option maxRecDepth 100000 in
theorem abutmentref07_Join.calls (k : Nat) (A0 : Option Addr) (c0 : Nat) (l0 : List ByteArray) (r : ByteArray) (w : World) (hr0 : Kd.C Kd.string w A0 l0.length l0) (hc0 : l0.length ≤ c0) (h : abutmentref07_Join.f k l0 = some r) :
    Calls Try.prog 93 #[.slice A0 l0.length c0] w fun e w' => e = .returned (.string r) ∧ Drawn0 w w' := by
  have HR0 := Aside0.mk hr0
  have HC0 := Aside0.mk hc0
  clear hr0 hc0
  have H : (abutmentref07_Join.l0 k l0 (⟨#[]⟩ : ByteArray) 0) = some r := h
  clear h
  have H' := Aside0.mk H
  clear H
  go_enter Try.func93, Try.ntmps93
  go_wp2
  go_loopg [3, 4] k (fun kq v3 v4 w' => ∃ (x3_1 : ByteArray) (x4_1 : Int), v3 = .string x3_1 ∧ v4 = .int .i64 x4_1 ∧ Aside0 (abutmentref07_Join.l0 kq l0 x3_1 x4_1 = some r) ∧ Aside0 (kq ≤ k) ∧ Drawn0 w w')
  case atStart => exact ⟨((⟨#[]⟩ : ByteArray)), (0), (by first | rfl | (simp; done) | (simp [*]; done)), (by first | rfl | (simp; done) | (simp [*]; done)), H', ⟨Nat.le_refl _⟩, by repeat (first | exact Drawn0.refl _ | apply Drawn0.step)⟩
  case round =>
    clear H'
    obtain ⟨x3_1, x4_1, rfl, rfl, HA, HK1, ⟨m1, rfl⟩⟩ := hrel
    cases gk with
    | zero => exact absurd HA.out (by simp [abutmentref07_Join.l0])
    | succ k1 =>
      have H := HA.out
      clear HA
      simp only [abutmentref07_Join.l0] at H
      by_cases c2 : x4_1 < (l0.length : Int)
      · rw [if_pos c2] at H
        have c2b0 : decide (x4_1 < (l0.length : Int)) = true := decide_eq_true c2
        clear c2
        by_cases c3 : x4_1 > 0
        · rw [if_pos c3] at H
          have c3b0 : decide (0 < x4_1) = true := decide_eq_true c3
          clear c3
          by_cases c4 : x3_1.size + 2 ≤ 9223372036854775807
          · rw [if_pos c4] at H
            have c4b0 := eq_true c4
            have c4b1 : decide (x3_1.size + 2 ≤ 9223372036854775807) = true := decide_eq_true c4
            try have c4b2 : (9223372036854775807 < x3_1.size + 2) = False := eq_false (Nat.not_lt.2 c4)
            by_cases c5 : 0 ≤ x4_1
            · rw [if_pos c5] at H
              have c5b0 : decide (0 ≤ x4_1) = true := decide_eq_true c5
              clear c5
              by_cases c6 : (x3_1 ++ (⟨#[44, 32]⟩ : ByteArray)).size + (rdOf ByteArray.empty l0 x4_1).size ≤ 9223372036854775807
              · rw [if_pos c6] at H
                have c6b0 := eq_true c6
                have c6b1 : decide ((x3_1 ++ (⟨#[44, 32]⟩ : ByteArray)).size + (rdOf ByteArray.empty l0 x4_1).size ≤ 9223372036854775807) = true := decide_eq_true c6
                try have c6b2 : (9223372036854775807 < (x3_1 ++ (⟨#[44, 32]⟩ : ByteArray)).size + (rdOf ByteArray.empty l0 x4_1).size) = False := eq_false (Nat.not_lt.2 c6)
                have H' := Aside0.mk H
                clear H
                have p101 : 0 ≤ (x4_1 : Int) := of_decide_eq_true (by first | (with_reducible assumption) | assumption)
                have q101 : x4_1 < (l0.length : Int) := of_decide_eq_true (by first | (with_reducible assumption) | assumption)
                obtain ⟨ad101, e101, hx101_0⟩ := Kd.at_string HR0.out x4_1 p101 q101
                cases e101
                replace p101 := eq_true p101
                replace q101 := eq_true q101
                go_wp2
                go_roundg k1
                case measure => have := HK1.out; omega
                case rel => exact ⟨((x3_1 ++ (⟨#[44, 32]⟩ : ByteArray)) ++ (rdOf ByteArray.empty l0 x4_1)), (wrap64 (x4_1 + 1)), (by first | rfl | (simp; done) | (simp [*]; done)), (by first | rfl | (simp; done) | (simp [*]; done)), H', ⟨by have := HK1.out; omega⟩, by repeat (first | exact Drawn0.refl _ | apply Drawn0.step)⟩
              · rw [if_neg c6] at H
                exact absurd H (by simp)
            · rw [if_neg c5] at H
              exact absurd H (by simp)
          · rw [if_neg c4] at H
            exact absurd H (by simp)
        · rw [if_neg c3] at H
          have c3b0 : decide (0 < x4_1) = false := decide_eq_false c3
          clear c3
          by_cases c7 : 0 ≤ x4_1
          · rw [if_pos c7] at H
            have c7b0 : decide (0 ≤ x4_1) = true := decide_eq_true c7
            clear c7
            by_cases c8 : x3_1.size + (rdOf ByteArray.empty l0 x4_1).size ≤ 9223372036854775807
            · rw [if_pos c8] at H
              have c8b0 := eq_true c8
              have c8b1 : decide (x3_1.size + (rdOf ByteArray.empty l0 x4_1).size ≤ 9223372036854775807) = true := decide_eq_true c8
              try have c8b2 : (9223372036854775807 < x3_1.size + (rdOf ByteArray.empty l0 x4_1).size) = False := eq_false (Nat.not_lt.2 c8)
              have H' := Aside0.mk H
              clear H
              have p102 : 0 ≤ (x4_1 : Int) := of_decide_eq_true (by first | (with_reducible assumption) | assumption)
              have q102 : x4_1 < (l0.length : Int) := of_decide_eq_true (by first | (with_reducible assumption) | assumption)
              obtain ⟨ad102, e102, hx102_0⟩ := Kd.at_string HR0.out x4_1 p102 q102
              cases e102
              replace p102 := eq_true p102
              replace q102 := eq_true q102
              go_wp2
              go_roundg k1
              case measure => have := HK1.out; omega
              case rel => exact ⟨(x3_1 ++ (rdOf ByteArray.empty l0 x4_1)), (wrap64 (x4_1 + 1)), (by first | rfl | (simp; done) | (simp [*]; done)), (by first | rfl | (simp; done) | (simp [*]; done)), H', ⟨by have := HK1.out; omega⟩, by repeat (first | exact Drawn0.refl _ | apply Drawn0.step)⟩
            · rw [if_neg c8] at H
              exact absurd H (by simp)
          · rw [if_neg c7] at H
            exact absurd H (by simp)
      · rw [if_neg c2] at H
        have c2b0 : decide (x4_1 < (l0.length : Int)) = false := decide_eq_false c2
        clear c2
        obtain rfl := Option.some.inj H
        go_wp2
        go_ret
        exact ⟨by first | rfl | (simp; done) | (simp [*]; done), by repeat (first | exact Drawn0.refl _ | apply Drawn0.step)⟩
end Go.Proofs.Ytjnhghplfdiijaa.Q

namespace Go.Proofs.Ytjnhghplfdiijaa.Q
open Go.RowKit Go.Proofs.YtjnhghplfdiijaaW.PrintWords Go.Proofs.YtjnhghplfdiijaaW.PrintLast Go.Proofs.YtjnhghplfdiijaaW.PrintMore
attribute [local go_sem] max2_int min2_int max_two min_two max_three min_three max_four min_four
set_option linter.unusedVariables false
set_option linter.unusedSimpArgs false
def abutmentref10_Combined.f (k : Nat) (l0 : List (S60)) (a1 : ByteArray) : Option (ByteArray × Bool) := (abutmentref10_All.f k l0 a1).bind fun t101 => ((abutmentref07_Join.f k t101).bind fun t104 => (some (t104, decide ((t101.length : Int) > 0))))
set_option maxHeartbeats 8000000 in
set_option maxRecDepth 100000 in
theorem abutmentref10_Combined.calls (k : Nat) (A0 : Option Addr) (c0 : Nat) (l0 : List (S60)) (a1 : ByteArray) (r1 : ByteArray) (r2 : Bool) (w : World) (hr0 : Kd.C k60 w A0 l0.length l0) (hc0 : l0.length ≤ c0) (h : abutmentref10_Combined.f k l0 a1 = some (r1, r2)) :
    Calls Try.prog 75 #[.slice A0 l0.length c0, .string a1] w fun e w' => e = .returned (.tuple #[.string r1, .bool r2]) ∧ Below w.heap.size w w' := by
  have HR0 := Aside0.mk hr0
  have HC0 := Aside0.mk hc0
  clear hr0 hc0
  have HB := Aside0.mk (Below.refl w.heap.size w)
  have H : ((abutmentref10_All.f k l0 a1).bind fun t101 => ((abutmentref07_Join.f k t101).bind fun t104 => (some (t104, decide ((t101.length : Int) > 0))))) = some (r1, r2) := h
  clear h
  replace H := Option.bind_eq_some_iff.mp H
  obtain ⟨t101, A30, H⟩ := H
  (try dsimp only at H)
  have A3 := Aside0.mk A30
  clear A30
  replace H := Option.bind_eq_some_iff.mp H
  obtain ⟨t104, A40, H⟩ := H
  (try dsimp only at H)
  have A4 := Aside0.mk A40
  clear A40
  simp only [Option.some.injEq, Prod.mk.injEq] at H
  obtain ⟨rfl, rfl⟩ := H
  go_enter Try.func75, Try.ntmps75
  go_wp2_with (first | ((with_reducible refine gate_callee (f := 121) rfl ?_); refine goesL_ (some 9) rfl rfl Try.func121 (by kernel_rfl) rfl #[.slice A0 l0.length c0, .string a1] rfl (by (try simp only [List.map_toArray, List.map_cons, List.map_nil]); first | done | rfl | (simp only [List.length_drop, List.length_take]; rfl)) ?_; (with_reducible refine (abutmentref10_All.calls k _ _ l0 a1 t101 _ ?side1 ?side2 A3.out).mono ?_); (case side1 => repeat (first | exact HR0.out | (with_reducible refine Kd.C_alloc ?_ _) | (with_reducible refine Kd.C_drewN ?_ _) | (with_reducible refine Kd.C_drew ?_))); (case side2 => exact HC0.out); rintro e w5 ⟨v102, rfl, ho0, hb⟩; refine ⟨_, rfl, ?_⟩; have n0_ := Aside0.mk (Kd.R_lower ho0 (below_size (by repeat (first | (with_reducible first | exact HB.out | apply below_alloc | apply pw_below_drewN | apply below_drew1) | exact HB.out)))); have n1_ := Aside0.mk (below_step (by repeat (first | (with_reducible first | exact HB.out | apply below_alloc | apply pw_below_drewN | apply below_drew1) | exact HB.out)) hb); clear HB; have HO103 := n0_; have HB := n1_; clear n0_ n1_; (try clear hb); (try clear hb2); (try clear hk); (try clear hi); (try clear ho0); obtain ⟨Ao6, co6, eo6⟩ := Kd.R_slice HO103.out; subst eo6) | ((with_reducible refine gate_callee (f := 93) rfl ?_); refine goesL_ (some 11) rfl rfl Try.func93 (by kernel_rfl) rfl #[.slice Ao6 t101.length co6] rfl (by (try simp only [List.map_toArray, List.map_cons, List.map_nil]); first | done | rfl | (simp only [List.length_drop, List.length_take]; rfl)) ?_; (with_reducible refine (abutmentref07_Join.calls k _ _ t101 t104 _ ?side1 ?side2 A4.out).mono ?_); (case side1 => repeat (first | exact (Kd.R_reads' HO103.out).2.2 | (with_reducible refine Kd.C_alloc ?_ _) | (with_reducible refine Kd.C_drewN ?_ _) | (with_reducible refine Kd.C_drew ?_))); (case side2 => exact (Kd.R_reads' HO103.out).2.1); rintro e w' ⟨rfl, ⟨nd, rfl⟩⟩; refine ⟨_, rfl, ?_⟩))
  go_ret2
  exact ⟨by first | rfl | (simp [errW_none, errW_some] <;> rfl) | (simp [*, errW_none, errW_some] <;> rfl), by repeat (first | (with_reducible first | exact HB.out | apply below_alloc | apply pw_below_drewN | apply below_drew1) | exact HB.out)⟩
end Go.Proofs.Ytjnhghplfdiijaa.Q

namespace Go.Proofs.Ytjnhghplfdiijaa.Q
open Go.RowKit Go.Proofs.YtjnhghplfdiijaaW.PrintWords Go.Proofs.YtjnhghplfdiijaaW.PrintLast Go.Proofs.YtjnhghplfdiijaaW.PrintMore
attribute [local go_sem] max2_int min2_int max_two min_two max_three min_three max_four min_four
set_option linter.unusedVariables false
set_option linter.unusedSimpArgs false
def abutmentlaw10_Few.l0 : Nat → List (S60) → Int → Int → Option (Bool)
  | 0, _, _, _ => none
  | k + 1, x8, x9, x10 => if x10 < x9 then (if 0 ≤ x10 then (if x10 < (x8.length : Int) then (if (((rd_T60 x8 x10).f0).size : Int) > 100 then (some false) else (if (((rd_T60 x8 x10).f1).size : Int) > 300 then (some false) else (abutmentlaw10_Few.l0 k x8 x9 (wrap64 (x10 + 1))))) else (none)) else (none)) else (some true)
def abutmentlaw10_Few.f (k : Nat) (l0 : List (S60)) : Option (Bool) := if (l0.length : Int) > 40 then (some false) else (abutmentlaw10_Few.l0 k l0 (l0.length : Int) 0)
set_option maxHeartbeats 8000000 in
set_option maxRecDepth 100000 in
theorem abutmentlaw10_Few.calls (k : Nat) (A0 : Option Addr) (c0 : Nat) (l0 : List (S60)) (r : Bool) (w : World) (hr0 : Kd.C k60 w A0 l0.length l0) (hc0 : l0.length ≤ c0) (h : abutmentlaw10_Few.f k l0 = some r) :
    Calls Try.prog 26 #[.slice A0 l0.length c0] w fun e w' => e = .returned (.bool r) ∧ Below w.heap.size w w' := by
  have hu60 := Try.underlying60
  have HR0 := Aside0.mk hr0
  have HC0 := Aside0.mk hc0
  clear hr0 hc0
  have HB := Aside0.mk (Below.refl w.heap.size w)
  have H : (if (l0.length : Int) > 40 then (some false) else (abutmentlaw10_Few.l0 k l0 (l0.length : Int) 0)) = some r := h
  clear h
  by_cases c2 : (l0.length : Int) > 40
  · rw [if_pos c2] at H
    have c2b0 : decide (40 < (l0.length : Int)) = true := decide_eq_true c2
    have c2b1 : decide (40 < l0.length) = true := decide_eq_true (by omega)
    clear c2
    obtain rfl := Option.some.inj H
    go_enter Try.func26, Try.ntmps26
    go_wp2
    go_ret
    exact ⟨by first | rfl | (simp [errW_none, errW_some] <;> rfl) | (simp [*, errW_none, errW_some] <;> rfl), by repeat (first | (with_reducible first | exact HB.out | apply below_alloc | apply pw_below_drewN | apply below_drew1) | exact HB.out)⟩
  · rw [if_neg c2] at H
    have c2b0 : decide (40 < (l0.length : Int)) = false := decide_eq_false c2
    have c2b1 : decide (40 < l0.length) = false := decide_eq_false (by omega)
    clear c2
    have H' := Aside0.mk H
    clear H
    go_enter Try.func26, Try.ntmps26
    go_wp2
    go_loopg [10] k (fun kq v10 w' => ∃ (x10_1 : Int), v10 = .int .i64 x10_1 ∧ Aside0 (abutmentlaw10_Few.l0 kq l0 (l0.length : Int) x10_1 = some r) ∧ Aside0 (kq ≤ k) ∧ Aside0 (Below w.heap.size w w'))
    case atStart => exact ⟨(0), (by first | rfl | (simp; done) | (simp [*]; done)), H', ⟨Nat.le_refl _⟩, ⟨by repeat (first | (with_reducible first | exact HB.out | apply below_alloc | apply pw_below_drewN | apply below_drew1) | exact HB.out)⟩⟩
    case round =>
      clear H'
      try clear c2
      try clear c2b0
      try clear c2b1
      try clear p2
      obtain ⟨x10_1, rfl, HA, HK1, HB⟩ := hrel
      cases gk with
      | zero => exact absurd HA.out (by simp [abutmentlaw10_Few.l0])
      | succ k1 =>
        have H := HA.out
        clear HA
        simp only [abutmentlaw10_Few.l0] at H
        by_cases c3 : x10_1 < (l0.length : Int)
        · rw [if_pos c3] at H
          have c3b0 : decide (x10_1 < (l0.length : Int)) = true := decide_eq_true c3
          clear c3
          by_cases c4 : 0 ≤ x10_1
          · rw [if_pos c4] at H
            have c4b0 : decide (0 ≤ x10_1) = true := decide_eq_true c4
            clear c4
            by_cases c5 : x10_1 < (l0.length : Int)
            · rw [if_pos c5] at H
              have c5b0 : decide (x10_1 < (l0.length : Int)) = true := decide_eq_true c5
              clear c5
              by_cases c6 : (((rd_T60 l0 x10_1).f0).size : Int) > 100
              · rw [if_pos c6] at H
                have c6b0 : decide (100 < (((rd_T60 l0 x10_1).f0).size : Int)) = true := decide_eq_true c6
                have c6b1 : decide (100 < ((rd_T60 l0 x10_1).f0).size) = true := decide_eq_true (by omega)
                clear c6
                obtain rfl := Option.some.inj H
                have p101 : 0 ≤ (x10_1 : Int) := of_decide_eq_true (by first | (with_reducible assumption) | assumption)
                have q101 : x10_1 < (l0.length : Int) := of_decide_eq_true (by first | (with_reducible assumption) | assumption)
                obtain ⟨ad101, e101, hx101_0, hx101_1⟩ := at_T60 HR0.out x10_1 p101 q101
                cases e101
                replace hx101_0 := (HB.out.cell (World.block_lt_of_cell? w _ hx101_0)).trans hx101_0
                replace hx101_1 := (HB.out.cell (World.block_lt_of_cell? w _ hx101_1)).trans hx101_1
                replace p101 := eq_true p101
                replace q101 := eq_true q101
                go_wp2_with (first | ((with_reducible refine gate_dst (N := 4) rfl ?_); (try (refine gate_guard (by rfl) ?_; dsimp only)); refine box_event ?hg (N := 4) ?hd (cs := #[.string (⟨#[]⟩ : ByteArray), .string (⟨#[]⟩ : ByteArray)]) (t := 60) ?hr ?_; (case hd => rfl); (case hg => rfl); (case hr => first | (go_simp; done) | (go_simp; rfl)); intro gb102 hg w7 hbox hb; have n0_ := Aside0.mk (below_step (by repeat (first | (with_reducible first | exact HB.out | apply below_alloc | apply pw_below_drewN | apply below_drew1) | exact HB.out)) hb); have n1_ := Aside0.mk (hbox); have n2_ := Aside0.mk ((by rw [hg]; exact (below_size (by repeat (first | (with_reducible first | exact HB.out | apply below_alloc | apply pw_below_drewN | apply below_drew1) | exact HB.out))) : w.heap.size ≤ gb102)); have n3_ := Aside0.mk ((by rw [hg]; exact (below_size (by repeat (first | (with_reducible first | exact HB.out | apply below_alloc | apply pw_below_drewN | apply below_drew1) | exact HB.out))) : w.heap.size ≤ gb102)); clear HB; have HB := n0_; have BK102 := n1_; have GW102 := n2_; have GE102 := n3_; clear n0_ n1_ n2_ n3_; clear hb hbox hg; have hcz8_0 : w7.cell? ⟨gb102, 0, none⟩ = some (.string (⟨#[]⟩ : ByteArray)) := (blk_cell BK102.out 0).trans rfl; have hcz8_1 : w7.cell? ⟨gb102, 1, none⟩ = some (.string (⟨#[]⟩ : ByteArray)) := (blk_cell BK102.out 1).trans rfl; have hfz8_0 := blk_frozen BK102.out 0; have hfz8_1 := blk_frozen BK102.out 1))
                go_ret
                exact ⟨by first | rfl | (simp [errW_none, errW_some] <;> rfl) | (simp [*, errW_none, errW_some] <;> rfl), by repeat (first | (with_reducible first | exact HB.out | apply below_alloc | apply pw_below_drewN | apply below_drew1 | refine below_set ?_ GE102.out) | exact HB.out)⟩
              · rw [if_neg c6] at H
                have c6b0 : decide (100 < (((rd_T60 l0 x10_1).f0).size : Int)) = false := decide_eq_false c6
                have c6b1 : decide (100 < ((rd_T60 l0 x10_1).f0).size) = false := decide_eq_false (by omega)
                clear c6
                by_cases c9 : (((rd_T60 l0 x10_1).f1).size : Int) > 300
                · rw [if_pos c9] at H
                  have c9b0 : decide (300 < (((rd_T60 l0 x10_1).f1).size : Int)) = true := decide_eq_true c9
                  have c9b1 : decide (300 < ((rd_T60 l0 x10_1).f1).size) = true := decide_eq_true (by omega)
                  clear c9
                  obtain rfl := Option.some.inj H
                  have p101 : 0 ≤ (x10_1 : Int) := of_decide_eq_true (by first | (with_reducible assumption) | assumption)
                  have q101 : x10_1 < (l0.length : Int) := of_decide_eq_true (by first | (with_reducible assumption) | assumption)
                  obtain ⟨ad101, e101, hx101_0, hx101_1⟩ := at_T60 HR0.out x10_1 p101 q101
                  cases e101
                  replace hx101_0 := (HB.out.cell (World.block_lt_of_cell? w _ hx101_0)).trans hx101_0
                  replace hx101_1 := (HB.out.cell (World.block_lt_of_cell? w _ hx101_1)).trans hx101_1
                  replace p101 := eq_true p101
                  replace q101 := eq_true q101
                  go_wp2_with (first | ((with_reducible refine gate_dst (N := 4) rfl ?_); (try (refine gate_guard (by rfl) ?_; dsimp only)); refine box_event ?hg (N := 4) ?hd (cs := #[.string (⟨#[]⟩ : ByteArray), .string (⟨#[]⟩ : ByteArray)]) (t := 60) ?hr ?_; (case hd => rfl); (case hg => rfl); (case hr => first | (go_simp; done) | (go_simp; rfl)); intro gb102 hg w10 hbox hb; have n0_ := Aside0.mk (below_step (by repeat (first | (with_reducible first | exact HB.out | apply below_alloc | apply pw_below_drewN | apply below_drew1) | exact HB.out)) hb); have n1_ := Aside0.mk (hbox); have n2_ := Aside0.mk ((by rw [hg]; exact (below_size (by repeat (first | (with_reducible first | exact HB.out | apply below_alloc | apply pw_below_drewN | apply below_drew1) | exact HB.out))) : w.heap.size ≤ gb102)); have n3_ := Aside0.mk ((by rw [hg]; exact (below_size (by repeat (first | (with_reducible first | exact HB.out | apply below_alloc | apply pw_below_drewN | apply below_drew1) | exact HB.out))) : w.heap.size ≤ gb102)); clear HB; have HB := n0_; have BK102 := n1_; have GW102 := n2_; have GE102 := n3_; clear n0_ n1_ n2_ n3_; clear hb hbox hg; have hcz11_0 : w10.cell? ⟨gb102, 0, none⟩ = some (.string (⟨#[]⟩ : ByteArray)) := (blk_cell BK102.out 0).trans rfl; have hcz11_1 : w10.cell? ⟨gb102, 1, none⟩ = some (.string (⟨#[]⟩ : ByteArray)) := (blk_cell BK102.out 1).trans rfl; have hfz11_0 := blk_frozen BK102.out 0; have hfz11_1 := blk_frozen BK102.out 1))
                  go_ret
                  exact ⟨by first | rfl | (simp [errW_none, errW_some] <;> rfl) | (simp [*, errW_none, errW_some] <;> rfl), by repeat (first | (with_reducible first | exact HB.out | apply below_alloc | apply pw_below_drewN | apply below_drew1 | refine below_set ?_ GE102.out) | exact HB.out)⟩
                · rw [if_neg c9] at H
                  have c9b0 : decide (300 < (((rd_T60 l0 x10_1).f1).size : Int)) = false := decide_eq_false c9
                  have c9b1 : decide (300 < ((rd_T60 l0 x10_1).f1).size) = false := decide_eq_false (by omega)
                  clear c9
                  have H' := Aside0.mk H
                  clear H
                  have p101 : 0 ≤ (x10_1 : Int) := of_decide_eq_true (by first | (with_reducible assumption) | assumption)
                  have q101 : x10_1 < (l0.length : Int) := of_decide_eq_true (by first | (with_reducible assumption) | assumption)
                  obtain ⟨ad101, e101, hx101_0, hx101_1⟩ := at_T60 HR0.out x10_1 p101 q101
                  cases e101
                  replace hx101_0 := (HB.out.cell (World.block_lt_of_cell? w _ hx101_0)).trans hx101_0
                  replace hx101_1 := (HB.out.cell (World.block_lt_of_cell? w _ hx101_1)).trans hx101_1
                  replace p101 := eq_true p101
                  replace q101 := eq_true q101
                  go_wp2_with (first | ((with_reducible refine gate_dst (N := 4) rfl ?_); (try (refine gate_guard (by rfl) ?_; dsimp only)); refine box_event ?hg (N := 4) ?hd (cs := #[.string (⟨#[]⟩ : ByteArray), .string (⟨#[]⟩ : ByteArray)]) (t := 60) ?hr ?_; (case hd => rfl); (case hg => rfl); (case hr => first | (go_simp; done) | (go_simp; rfl)); intro gb102 hg w12 hbox hb; have n0_ := Aside0.mk (below_step (by repeat (first | (with_reducible first | exact HB.out | apply below_alloc | apply pw_below_drewN | apply below_drew1) | exact HB.out)) hb); have n1_ := Aside0.mk (hbox); have n2_ := Aside0.mk ((by rw [hg]; exact (below_size (by repeat (first | (with_reducible first | exact HB.out | apply below_alloc | apply pw_below_drewN | apply below_drew1) | exact HB.out))) : w.heap.size ≤ gb102)); have n3_ := Aside0.mk ((by rw [hg]; exact (below_size (by repeat (first | (with_reducible first | exact HB.out | apply below_alloc | apply pw_below_drewN | apply below_drew1) | exact HB.out))) : w.heap.size ≤ gb102)); clear HB; have HB := n0_; have BK102 := n1_; have GW102 := n2_; have GE102 := n3_; clear n0_ n1_ n2_ n3_; clear hb hbox hg; have hcz13_0 : w12.cell? ⟨gb102, 0, none⟩ = some (.string (⟨#[]⟩ : ByteArray)) := (blk_cell BK102.out 0).trans rfl; have hcz13_1 : w12.cell? ⟨gb102, 1, none⟩ = some (.string (⟨#[]⟩ : ByteArray)) := (blk_cell BK102.out 1).trans rfl; have hfz13_0 := blk_frozen BK102.out 0; have hfz13_1 := blk_frozen BK102.out 1))
                  go_roundg k1
                  case measure => have := HK1.out; omega
                  case rel => exact ⟨(wrap64 (x10_1 + 1)), (by first | rfl | (simp; done) | (simp [*]; done)), H', ⟨by have := HK1.out; omega⟩, ⟨by repeat (first | (with_reducible first | exact HB.out | apply below_alloc | apply pw_below_drewN | apply below_drew1 | refine below_set ?_ GE102.out) | exact HB.out)⟩⟩
            · rw [if_neg c5] at H
              exact absurd H (by simp)
          · rw [if_neg c4] at H
            exact absurd H (by simp)
        · rw [if_neg c3] at H
          have c3b0 : decide (x10_1 < (l0.length : Int)) = false := decide_eq_false c3
          clear c3
          obtain rfl := Option.some.inj H
          go_wp2
          go_ret
          exact ⟨by first | rfl | (simp [errW_none, errW_some] <;> rfl) | (simp [*, errW_none, errW_some] <;> rfl), by repeat (first | (with_reducible first | exact HB.out | apply below_alloc | apply pw_below_drewN | apply below_drew1) | exact HB.out)⟩
end Go.Proofs.Ytjnhghplfdiijaa.Q

namespace Go.Proofs.Ytjnhghplfdiijaa.Q
open Go.RowKit Go.Proofs.YtjnhghplfdiijaaW.PrintWords Go.Proofs.YtjnhghplfdiijaaW.PrintLast Go.Proofs.YtjnhghplfdiijaaW.PrintMore
set_option linter.unusedVariables false
set_option linter.unusedSimpArgs false
theorem lowC_toNat (c : UInt8) : ((lowC c).toNat : Int) = lowB (c.toNat : Int) := by
  have h := lowB_range c
  unfold lowC
  have e : (lowB (c.toNat : Int)).toNat < 256 := by omega
  have e2 : (UInt8.ofNat (lowB (c.toNat : Int)).toNat).toNat = (lowB (c.toNat : Int)).toNat := by
    simp [Nat.mod_eq_of_lt e]
  rw [e2]; omega
theorem low_iff (a b : ByteArray) : (bytesOf a).map lowB = (bytesOf b).map lowB ↔ lowerS a = lowerS b := by
  have e : ∀ s : ByteArray, (bytesOf s).map lowB = ((tl s).map lowC).map fun c => (c.toNat : Int) := fun s => by
    unfold bytesOf tl
    rw [List.map_map, List.map_map]
    apply List.map_congr_left
    intro c _
    exact (lowC_toNat c).symm
  rw [e, e, lowerS_tl, lowerS_tl]
  constructor
  · intro h
    have hi : Function.Injective fun c : UInt8 => (c.toNat : Int) := fun x y h => by
      have h : (x.toNat : Int) = (y.toNat : Int) := h
      have : x.toNat = y.toNat := by omega
      exact UInt8.toNat_inj.1 this
    rw [List.map_inj_right (fun x y h => hi h)] at h
    rw [h]
  · intro h
    have := congrArg tl h
    rw [tl_ofl, tl_ofl] at this
    rw [this]
theorem foldE_low (a b : ByteArray) : foldE a b = decide (lowerS a = lowerS b) := by
  unfold foldE
  rw [decide_eq_decide]
  exact low_iff a b
theorem foldE_comm (a b : ByteArray) : foldE a b = foldE b a := by
  rw [foldE_low, foldE_low, decide_eq_decide]
  exact ⟨Eq.symm, Eq.symm⟩
theorem toL_inj (a b : ByteArray) : a.toList = b.toList ↔ a = b := by
  rw [ByteArray.toList_eq, ByteArray.toList_eq]
  exact ⟨fun h => tl_inj h, fun h => by rw [h]⟩
theorem toL_beq (a b : ByteArray) : (a.toList == b.toList) = decide (a = b) := by
  rw [Bool.eq_iff_iff, beq_iff_eq, decide_eq_true_eq]
  exact toL_inj a b
theorem toL_nil (a : ByteArray) : a.toList = [] ↔ a.size = 0 := by
  rw [ByteArray.toList_eq, ← data_length]
  exact List.length_eq_zero_iff.symm
theorem ev_is (a b : ByteArray) (ha : a.size ≤ 1000000000) (hb : b.size ≤ 1000000000) : Ev (fun k => abutmentref10_Is.f k a b) (foldE b a) := by
  refine Ev.bind (ev_lower a ha) (Ev.bind (ev_lower b hb) ?_)
  rw [toL_beq, foldE_comm, foldE_low]
  exact Ev.now _
def fieldVals (l : List S60) (name : ByteArray) : List ByteArray := (l.filter fun f => foldE name f.f0).map fun f => f.f1
theorem all_loop (l : List S60) (name : ByteArray) (hl : l.length ≤ 1000000) (hx : ∀ f ∈ l, f.f0.size ≤ 1000000) (hn : name.size ≤ 1000000) : ∀ (r : List S60) (j : Nat) (acc : List ByteArray), l.drop j = r → acc.length ≤ j → Ev (fun k => abutmentref10_All.l0 k l name acc (j : Int)) (acc ++ fieldVals r name)
  | [], j, acc, h, ha => by
    have h1 : l.length ≤ j := by
      rcases Nat.lt_or_ge j l.length with h1 | h1
      · rw [List.drop_eq_getElem_cons h1] at h; cases h
      · exact h1
    have e : acc ++ fieldVals [] name = acc := by simp [fieldVals]
    rw [e]
    exact Ev.step (f := fun _ => some acc) (fun k => by simp only [abutmentref10_All.l0]; rw [if_neg (by omega)]) (Ev.now _)
  | x :: r, j, acc, h, ha => by
    have h1 : j < l.length := by
      rcases Nat.lt_or_ge j l.length with h1 | h1
      · exact h1
      · rw [List.drop_eq_nil_of_le h1] at h; cases h
    have e := List.drop_eq_getElem_cons h1
    rw [h] at e
    injection e with e1 e2
    have hr : rd_T60 l (j : Int) = x := by simp [rd_T60, h1, e1]
    have hxs : x.f0.size ≤ 1000000 := hx x (by rw [e1]; exact List.getElem_mem h1)
    have hw : Aside0 (wrap64 ((j : Int) + 1) = ((j + 1 : Nat) : Int)) := ⟨by rw [wrap_small (by omega) (by omega)]; omega⟩
    refine Ev.step (f := fun k => (abutmentref10_Is.f k x.f0 name).bind fun t => if t = true then (if acc.length < 8796093022208 then abutmentref10_All.l0 k l name (acc ++ [x.f1]) ((j + 1 : Nat) : Int) else none) else abutmentref10_All.l0 k l name acc ((j + 1 : Nat) : Int)) (fun k => by
      simp only [abutmentref10_All.l0]; rw [if_pos (by omega), if_pos (by omega), hr, hw.out]) ?_
    refine Ev.bind (ev_is _ _ (by omega) (by omega)) ?_
    have hp : fieldVals (x :: r) name = (if foldE name x.f0 = true then [x.f1] else []) ++ fieldVals r name := by
      unfold fieldVals
      rw [List.filter_cons]
      by_cases h0 : foldE name x.f0 = true
      · rw [if_pos h0, if_pos h0]; rfl
      · rw [if_neg h0, if_neg h0]; rfl
    rw [hp]
    by_cases h0 : foldE name x.f0 = true
    · simp only [if_pos h0, if_pos (show acc.length < 8796093022208 by omega)]
      have := all_loop l name hl hx hn r (j + 1) (acc ++ [x.f1]) e2.symm (by rw [List.length_append, List.length_singleton]; omega)
      rw [List.append_assoc] at this
      exact this
    · simp only [if_neg h0, List.nil_append]
      exact all_loop l name hl hx hn r (j + 1) acc e2.symm (by omega)
theorem ev_all (l : List S60) (name : ByteArray) (hl : l.length ≤ 1000000) (hx : ∀ f ∈ l, f.f0.size ≤ 1000000) (hn : name.size ≤ 1000000) : Ev (fun k => abutmentref10_All.f k l name) (fieldVals l name) := all_loop l name hl hx hn l 0 [] rfl (Nat.le_refl _)
theorem all_plain (l : List S60) (name : ByteArray) (hl : l.length ≤ 1000000) (hn : name.size ≤ 1000000) : header_All.f l name = some (fieldVals l name) := by
  unfold header_All.f
  rw [if_pos ⟨by omega, by omega⟩]
  rfl
theorem joinL_snoc (xs : List ByteArray) (x : ByteArray) (h : xs ≠ []) : joinL (xs ++ [x]) = joinL xs ++ ([44, 32] ++ tl x) := by
  unfold joinL tl
  rw [List.map_append, List.map_singleton]
  generalize hm : xs.map (fun b => b.data.toList) = ys
  have hy : ys ≠ [] := by rw [← hm]; simpa using h
  clear hm h
  generalize x.data.toList = z
  unfold Lib.join
  induction ys with
  | nil => exact absurd rfl hy
  | cons a ys ih =>
    cases ys with
    | nil => simp [List.intercalate]
    | cons b ys =>
      have := ih (by simp)
      simp only [List.intercalate, List.cons_append, List.intersperse_cons_cons, List.flatten_cons, List.append_assoc] at this ⊢
      rw [this]
theorem snoc_ind {α : Type} {P : List α → Prop} (h0 : P []) (h1 : ∀ l x, P l → P (l ++ [x])) (l : List α) : P l := by
  rw [← List.reverse_reverse l]
  induction l.reverse with
  | nil => exact h0
  | cons x r ih => rw [List.reverse_cons]; exact h1 _ _ ih
theorem joinL_len (M : Nat) : ∀ l : List ByteArray, (∀ x ∈ l, x.size ≤ M) → (joinL l).length ≤ l.length * (M + 2) := by
  intro l
  refine snoc_ind (P := fun l => (∀ x ∈ l, x.size ≤ M) → (joinL l).length ≤ l.length * (M + 2)) ?_ ?_ l
  · intro _; simp [joinL, Lib.join, List.intercalate]
  · intro l x ih h
    have h1 := ih (fun y hy => h y (by simp [hy]))
    have h2 := h x (by simp)
    by_cases e : l = []
    · subst e
      simp only [List.nil_append, List.length_singleton, Nat.one_mul]
      have : joinL [x] = tl x := by simp [joinL, Lib.join, List.intercalate, tl]
      rw [this, tl_length]; omega
    · rw [joinL_snoc l x e]
      simp only [List.length_append, List.length_cons, List.length_nil, tl_length]
      rw [Nat.add_mul, Nat.one_mul]
      omega
theorem join_loop (l : List ByteArray) (hl : l.length ≤ 1000000) (M : Nat) (hM : M ≤ 1000000) (hx : ∀ x ∈ l, x.size ≤ M) : ∀ (r : List ByteArray) (j : Nat), l.drop j = r → j ≤ l.length → Ev (fun k => abutmentref07_Join.l0 k l (ofl (joinL (l.take j))) (j : Int)) (ofl (joinL l))
  | [], j, h, hj => by
    have h1 : l.length ≤ j := by
      rcases Nat.lt_or_ge j l.length with h1 | h1
      · rw [List.drop_eq_getElem_cons h1] at h; cases h
      · exact h1
    rw [List.take_of_length_le h1]
    exact Ev.step (f := fun _ => some _) (fun k => by simp only [abutmentref07_Join.l0]; rw [if_neg (by omega)]) (Ev.now _)
  | x :: r, j, h, hj => by
    have h1 : j < l.length := by
      rcases Nat.lt_or_ge j l.length with h1 | h1
      · exact h1
      · rw [List.drop_eq_nil_of_le h1] at h; cases h
    have e := List.drop_eq_getElem_cons h1
    rw [h] at e
    injection e with e1 e2
    have hr : rdOf ByteArray.empty l (j : Int) = x := by simp [rdOf, h1, e1]
    have hxs : x.size ≤ M := hx x (by rw [e1]; exact List.getElem_mem h1)
    have hw : Aside0 (wrap64 ((j : Int) + 1) = ((j + 1 : Nat) : Int)) := ⟨by rw [wrap_small (by omega) (by omega)]; omega⟩
    have ht : l.take (j + 1) = l.take j ++ [x] := by rw [List.take_add_one, List.getElem?_eq_getElem h1, e1]; rfl
    have hlen : (ofl (joinL (l.take j))).size ≤ 1000000 * 1000002 := by
      rw [ofl_size]
      have h2 := joinL_len M (l.take j) (fun y hy => hx y (List.mem_of_mem_take hy))
      have h3 : (l.take j).length ≤ 1000000 := by rw [List.length_take]; omega
      exact Nat.le_trans h2 (Nat.mul_le_mul h3 (by omega))
    have ih := join_loop l hl M hM hx r (j + 1) e2.symm h1
    rw [ht] at ih
    by_cases h0 : 0 < j
    · have hne : l.take j ≠ [] := by
        intro hh
        have := congrArg List.length hh
        rw [List.length_take, List.length_nil] at this
        omega
      have es : ofl (joinL (l.take j ++ [x])) = (ofl (joinL (l.take j)) ++ (⟨#[44, 32]⟩ : ByteArray)) ++ x := by
        apply tl_inj
        rw [joinL_snoc _ _ hne, tl_ofl, tl_append, tl_append, tl_ofl, List.append_assoc]
        rfl
      rw [es] at ih
      have hs2 : (ofl (joinL (l.take j)) ++ (⟨#[44, 32]⟩ : ByteArray)).size = (ofl (joinL (l.take j))).size + 2 := ByteArray.size_append
      refine Ev.step (fun k => ?_) ih
      simp only [abutmentref07_Join.l0]
      rw [if_pos (by omega), if_pos (by omega), if_pos (by omega), if_pos (by omega), hr, hs2, if_pos (by omega), hw.out]
    · obtain rfl : j = 0 := by omega
      have es : ofl (joinL (l.take 0 ++ [x])) = ofl (joinL (l.take 0)) ++ x := by
        apply tl_inj
        rw [tl_ofl, tl_append, tl_ofl, List.take_zero]
        simp [joinL, Lib.join, List.intercalate, tl]
      rw [es] at ih
      refine Ev.step (fun k => ?_) ih
      simp only [abutmentref07_Join.l0]
      rw [if_pos (by omega), if_neg (by omega), if_pos (by omega), hr, if_pos (by omega), hw.out]
theorem ev_join (l : List ByteArray) (hl : l.length ≤ 1000000) (M : Nat) (hM : M ≤ 1000000) (hx : ∀ x ∈ l, x.size ≤ M) : Ev (fun k => abutmentref07_Join.f k l) (joinS l) := join_loop l hl M hM hx l 0 rfl (Nat.zero_le _)
theorem join_plain (l : List ByteArray) (hl : l.length ≤ 1000000) (M : Nat) (hM : M ≤ 1000000) (hx : ∀ x ∈ l, x.size ≤ M) : lists_Join.f l = some (joinS l) := by
  unfold lists_Join.f
  have h2 := joinL_len M l hx
  have h3 : l.length * (M + 2) ≤ 1000000 * 1000002 := Nat.mul_le_mul hl (by omega)
  rw [if_pos ⟨by omega, by omega⟩]
/-- Few fields, and none of them long. -/
def Small (l : List S60) : Prop := l.length ≤ 50 ∧ ∀ f ∈ l, f.f0.size ≤ 1000 ∧ f.f1.size ≤ 1000
theorem vals_small {l : List S60} (h : Small l) (name : ByteArray) : (fieldVals l name).length ≤ 50 ∧ ∀ x ∈ fieldVals l name, x.size ≤ 1000 := by
  unfold fieldVals
  refine ⟨by rw [List.length_map]; exact Nat.le_trans (List.length_filter_le _ _) h.1, fun x hx => ?_⟩
  obtain ⟨f, hf, rfl⟩ := List.mem_map.1 hx
  exact (h.2 f (List.mem_filter.1 hf).1).2
def combS (l : List S60) (name : ByteArray) : ByteArray := joinS (fieldVals l name)
def combB (l : List S60) (name : ByteArray) : Bool := decide (((fieldVals l name).length : Int) > 0)
theorem combS_size {l : List S60} (h : Small l) (name : ByteArray) : (combS l name).size ≤ 100000 := by
  obtain ⟨h1, h2⟩ := vals_small h name
  have h3 := joinL_len 1000 _ h2
  have h4 : (fieldVals l name).length * (1000 + 2) ≤ 50 * 1002 := Nat.mul_le_mul h1 (Nat.le_refl _)
  show (ofl (joinL (fieldVals l name))).size ≤ _
  rw [ofl_size]; omega
theorem comb_plain {l : List S60} (h : Small l) (name : ByteArray) (hn : name.size ≤ 1000) : header_Combined.f l name = some (combS l name, combB l name) := by
  obtain ⟨h1, h2⟩ := vals_small h name
  unfold header_Combined.f
  rw [all_plain l name (by have := h.1; omega) (by omega)]
  simp only [Option.bind_some]
  rw [join_plain _ (by omega) 1000 (by omega) h2]
  rfl
theorem ev_comb {l : List S60} (h : Small l) (name : ByteArray) (hn : name.size ≤ 1000) : Ev (fun k => abutmentref10_Combined.f k l name) (combS l name, combB l name) := by
  obtain ⟨h1, h2⟩ := vals_small h name
  exact Ev.bind (ev_all l name (by have := h.1; omega) (fun f hf => by have := (h.2 f hf).1; omega) (by omega)) (Ev.bind (ev_join _ (by omega) 1000 (by omega) h2) (Ev.now _))
theorem few_loop (l : List S60) (hl : l.length ≤ 40) : ∀ (r : List S60) (j : Nat), l.drop j = r → ∃ b, Ev (fun k => abutmentlaw10_Few.l0 k l (l.length : Int) (j : Int)) b ∧ (b = true → ∀ f ∈ r, f.f0.size ≤ 100 ∧ f.f1.size ≤ 300)
  | [], j, h => by
    have h1 : l.length ≤ j := by
      rcases Nat.lt_or_ge j l.length with h1 | h1
      · rw [List.drop_eq_getElem_cons h1] at h; cases h
      · exact h1
    exact ⟨true, Ev.step (f := fun _ => some true) (fun k => by simp only [abutmentlaw10_Few.l0]; rw [if_neg (by omega)]) (Ev.now _), fun _ f hf => by simp at hf⟩
  | x :: r, j, h => by
    have h1 : j < l.length := by
      rcases Nat.lt_or_ge j l.length with h1 | h1
      · exact h1
      · rw [List.drop_eq_nil_of_le h1] at h; cases h
    have e := List.drop_eq_getElem_cons h1
    rw [h] at e
    injection e with e1 e2
    have hr : rd_T60 l (j : Int) = x := by simp [rd_T60, h1, e1]
    have hw : Aside0 (wrap64 ((j : Int) + 1) = ((j + 1 : Nat) : Int)) := ⟨by rw [wrap_small (by omega) (by omega)]; omega⟩
    by_cases a : (x.f0.size : Int) > 100
    · exact ⟨false, Ev.step (f := fun _ => some false) (fun k => by simp only [abutmentlaw10_Few.l0]; rw [if_pos (by omega), if_pos (by omega), if_pos (by omega), hr, if_pos a]) (Ev.now _), fun h => by cases h⟩
    · by_cases b : (x.f1.size : Int) > 300
      · exact ⟨false, Ev.step (f := fun _ => some false) (fun k => by simp only [abutmentlaw10_Few.l0]; rw [if_pos (by omega), if_pos (by omega), if_pos (by omega), hr, if_neg a, if_pos b]) (Ev.now _), fun h => by cases h⟩
      · obtain ⟨v, hv, hi⟩ := few_loop l hl r (j + 1) e2.symm
        refine ⟨v, Ev.step (fun k => ?_) hv, fun ht f hf => ?_⟩
        · simp only [abutmentlaw10_Few.l0]; rw [if_pos (by omega), if_pos (by omega), if_pos (by omega), hr, if_neg a, if_neg b, hw.out]
        · rcases List.mem_cons.1 hf with rfl | hf
          · exact ⟨by omega, by omega⟩
          · exact hi ht f hf
theorem ev_few (l : List S60) : ∃ b, Ev (fun k => abutmentlaw10_Few.f k l) b ∧ (b = true → l.length ≤ 40 ∧ ∀ f ∈ l, f.f0.size ≤ 100 ∧ f.f1.size ≤ 300) := by
  by_cases h : (l.length : Int) > 40
  · exact ⟨false, Ev.congr (f := fun _ => some false) (fun k => by unfold abutmentlaw10_Few.f; rw [if_pos h]) (Ev.now _), fun h => by cases h⟩
  · obtain ⟨b, hb, hi⟩ := few_loop l (by omega) l 0 rfl
    exact ⟨b, Ev.congr (fun k => by unfold abutmentlaw10_Few.f; rw [if_neg h]; rfl) hb, fun ht => ⟨by omega, hi ht⟩⟩
end Go.Proofs.Ytjnhghplfdiijaa.Q

namespace Go.Proofs.Ytjnhghplfdiijaa.Q
open Go.RowKit Go.Proofs.YtjnhghplfdiijaaW.PrintWords Go.Proofs.YtjnhghplfdiijaaW.PrintLast Go.Proofs.YtjnhghplfdiijaaW.PrintMore
attribute [local go_sem] max2_int min2_int max_two min_two max_three min_three max_four min_four
set_option linter.unusedVariables false
set_option linter.unusedSimpArgs false
def cursor_New.f (a0 : ByteArray) : Option (ByteArray × Int) := some (a0, 0)
set_option maxHeartbeats 8000000 in
set_option maxRecDepth 100000 in
theorem cursor_New.calls (a0 : ByteArray) (r1 : ByteArray) (r2 : Int) (w0 w : World) (hB : Below w0.heap.size w0 w) (h : cursor_New.f a0 = some (r1, r2)) :
    Calls Try.prog 133 #[.string a0] w fun e w' => ∃ g_ : Nat, e = .returned (.pointer (some ⟨g_, 0, none⟩)) ∧ IsS176 w0 w' g_ r1 r2 ∧ Below w0.heap.size w0 w' ∧ Below w.heap.size w w' := by
  have hu176 := Try.underlying176
  have HBW := Aside0.mk (Below.refl w.heap.size w)
  have HW0 := Aside0.mk hB.size
  have HB := Aside0.mk hB
  clear hB
  have H : (some (a0, 0)) = some (r1, r2) := h
  clear h
  simp only [Option.some.injEq, Prod.mk.injEq] at H
  obtain ⟨rfl, rfl⟩ := H
  go_enter Try.func133, Try.ntmps133
  go_wp2_with (first | ((with_reducible refine gate_dst (N := 5) rfl ?_); refine box_event ?hg (N := 5) ?hd (cs := #[.string a0, .int .i64 0]) (t := 176) ?hr ?_; (case hd => rfl); (case hg => rfl); (case hr => first | (go_simp; done) | (go_simp; rfl)); intro gb101 hg w2 hbox hb; have n0_ := Aside0.mk (below_step HBW.out hb); have n1_ := Aside0.mk (below_step (by repeat (first | (with_reducible first | exact HB.out | apply below_alloc | apply pw_below_drewN | apply below_drew1) | exact HB.out)) hb); have n2_ := Aside0.mk (hbox); have n3_ := Aside0.mk ((by rw [hg]; exact (below_size (by repeat (first | (with_reducible first | exact HBW.out | apply below_alloc | apply pw_below_drewN | apply below_drew1) | exact HBW.out))) : w.heap.size ≤ gb101)); have n4_ := Aside0.mk ((Nat.le_trans HW0.out (by rw [hg]; exact (below_size (by repeat (first | (with_reducible first | exact HBW.out | apply below_alloc | apply pw_below_drewN | apply below_drew1) | exact HBW.out))) : w.heap.size ≤ gb101) : w0.heap.size ≤ gb101)); clear HBW; clear HB; have HBW := n0_; have HB := n1_; have BK101 := n2_; have GW101 := n3_; have GE101 := n4_; clear n0_ n1_ n2_ n3_ n4_; clear hb hbox hg))
  go_ret
  exact ⟨_, rfl, (show IsS176 w0 _ gb101 a0 0 from ⟨by (with_reducible repeat (first | refine blk_drewN ?_ _ | refine blk_drew ?_ | refine blk_alloc ?_ _)); exact BK101.out, GE101.out⟩), by repeat (first | (with_reducible first | exact HB.out | apply below_alloc | apply pw_below_drewN | apply below_drew1 | refine below_set ?_ GE101.out) | exact HB.out), by repeat (first | (with_reducible first | exact HBW.out | apply below_alloc | apply pw_below_drewN | apply below_drew1 | refine below_set ?_ GW101.out) | exact HBW.out)⟩
end Go.Proofs.Ytjnhghplfdiijaa.Q

namespace Go.Proofs.Ytjnhghplfdiijaa.Q
open Go.RowKit Go.Proofs.YtjnhghplfdiijaaW.PrintWords Go.Proofs.YtjnhghplfdiijaaW.PrintLast Go.Proofs.YtjnhghplfdiijaaW.PrintMore
attribute [local go_sem] max2_int min2_int max_two min_two max_three min_three max_four min_four
set_option linter.unusedVariables false
set_option linter.unusedSimpArgs false
def cursor_Cursor_Byte.f (s0_0 : ByteArray) (s0_1 : Int) (a1 : Int) : Option (Bool × ByteArray × Int) := (cursor_Cursor_Left.f s0_0 s0_1).bind fun bt101 => (if bt101.1.toList = ([] : List UInt8) then (some (false, bt101.2.1, bt101.2.2)) else (if 0 < (bt101.1.size : Int) then (if (bt bt101.1 0) = a1 then ((cursor_Cursor_take.f bt101.2.1 bt101.2.2 1).bind fun bt104 => (some (true, bt104.2.1, bt104.2.2))) else (some (false, bt101.2.1, bt101.2.2))) else (none)))
set_option maxHeartbeats 8000000 in
set_option maxRecDepth 100000 in
theorem cursor_Cursor_Byte.calls (g : Nat) (s0_0 : ByteArray) (s0_1 : Int) (a1 : Int) (r1 : Bool) (r2 : ByteArray) (r3 : Int) (w0 w : World) (hI : IsS176 w0 w g s0_0 s0_1) (hB : Below w0.heap.size w0 w) (h : cursor_Cursor_Byte.f s0_0 s0_1 a1 = some (r1, r2, r3)) :
    Calls Try.prog 135 #[.pointer (some ⟨g, 0, none⟩), .int .u8 a1] w fun e w' => e = .returned (.bool r1) ∧ IsS176 w0 w' g r2 r3 ∧ Below w0.heap.size w0 w' ∧ KeepBut w w' g none := by
  have HI0 := Aside0.mk hI
  have HK := Aside0.mk (KeepBut.refl w g none)
  have HL := Aside0.mk hB.size
  clear hI
  have HW0 := Aside0.mk hB.size
  have HB := Aside0.mk hB
  clear hB
  have H : ((cursor_Cursor_Left.f s0_0 s0_1).bind fun bt101 => (if bt101.1.toList = ([] : List UInt8) then (some (false, bt101.2.1, bt101.2.2)) else (if 0 < (bt101.1.size : Int) then (if (bt bt101.1 0) = a1 then ((cursor_Cursor_take.f bt101.2.1 bt101.2.2 1).bind fun bt104 => (some (true, bt104.2.1, bt104.2.2))) else (some (false, bt101.2.1, bt101.2.2))) else (none)))) = some (r1, r2, r3) := h
  clear h
  replace H := Option.bind_eq_some_iff.mp H
  obtain ⟨⟨t101, t102, t103⟩, A30, H⟩ := H
  (try dsimp only at H)
  have A3 := Aside0.mk A30
  clear A30
  by_cases c4 : t101.toList = ([] : List UInt8)
  · rw [if_pos c4] at H
    have c4b0 : (t101.toList == ([] : List UInt8)) = true := beq_iff_eq.mpr c4
    have c4b1 : (t101.toList != ([] : List UInt8)) = false := bne_eq_false_iff_eq.mpr c4
    clear c4
    simp only [Option.some.injEq, Prod.mk.injEq] at H
    obtain ⟨rfl, rfl, rfl⟩ := H
    go_enter Try.func135, Try.ntmps135
    go_wp2_with (first | ((with_reducible refine gate_callee (f := 175) rfl ?_); refine goesL_ (some 7) rfl rfl Try.func175 (by kernel_rfl) rfl #[.pointer (some ⟨g, 0, none⟩)] rfl (by (try simp only [List.map_toArray, List.map_cons, List.map_nil]); first | done | rfl | (simp only [List.length_drop, List.length_take]; rfl)) ?_; (with_reducible refine (cursor_Cursor_Left.calls g s0_0 s0_1 t101 t102 t103 w0 _ ?side1 ?side2 A3.out).mono ?_); (case side1 => repeat (first | (with_reducible first | exact HI0.out | apply IsS176.alloc | apply IsS176.drewN | apply IsS176.drew | apply IsS176.set_0 | apply IsS176.set_1) | exact HI0.out)); (case side2 => repeat (first | (with_reducible first | exact HB.out | apply below_alloc | apply pw_below_drewN | apply below_drew1 | refine below_set ?_ (IsS176.ge HI0.out)) | exact HB.out)); rintro e w5 ⟨rfl, hi, hb, hk⟩; refine ⟨_, rfl, ?_⟩; have n0_ := Aside0.mk (KeepBut.trans (by repeat (first | (with_reducible first | exact HK.out | apply KeepBut.set_ | apply keep_drewN | apply keep_drew | apply keep_alloc) | exact HK.out)) hk (.inl rfl)); have n1_ := Aside0.mk (hb); have n2_ := Aside0.mk (hi); clear HK; clear HB; clear HI0; have HK := n0_; have HB := n1_; have HI0 := n2_; clear n0_ n1_ n2_; (try clear hb); (try clear hb2); (try clear hk); (try clear hi)))
    go_ret
    exact ⟨by first | rfl | (simp [errW_none, errW_some] <;> rfl) | (simp [*, errW_none, errW_some] <;> rfl), by repeat (first | (with_reducible first | exact HI0.out | apply IsS176.alloc | apply IsS176.drewN | apply IsS176.drew | apply IsS176.set_0 | apply IsS176.set_1) | exact HI0.out), by repeat (first | (with_reducible first | exact HB.out | apply below_alloc | apply pw_below_drewN | apply below_drew1 | refine below_set ?_ (IsS176.ge HI0.out)) | exact HB.out), by repeat (first | (with_reducible first | exact HK.out | apply KeepBut.set_ | apply keep_drewN | apply keep_drew | apply keep_alloc) | exact HK.out)⟩
  · rw [if_neg c4] at H
    have c4b0 : (t101.toList == ([] : List UInt8)) = false := beq_eq_false_iff_ne.mpr c4
    have c4b1 : (t101.toList != ([] : List UInt8)) = true := bne_iff_ne.mpr c4
    by_cases c6 : 0 < (t101.size : Int)
    · rw [if_pos c6] at H
      have c6b0 : decide (0 < (t101.size : Int)) = true := decide_eq_true c6
      have c6b1 : decide (0 < t101.size) = true := decide_eq_true (by omega)
      clear c6
      by_cases c8 : (bt t101 0) = a1
      · rw [if_pos c8] at H
        have c8b0 : ((bt t101 0) == a1) = true := beq_iff_eq.mpr c8
        have c8b1 : ((bt t101 0) != a1) = false := bne_eq_false_iff_eq.mpr c8
        clear c8
        replace H := Option.bind_eq_some_iff.mp H
        obtain ⟨⟨t104, t105, t106⟩, A90, H⟩ := H
        (try dsimp only at H)
        have A9 := Aside0.mk A90
        clear A90
        simp only [Option.some.injEq, Prod.mk.injEq] at H
        obtain ⟨rfl, rfl, rfl⟩ := H
        go_enter Try.func135, Try.ntmps135
        go_wp2_with (first | ((with_reducible refine gate_callee (f := 175) rfl ?_); refine goesL_ (some 7) rfl rfl Try.func175 (by kernel_rfl) rfl #[.pointer (some ⟨g, 0, none⟩)] rfl (by (try simp only [List.map_toArray, List.map_cons, List.map_nil]); first | done | rfl | (simp only [List.length_drop, List.length_take]; rfl)) ?_; (with_reducible refine (cursor_Cursor_Left.calls g s0_0 s0_1 t101 t102 t103 w0 _ ?side1 ?side2 A3.out).mono ?_); (case side1 => repeat (first | (with_reducible first | exact HI0.out | apply IsS176.alloc | apply IsS176.drewN | apply IsS176.drew | apply IsS176.set_0 | apply IsS176.set_1) | exact HI0.out)); (case side2 => repeat (first | (with_reducible first | exact HB.out | apply below_alloc | apply pw_below_drewN | apply below_drew1 | refine below_set ?_ (IsS176.ge HI0.out)) | exact HB.out)); rintro e w10 ⟨rfl, hi, hb, hk⟩; refine ⟨_, rfl, ?_⟩; have n0_ := Aside0.mk (KeepBut.trans (by repeat (first | (with_reducible first | exact HK.out | apply KeepBut.set_ | apply keep_drewN | apply keep_drew | apply keep_alloc) | exact HK.out)) hk (.inl rfl)); have n1_ := Aside0.mk (hb); have n2_ := Aside0.mk (hi); clear HK; clear HB; clear HI0; have HK := n0_; have HB := n1_; have HI0 := n2_; clear n0_ n1_ n2_; (try clear hb); (try clear hb2); (try clear hk); (try clear hi); have p7 : 0 ≤ (0 : Int) := (by omega); have q7 : 0 < t101.size := (by have : (0 : Int) < (t101.size : Int) := of_decide_eq_true (by first | (with_reducible assumption) | assumption); omega); have hx7 : ∀ h : 0 < t101.size, ((t101[0]'h).toNat : Int) = bt t101 0 := bt_at t101 0; clear p7; have qi7 : (0 < (t101.size : Int)) = True := eq_true (of_decide_eq_true (by first | (with_reducible assumption) | assumption)); replace q7 := eq_true q7) | ((with_reducible refine gate_callee (f := 172) rfl ?_); refine goesL_ (some 17) rfl rfl Try.func172 (by kernel_rfl) rfl #[.pointer (some ⟨g, 0, none⟩), .int .i64 1] rfl (by (try simp only [List.map_toArray, List.map_cons, List.map_nil]); first | done | rfl | (simp only [List.length_drop, List.length_take]; rfl)) ?_; (with_reducible refine (cursor_Cursor_take.calls g t102 t103 1 t104 t105 t106 w0 _ ?side1 ?side2 A9.out).mono ?_); (case side1 => repeat (first | (with_reducible first | exact HI0.out | apply IsS176.alloc | apply IsS176.drewN | apply IsS176.drew | apply IsS176.set_0 | apply IsS176.set_1) | exact HI0.out)); (case side2 => repeat (first | (with_reducible first | exact HB.out | apply below_alloc | apply pw_below_drewN | apply below_drew1 | refine below_set ?_ (IsS176.ge HI0.out)) | exact HB.out)); rintro e w11 ⟨rfl, hi, hb, hk⟩; refine ⟨_, rfl, ?_⟩; have n0_ := Aside0.mk (KeepBut.trans (by repeat (first | (with_reducible first | exact HK.out | apply KeepBut.set_ | apply keep_drewN | apply keep_drew | apply keep_alloc) | exact HK.out)) hk (.inl rfl)); have n1_ := Aside0.mk (hb); have n2_ := Aside0.mk (hi); clear HK; clear HB; clear HI0; have HK := n0_; have HB := n1_; have HI0 := n2_; clear n0_ n1_ n2_; (try clear hb); (try clear hb2); (try clear hk); (try clear hi)))
        go_ret
        exact ⟨by first | rfl | (simp [errW_none, errW_some] <;> rfl) | (simp [*, errW_none, errW_some] <;> rfl), by repeat (first | (with_reducible first | exact HI0.out | apply IsS176.alloc | apply IsS176.drewN | apply IsS176.drew | apply IsS176.set_0 | apply IsS176.set_1) | exact HI0.out), by repeat (first | (with_reducible first | exact HB.out | apply below_alloc | apply pw_below_drewN | apply below_drew1 | refine below_set ?_ (IsS176.ge HI0.out)) | exact HB.out), by repeat (first | (with_reducible first | exact HK.out | apply KeepBut.set_ | apply keep_drewN | apply keep_drew | apply keep_alloc) | exact HK.out)⟩
      · rw [if_neg c8] at H
        have c8b0 : ((bt t101 0) == a1) = false := beq_eq_false_iff_ne.mpr c8
        have c8b1 : ((bt t101 0) != a1) = true := bne_iff_ne.mpr c8
        simp only [Option.some.injEq, Prod.mk.injEq] at H
        obtain ⟨rfl, rfl, rfl⟩ := H
        go_enter Try.func135, Try.ntmps135
        go_wp2_with (first | ((with_reducible refine gate_callee (f := 175) rfl ?_); refine goesL_ (some 7) rfl rfl Try.func175 (by kernel_rfl) rfl #[.pointer (some ⟨g, 0, none⟩)] rfl (by (try simp only [List.map_toArray, List.map_cons, List.map_nil]); first | done | rfl | (simp only [List.length_drop, List.length_take]; rfl)) ?_; (with_reducible refine (cursor_Cursor_Left.calls g s0_0 s0_1 t101 t102 t103 w0 _ ?side1 ?side2 A3.out).mono ?_); (case side1 => repeat (first | (with_reducible first | exact HI0.out | apply IsS176.alloc | apply IsS176.drewN | apply IsS176.drew | apply IsS176.set_0 | apply IsS176.set_1) | exact HI0.out)); (case side2 => repeat (first | (with_reducible first | exact HB.out | apply below_alloc | apply pw_below_drewN | apply below_drew1 | refine below_set ?_ (IsS176.ge HI0.out)) | exact HB.out)); rintro e w12 ⟨rfl, hi, hb, hk⟩; refine ⟨_, rfl, ?_⟩; have n0_ := Aside0.mk (KeepBut.trans (by repeat (first | (with_reducible first | exact HK.out | apply KeepBut.set_ | apply keep_drewN | apply keep_drew | apply keep_alloc) | exact HK.out)) hk (.inl rfl)); have n1_ := Aside0.mk (hb); have n2_ := Aside0.mk (hi); clear HK; clear HB; clear HI0; have HK := n0_; have HB := n1_; have HI0 := n2_; clear n0_ n1_ n2_; (try clear hb); (try clear hb2); (try clear hk); (try clear hi); have p7 : 0 ≤ (0 : Int) := (by omega); have q7 : 0 < t101.size := (by have : (0 : Int) < (t101.size : Int) := of_decide_eq_true (by first | (with_reducible assumption) | assumption); omega); have hx7 : ∀ h : 0 < t101.size, ((t101[0]'h).toNat : Int) = bt t101 0 := bt_at t101 0; clear p7; have qi7 : (0 < (t101.size : Int)) = True := eq_true (of_decide_eq_true (by first | (with_reducible assumption) | assumption)); replace q7 := eq_true q7))
        go_ret
        exact ⟨by first | rfl | (simp [errW_none, errW_some] <;> rfl) | (simp [*, errW_none, errW_some] <;> rfl), by repeat (first | (with_reducible first | exact HI0.out | apply IsS176.alloc | apply IsS176.drewN | apply IsS176.drew | apply IsS176.set_0 | apply IsS176.set_1) | exact HI0.out), by repeat (first | (with_reducible first | exact HB.out | apply below_alloc | apply pw_below_drewN | apply below_drew1 | refine below_set ?_ (IsS176.ge HI0.out)) | exact HB.out), by repeat (first | (with_reducible first | exact HK.out | apply KeepBut.set_ | apply keep_drewN | apply keep_drew | apply keep_alloc) | exact HK.out)⟩
    · rw [if_neg c6] at H
      exact absurd H (by simp)
end Go.Proofs.Ytjnhghplfdiijaa.Q

namespace Go.Proofs.Ytjnhghplfdiijaa.Q
open Go.RowKit Go.Proofs.YtjnhghplfdiijaaW.PrintWords Go.Proofs.YtjnhghplfdiijaaW.PrintLast Go.Proofs.YtjnhghplfdiijaaW.PrintMore
attribute [local go_sem] max2_int min2_int max_two min_two max_three min_three max_four min_four
set_option linter.unusedVariables false
set_option linter.unusedSimpArgs false
def cursor_Cursor_Done.f (s0_0 : ByteArray) (s0_1 : Int) : Option (Bool × ByteArray × Int) := (cursor_Cursor_Left.f s0_0 s0_1).bind fun bt101 => (some ((bt101.1.toList == ([] : List UInt8)), bt101.2.1, bt101.2.2))
set_option maxHeartbeats 8000000 in
set_option maxRecDepth 100000 in
theorem cursor_Cursor_Done.calls (g : Nat) (s0_0 : ByteArray) (s0_1 : Int) (r1 : Bool) (r2 : ByteArray) (r3 : Int) (w0 w : World) (hI : IsS176 w0 w g s0_0 s0_1) (hB : Below w0.heap.size w0 w) (h : cursor_Cursor_Done.f s0_0 s0_1 = some (r1, r2, r3)) :
    Calls Try.prog 137 #[.pointer (some ⟨g, 0, none⟩)] w fun e w' => e = .returned (.bool r1) ∧ IsS176 w0 w' g r2 r3 ∧ Below w0.heap.size w0 w' ∧ KeepBut w w' g none := by
  have HI0 := Aside0.mk hI
  have HK := Aside0.mk (KeepBut.refl w g none)
  have HL := Aside0.mk hB.size
  clear hI
  have HW0 := Aside0.mk hB.size
  have HB := Aside0.mk hB
  clear hB
  have H : ((cursor_Cursor_Left.f s0_0 s0_1).bind fun bt101 => (some ((bt101.1.toList == ([] : List UInt8)), bt101.2.1, bt101.2.2))) = some (r1, r2, r3) := h
  clear h
  replace H := Option.bind_eq_some_iff.mp H
  obtain ⟨⟨t101, t102, t103⟩, A20, H⟩ := H
  (try dsimp only at H)
  have A2 := Aside0.mk A20
  clear A20
  simp only [Option.some.injEq, Prod.mk.injEq] at H
  obtain ⟨rfl, rfl, rfl⟩ := H
  go_enter Try.func137, Try.ntmps137
  go_wp2_with (first | ((with_reducible refine gate_callee (f := 175) rfl ?_); refine goesL_ (some 4) rfl rfl Try.func175 (by kernel_rfl) rfl #[.pointer (some ⟨g, 0, none⟩)] rfl (by (try simp only [List.map_toArray, List.map_cons, List.map_nil]); first | done | rfl | (simp only [List.length_drop, List.length_take]; rfl)) ?_; (with_reducible refine (cursor_Cursor_Left.calls g s0_0 s0_1 t101 t102 t103 w0 _ ?side1 ?side2 A2.out).mono ?_); (case side1 => repeat (first | (with_reducible first | exact HI0.out | apply IsS176.alloc | apply IsS176.drewN | apply IsS176.drew | apply IsS176.set_0 | apply IsS176.set_1) | exact HI0.out)); (case side2 => repeat (first | (with_reducible first | exact HB.out | apply below_alloc | apply pw_below_drewN | apply below_drew1 | refine below_set ?_ (IsS176.ge HI0.out)) | exact HB.out)); rintro e w3 ⟨rfl, hi, hb, hk⟩; refine ⟨_, rfl, ?_⟩; have n0_ := Aside0.mk (KeepBut.trans (by repeat (first | (with_reducible first | exact HK.out | apply KeepBut.set_ | apply keep_drewN | apply keep_drew | apply keep_alloc) | exact HK.out)) hk (.inl rfl)); have n1_ := Aside0.mk (hb); have n2_ := Aside0.mk (hi); clear HK; clear HB; clear HI0; have HK := n0_; have HB := n1_; have HI0 := n2_; clear n0_ n1_ n2_; (try clear hb); (try clear hb2); (try clear hk); (try clear hi)))
  go_ret
  exact ⟨by first | rfl | (simp [errW_none, errW_some] <;> rfl) | (simp [*, errW_none, errW_some] <;> rfl), by repeat (first | (with_reducible first | exact HI0.out | apply IsS176.alloc | apply IsS176.drewN | apply IsS176.drew | apply IsS176.set_0 | apply IsS176.set_1) | exact HI0.out), by repeat (first | (with_reducible first | exact HB.out | apply below_alloc | apply pw_below_drewN | apply below_drew1 | refine below_set ?_ (IsS176.ge HI0.out)) | exact HB.out), by repeat (first | (with_reducible first | exact HK.out | apply KeepBut.set_ | apply keep_drewN | apply keep_drew | apply keep_alloc) | exact HK.out)⟩
end Go.Proofs.Ytjnhghplfdiijaa.Q

namespace Go.Proofs.Ytjnhghplfdiijaa.Q
open Go.RowKit Go.Proofs.YtjnhghplfdiijaaW.PrintWords Go.Proofs.YtjnhghplfdiijaaW.PrintLast Go.Proofs.YtjnhghplfdiijaaW.PrintMore Go.Lib Go.Shelf
set_option linter.unusedVariables false
set_option linter.unusedSimpArgs false
/-- What the closure's variables hold: the cursor, whether it went wrong, and the parameters. -/
def NI (w0 W : World) (ok : Nat → Prop) (Bc Bb Bl g : Nat) (bad : Bool) (v : Value) (l : List S141) (s : ByteArray) (a : Int) : Prop :=
  W.heap[Bc]? = some (.cells #[.pointer (some ⟨g, 0, none⟩)] 150 (0, 0)) ∧ W.heap[Bb]? = some (.cells #[.bool bad] 4 (0, 0)) ∧ W.heap[Bl]? = some (.cells #[v] 98 (0, 0)) ∧
  Kd.R k141 141 W w0.heap.size ok v l ∧ IsS176 w0 W g s a ∧ Below w0.heap.size w0 W ∧ (w0.heap.size ≤ Bc ∧ w0.heap.size ≤ Bb ∧ w0.heap.size ≤ Bl)
section
variable {w0 W W1 : World} {ok : Nat → Prop} {Bc Bb Bl g : Nat} {bad : Bool} {v : Value} {l : List S141} {s s1 : ByteArray} {a a1 : Int}
theorem NI.below (h : NI w0 W ok Bc Bb Bl g bad v l s a) (hb : Below W.heap.size W W1) : NI w0 W1 ok Bc Bb Bl g bad v l s a := by
  obtain ⟨h1, h2, h3, h4, h5, h6, h7⟩ := h
  exact ⟨blk_below h1 hb, blk_below h2 hb, blk_below h3 hb, Kd.R_below h4 hb, h5.below hb, h6.trans (hb.mono h6.size), h7⟩
theorem NI.append (h : NI w0 W ok Bc Bb Bl g bad v l s a) {v1 : Value} {l1 : List S141} (hR : Kd.R k141 141 W1 w0.heap.size ok v1 l1) (hg : W.grownBy W1 v.ownBlock) (hB : Below w0.heap.size w0 W1) : NI w0 (W1.setCell ⟨Bl, 0, none⟩ v1) (fun _ => True) Bc Bb Bl g bad v1 l1 s a := by
  obtain ⟨h1, h2, h3, h4, h5, h6, h7⟩ := h
  have g1 := blk_grown h1 hg (Kd.R_ne h4 h1 (by decide))
  have g2 := blk_grown h2 hg (Kd.R_ne h4 h2 (by decide))
  have g3 := blk_grown h3 hg (Kd.R_ne h4 h3 (by decide))
  have g5 := h5.grown hg (Kd.R_ne h4 h5.1 (by decide))
  exact ⟨blk_far g1 (blk_ne g1 g3 (by decide)) _, blk_far g2 (blk_ne g2 g3 (by decide)) _, (blk_set g3 0 _).trans rfl,
    Kd.R_mono (Kd.R_far (p := ⟨Bl, 0, none⟩) (Kd.R_types hR g3 (by intro q hq; change q ∈ [141] at hq; rw [List.mem_singleton.1 hq]; decide)) (fun k hk => hk.2) _) (fun _ _ => trivial), ⟨blk_far g5.1 (blk_ne g5.1 g3 (by decide)) _, g5.2⟩, hB.setCell h7.2.2 _, h7⟩
end
end Go.Proofs.Ytjnhghplfdiijaa.Q

namespace Go.Proofs.Ytjnhghplfdiijaa.Q
open Go.RowKit Go.Proofs.YtjnhghplfdiijaaW.PrintWords Go.Proofs.YtjnhghplfdiijaaW.PrintLast Go.Proofs.YtjnhghplfdiijaaW.PrintMore Go.Lib Go.Shelf
set_option linter.unusedVariables false
set_option linter.unusedSimpArgs false
def restS (s : ByteArray) (n : Nat) : ByteArray := s.extract n s.size
theorem restS_size (s : ByteArray) (n : Nat) : (restS s n).size = s.size - n := by simp [restS]
end Go.Proofs.Ytjnhghplfdiijaa.Q

namespace Go.Proofs.Ytjnhghplfdiijaa.Q
open Go.RowKit Go.Proofs.YtjnhghplfdiijaaW.PrintWords Go.Proofs.YtjnhghplfdiijaaW.PrintLast Go.Proofs.YtjnhghplfdiijaaW.PrintMore
set_option linter.unusedVariables false
set_option linter.unusedSimpArgs false
theorem tl_restS (s : ByteArray) (n : Nat) : tl (restS s n) = (tl s).drop n := by
  unfold restS
  rw [tl_extract, List.take_of_length_le (by rw [List.length_drop, tl_length]; exact Nat.le_refl _)]
theorem restS_zero (s : ByteArray) : restS s 0 = s := tl_inj (by rw [tl_restS, List.drop_zero])
theorem bt_restS (s : ByteArray) (a i : Nat) : bt (restS s a) (i : Int) = bt s ((a + i : Nat) : Int) := by
  rw [bt_nat, bt_nat, tl_restS, List.getElem?_drop]
theorem left_f (s : ByteArray) (a : Nat) (ha : a ≤ s.size) (hs : s.size ≤ 1000000000) : cursor_Cursor_Left.f s (a : Int) = some (restS s a, s, (a : Int)) := by
  unfold cursor_Cursor_Left.f
  rw [if_pos (by omega), if_pos (by omega)]
  rfl
theorem take_f (s : ByteArray) (a : Nat) (ha : a ≤ s.size) (hs : s.size ≤ 1000000000) (n : Nat) (hn : a + n ≤ s.size) : cursor_Cursor_take.f s (a : Int) (n : Int) = some ((restS s a).extract 0 n, s, ((a + n : Nat) : Int)) := by
  unfold cursor_Cursor_take.f
  rw [if_pos ⟨by omega, by omega, by omega, by omega, by omega⟩, Int.toNat_natCast, Int.natCast_add]
  rfl
theorem span_f (s : ByteArray) (a : Nat) (ha : a ≤ s.size) (hs : s.size ≤ 1000000000) (p : Int → Bool) : takeSpan p s (a : Int) = some ((restS s a).extract 0 (spanN p (restS s a)), s, ((a + spanN p (restS s a) : Nat) : Int)) := by
  unfold takeSpan
  rw [if_pos ⟨by omega, by omega, by omega⟩, Int.natCast_add]
  rfl
theorem token_f (s : ByteArray) (a : Nat) (ha : a ≤ s.size) (hs : s.size ≤ 1000000000) : cursor_Cursor_Token.f s (a : Int) = some ((restS s a).extract 0 (spanN tcharI (restS s a)), s, ((a + spanN tcharI (restS s a) : Nat) : Int)) := span_f s a ha hs tcharI
theorem byte_yes (s : ByteArray) (a : Nat) (ha : a ≤ s.size) (hs : s.size ≤ 1000000000) (c : Int) (h : a < s.size) (hc : bt s (a : Int) = c) : cursor_Cursor_Byte.f s (a : Int) c = some (true, s, ((a + 1 : Nat) : Int)) := by
  unfold cursor_Cursor_Byte.f
  rw [left_f s a ha hs]
  simp only [Option.bind_some]
  have hz := restS_size s a
  have hb : bt (restS s a) 0 = c := by have := bt_restS s a 0; rw [Nat.add_zero] at this; rw [← hc]; exact this
  rw [if_neg (by rw [toL_nil]; omega), if_pos (by omega), if_pos hb]
  have := take_f s a ha hs 1 (by omega)
  have e : cursor_Cursor_take.f s (a : Int) 1 = some ((restS s a).extract 0 1, s, ((a + 1 : Nat) : Int)) := this
  rw [e]
  rfl
theorem byte_no (s : ByteArray) (a : Nat) (ha : a ≤ s.size) (hs : s.size ≤ 1000000000) (c : Int) (h : a = s.size ∨ bt s (a : Int) ≠ c) : cursor_Cursor_Byte.f s (a : Int) c = some (false, s, (a : Int)) := by
  unfold cursor_Cursor_Byte.f
  rw [left_f s a ha hs]
  simp only [Option.bind_some]
  have hz := restS_size s a
  by_cases e : a = s.size
  · rw [if_pos (by rw [toL_nil]; omega)]
  · have hb : bt (restS s a) 0 ≠ c := by have := bt_restS s a 0; rw [Nat.add_zero] at this; rw [show bt (restS s a) 0 = _ from this]; exact h.resolve_left e
    rw [if_neg (by rw [toL_nil]; omega), if_pos (by omega), if_neg hb]
theorem done_f (s : ByteArray) (a : Nat) (ha : a ≤ s.size) (hs : s.size ≤ 1000000000) : cursor_Cursor_Done.f s (a : Int) = some (decide (a = s.size), s, (a : Int)) := by
  unfold cursor_Cursor_Done.f
  rw [left_f s a ha hs]
  simp only [Option.bind_some]
  have hz := restS_size s a
  have e : ((restS s a).toList == ([] : List UInt8)) = decide (a = s.size) := by
    rw [Bool.eq_iff_iff, beq_iff_eq, decide_eq_true_eq, toL_nil]
    omega
  rw [e]
theorem value_one (c : UInt8) : octet_Value.f (strOfNums [(c.toNat : Int)]) = some (valC c) := by
  unfold octet_Value.f
  have e : strOfNums [(c.toNat : Int)] = ofl [c] := by simp [strOfNums, ofl]
  rw [e, all8_tl, tl_ofl]
  simp [valC]
def natsOf (l : List UInt8) : List Int := l.map fun c => (c.toNat : Int)
theorem strOf_nats (l : List UInt8) : strOfNums (natsOf l) = ofl l := by
  unfold strOfNums natsOf ofl
  rw [List.map_map]
  congr 1
  have : ((fun n : Int => UInt8.ofNat n.toNat) ∘ fun c : UInt8 => (c.toNat : Int)) = id := by
    funext c; simp
  rw [this, List.map_id]
/-- What the program's Quoted comes to, from octet i of what is left. -/
def quotedP (s : ByteArray) (a : Nat) (t : ByteArray) (o : Option (List UInt8 × List UInt8)) : ByteArray × Bool × ByteArray × Int :=
  match o with | some (v, r) => (ofl v, true, s, ((a + (t.size - r.length) : Nat) : Int)) | none => (⟨#[]⟩, false, s, (a : Int))
theorem pquoted_loop (s : ByteArray) (a : Nat) (ha : a ≤ s.size) (hs : s.size ≤ 1000000000) : ∀ (n : Nat) (r : List UInt8) (i k : Nat) (acc : List UInt8), r.length ≤ n → (tl (restS s a)).drop i = r → acc.length ≤ i → 2 * r.length + 3 < k →
    cursor_Cursor_Quoted.l0 k (restS s a) (natsOf acc) (i : Int) s (a : Int) = some (quotedP s a (restS s a) (qL r acc))
  | n, [], i, k, acc, hn, h, hac, hk => by
    have h1 := at_nil h
    obtain ⟨k, rfl⟩ : ∃ m, k = m + 1 := ⟨k - 1, by omega⟩
    simp only [cursor_Cursor_Quoted.l0]
    rw [if_neg (by omega)]
    unfold qL quotedP
    rfl
  | 0, c :: r, i, k, acc, hn, h, hac, hk => by simp at hn
  | n + 1, c :: r, i, k, acc, hn, h, hac, hk => by
    obtain ⟨h1, h2, h3, _⟩ := at_cons h
    have hz := restS_size s a
    have hw := Aside0.mk (wrap_succ h1 (show (restS s a).size ≤ 9223372036854775807 by omega))
    have hsz : (restS s a).size - r.length = i + 1 := by
      have := congrArg List.length h3
      rw [List.length_drop, tl_length] at this
      omega
    simp only [List.length_cons] at hk hn
    obtain ⟨k, rfl⟩ : ∃ m, k = m + 1 := ⟨k - 1, by omega⟩
    have hal : (natsOf acc).length < 140737488355328 := by unfold natsOf; rw [List.length_map]; omega
    have hsnoc : ∀ d : UInt8, natsOf acc ++ [(d.toNat : Int)] = natsOf (acc ++ [d]) := fun d => by simp [natsOf]
    by_cases e1 : c = 34
    · have e : qL (c :: r) acc = some (acc, r) := by
        cases r with
        | nil => simp only [qL]; rw [if_pos e1]
        | cons d r => simp only [qL]; rw [if_pos e1]
      rw [e]
      simp only [cursor_Cursor_Quoted.l0]
      rw [if_pos (by omega), if_pos (by omega), h2, if_pos ((u34 c).2 e1), hw.out, take_f s a ha hs (i + 1) (by omega)]
      simp only [Option.bind_some, quotedP, strOf_nats]
      rw [hsz]
    by_cases e2 : c = 92
    · obtain ⟨k, rfl⟩ : ∃ m, k = m + 1 := ⟨k - 1, by omega⟩
      cases r with
      | nil =>
        simp only [List.length_nil] at hsz
        have e : qL [c] acc = none := by simp only [qL]; rw [if_neg e1]
        have hb : (((i + 1 : Nat) : Int) == ((restS s a).size : Int)) = true := beq_iff_eq.mpr (by omega)
        rw [e]
        simp only [cursor_Cursor_Quoted.l0]
        rw [if_pos (by omega), if_pos (by omega), h2, if_neg (by rw [u34]; exact e1), if_pos ((u92 c).2 e2), hw.out, hb]
        simp only [cursor_Cursor_Quoted.j2]
        rw [if_pos trivial]
        rfl
      | cons d r =>
        obtain ⟨g1, g2, g3, _⟩ := at_cons h3
        have hb : (((i + 1 : Nat) : Int) == ((restS s a).size : Int)) = false := beq_eq_false_iff_ne.mpr (by omega)
        have hw2 := Aside0.mk (add1 g1 (show (restS s a).size ≤ 9223372036854775807 by omega))
        have e : qL (c :: d :: r) acc = if valC d = true then qL r (acc ++ [d]) else none := by simp only [qL]; rw [if_neg e1, if_pos e2]
        simp only [cursor_Cursor_Quoted.l0]
        rw [if_pos (by omega), if_pos (by omega), h2, if_neg (by rw [u34]; exact e1), if_pos ((u92 c).2 e2), hw.out, hb]
        simp only [cursor_Cursor_Quoted.j2]
        rw [if_neg (by simp), if_pos ((u92 c).2 e2), hw.out, if_pos (by omega), if_pos (by omega), g2, value_one]
        simp only [Option.bind_some]
        rw [e]
        by_cases hv : valC d = true
        · rw [if_pos hv, if_pos hv, if_pos hal, hw2.out, hsnoc]
          exact pquoted_loop s a ha hs n r (i + 2) k (acc ++ [d]) (by simp at hn; omega) g3 (by rw [List.length_append, List.length_singleton]; omega) (by simp at hk; omega)
        · rw [if_neg hv, if_neg hv]
          rfl
    · obtain ⟨k, rfl⟩ : ∃ m, k = m + 1 := ⟨k - 1, by omega⟩
      have e : qL (c :: r) acc = if valC c = true then qL r (acc ++ [c]) else none := by
        cases r with
        | nil => simp only [qL]; rw [if_neg e1]; split <;> rfl
        | cons d r => simp only [qL]; rw [if_neg e1, if_neg e2]
      simp only [cursor_Cursor_Quoted.l0]
      rw [if_pos (by omega), if_pos (by omega), h2, if_neg (by rw [u34]; exact e1), if_neg (by rw [u92]; exact e2)]
      simp only [cursor_Cursor_Quoted.j2]
      rw [if_neg (by simp), if_neg (by rw [u92]; exact e2), value_one]
      simp only [Option.bind_some]
      rw [e]
      by_cases hv : valC c = true
      · rw [if_pos hv, if_pos hv, if_pos hal, hw.out, hsnoc]
        exact pquoted_loop s a ha hs n r (i + 1) k (acc ++ [c]) (by omega) h3 (by rw [List.length_append, List.length_singleton]; omega) (by omega)
      · rw [if_neg hv, if_neg hv]
        rfl
theorem quoted_f (s : ByteArray) (a k : Nat) (ha : a ≤ s.size) (hs : s.size ≤ 1000000000) (hk : 2 * (restS s a).size + 5 < k) : cursor_Cursor_Quoted.f k s (a : Int) = some (quotedP s a (restS s a) (quotedL (tl (restS s a)))) := by
  unfold cursor_Cursor_Quoted.f
  rw [left_f s a ha hs]
  simp only [Option.bind_some]
  obtain ⟨k, rfl⟩ : ∃ m, k = m + 1 := ⟨k - 1, by omega⟩
  cases h : tl (restS s a) with
  | nil =>
    have hz : (restS s a).size = 0 := by rw [← tl_length, h]; rfl
    rw [if_pos (by rw [toL_nil]; exact hz)]
    simp only [cursor_Cursor_Quoted.j0]
    rw [if_pos trivial]
    rfl
  | cons c r =>
    have hl : (restS s a).size = r.length + 1 := by rw [← tl_length, h]; rfl
    obtain ⟨h1, h2, h3, _⟩ := at_cons (s := restS s a) (i := 0) (c := c) (r := r) h
    have h2 : bt (restS s a) 0 = (c.toNat : Int) := h2
    rw [if_neg (by rw [toL_nil]; omega), if_pos (by omega), h2]
    simp only [cursor_Cursor_Quoted.j0, quotedL]
    by_cases e1 : c = 34
    · rw [if_neg (by simp [(u34 c).2 e1]), if_pos e1]
      exact pquoted_loop s a ha hs r.length r 1 k [] (Nat.le_refl _) h3 (by simp) (by omega)
    · rw [if_pos (by simp only [bne_iff_ne, ne_eq, u34]; exact e1), if_neg e1]
      rfl
theorem low_plain (s : ByteArray) (hs : s.size ≤ 1000000000) : octet_Lower.f s = some (lowerS s) := by
  unfold octet_Lower.f
  rw [if_pos (by omega)]
theorem lowerS_size (s : ByteArray) : (lowerS s).size = s.size := by rw [lowerS_tl, ofl_size, List.length_map, tl_length]
end Go.Proofs.Ytjnhghplfdiijaa.Q

namespace Go.Proofs.Ytjnhghplfdiijaa.Q
open Go.RowKit Go.Proofs.YtjnhghplfdiijaaW.PrintWords Go.Proofs.YtjnhghplfdiijaaW.PrintLast Go.Proofs.YtjnhghplfdiijaaW.PrintMore
attribute [local go_sem] max2_int min2_int max_two min_two max_three min_three max_four min_four
set_option linter.unusedVariables false
set_option linter.unusedSimpArgs false
/-- A state of type 170 at block g of W; what its slices lead to came in by w0. -/
def IsS170 (w0 W : World) (g : Nat) (f0 : Bool) (f1 : Bool) (f2 : Int) : Prop := W.heap[g]? = some (.cells #[.bool f0, .bool f1, .int .i64 f2] 170 (0, 0)) ∧ w0.heap.size ≤ g
theorem IsS170.grown {w0 W : World} {g : Nat} {f0 : Bool} {f1 : Bool} {f2 : Int} {W1 : World} {row : Option Nat} (h : IsS170 w0 W g f0 f1 f2) (hw : W.grownBy W1 row) (hne : some g ≠ row) : IsS170 w0 W1 g f0 f1 f2 := by
  obtain ⟨hb, hg⟩ := h
  exact ⟨blk_grown hb hw hne, hg⟩
theorem IsS170.kept {w0 W : World} {g : Nat} {f0 : Bool} {f1 : Bool} {f2 : Int} {W1 : World} {S : Nat → Prop} (h : IsS170 w0 W g f0 f1 f2) (hk : Kept W W1 S) (hne : ¬ S g) : IsS170 w0 W1 g f0 f1 f2 := by
  obtain ⟨hb, hg⟩ := h
  exact ⟨blk_kept hb hk hne, hg⟩
theorem IsS170.below {w0 W : World} {g : Nat} {f0 : Bool} {f1 : Bool} {f2 : Int} {W1 : World} (h : IsS170 w0 W g f0 f1 f2) (hw : Below W.heap.size W W1) : IsS170 w0 W1 g f0 f1 f2 := h.grown (grown_of_below hw none) (by simp)
theorem IsS170.alloc {w0 W : World} {g : Nat} {f0 : Bool} {f1 : Bool} {f2 : Int} (h : IsS170 w0 W g f0 f1 f2) (o : Obj) : IsS170 w0 (W.alloc o) g f0 f1 f2 := h.below (below_alloc (Below.refl _ _) o)
theorem IsS170.drewN {w0 W : World} {g : Nat} {f0 : Bool} {f1 : Bool} {f2 : Int} (h : IsS170 w0 W g f0 f1 f2) (m : Nat) : IsS170 w0 (W.drewN m) g f0 f1 f2 := h
theorem IsS170.drew {w0 W : World} {g : Nat} {f0 : Bool} {f1 : Bool} {f2 : Int} (h : IsS170 w0 W g f0 f1 f2) : IsS170 w0 W.drew g f0 f1 f2 := h
theorem IsS170.apart {w0 W : World} {g : Nat} {f0 : Bool} {f1 : Bool} {f2 : Int} {α : Type} {d : Kd α} {e : Nat} {base : Nat} {ok : Nat → Prop} {v : Value} {xs : List α} (h : IsS170 w0 W g f0 f1 f2) (ho : d.R e W base ok v xs) (ht : ∀ q, q ∈ e :: d.E → q ≠ 170) : d.R e W base (fun k => ok k ∧ k ≠ g) v xs := by
  obtain ⟨hb, hg⟩ := h
  exact Kd.R_types ho hb ht
theorem IsS170.lt {w0 W : World} {g : Nat} {f0 : Bool} {f1 : Bool} {f2 : Int} (h : IsS170 w0 W g f0 f1 f2) : g < W.heap.size := by
  obtain ⟨hb, hg⟩ := h
  exact blk_lt hb
theorem IsS170.ge {w0 W : World} {g : Nat} {f0 : Bool} {f1 : Bool} {f2 : Int} (h : IsS170 w0 W g f0 f1 f2) : w0.heap.size ≤ g := by
  obtain ⟨hb, hg⟩ := h
  exact hg
theorem cellS170_0 {W : World} {g : Nat} {f0 : Bool} {f1 : Bool} {f2 : Int} (h : W.heap[g]? = some (.cells #[.bool f0, .bool f1, .int .i64 f2] 170 (0, 0))) : W.cell? ⟨g, 0, none⟩ = some (.bool f0) := (blk_cell h 0).trans rfl
theorem IsS170.set_0 {w0 W : World} {g : Nat} {f0 : Bool} {f1 : Bool} {f2 : Int} (h : IsS170 w0 W g f0 f1 f2) (x : Bool) : IsS170 w0 (W.setCell ⟨g, 0, none⟩ (.bool x)) g x f1 f2 := by
  obtain ⟨hb, hg⟩ := h
  exact ⟨by simpa using blk_set hb 0 (.bool x), hg⟩
theorem cellS170_1 {W : World} {g : Nat} {f0 : Bool} {f1 : Bool} {f2 : Int} (h : W.heap[g]? = some (.cells #[.bool f0, .bool f1, .int .i64 f2] 170 (0, 0))) : W.cell? ⟨g, 1, none⟩ = some (.bool f1) := (blk_cell h 1).trans rfl
theorem IsS170.set_1 {w0 W : World} {g : Nat} {f0 : Bool} {f1 : Bool} {f2 : Int} (h : IsS170 w0 W g f0 f1 f2) (x : Bool) : IsS170 w0 (W.setCell ⟨g, 1, none⟩ (.bool x)) g f0 x f2 := by
  obtain ⟨hb, hg⟩ := h
  exact ⟨by simpa using blk_set hb 1 (.bool x), hg⟩
theorem cellS170_2 {W : World} {g : Nat} {f0 : Bool} {f1 : Bool} {f2 : Int} (h : W.heap[g]? = some (.cells #[.bool f0, .bool f1, .int .i64 f2] 170 (0, 0))) : W.cell? ⟨g, 2, none⟩ = some (.int .i64 f2) := (blk_cell h 2).trans rfl
theorem IsS170.set_2 {w0 W : World} {g : Nat} {f0 : Bool} {f1 : Bool} {f2 : Int} (h : IsS170 w0 W g f0 f1 f2) (x : Int) : IsS170 w0 (W.setCell ⟨g, 2, none⟩ (.int .i64 x)) g f0 f1 x := by
  obtain ⟨hb, hg⟩ := h
  exact ⟨by simpa using blk_set hb 2 (.int .i64 x), hg⟩
theorem IsS170.new (w0 W : World) (f0 : Bool) (f1 : Bool) (f2 : Int) (hB : Below w0.heap.size w0 W) : IsS170 w0 (W.alloc (.cells #[.bool f0, .bool f1, .int .i64 f2] 170)) W.heap.size f0 f1 f2 := ⟨by simpa using heap_alloc_new W _, hB.size⟩
end Go.Proofs.Ytjnhghplfdiijaa.Q
