/- Asks, part 3: contracts of functions and plain laws, one behind the other (joined by wip/merge.py out of: Q162 Q163 Hscan Hrange Helements Q171 Hnumber Hsplit HidxDir Hhas Q122 Q76 Hpre3 Hcoding). -/
import Derived.Test.YtjnhghplfdiijaaMAsks0
import Derived.Test.YtjnhghplfdiijaaMAsks1
import Derived.Test.YtjnhghplfdiijaaMAsks2
import Derived.RangeFuncNested
import Derived.RangeFuncBound
import Derived.RangeFuncCalls
import Derived.RangeFuncLeaves
import Derived.RangeFuncWrites
import Derived.RangeFuncBox
import Derived.Shelf.Abstract
import Derived.Shelf.RegionOpen
import Derived.WalkKit
import Derived.OwnWalkIn
import Derived.TacticsInMore
import Derived.LoopNIn
import Derived.LoopIn
namespace Go.Proofs.Ytjnhghplfdiijaa.Q
open Go.RowKit Go.Proofs.YtjnhghplfdiijaaW.PrintWords Go.Proofs.YtjnhghplfdiijaaW.PrintLast Go.Proofs.YtjnhghplfdiijaaW.PrintMore
attribute [local go_sem] max2_int min2_int max_two min_two max_three min_three max_four min_four
set_option linter.unusedVariables false
set_option linter.unusedSimpArgs false
def lists_scan_see.j0 : Nat → Int → Bool → Bool → Bool → Int → Option (Bool × Bool × Int)
  | 0, _, _, _, _, _ => none
  | k + 1, x1, x49, x1000, x1001, x1002 => if x49 = true then (some (x1000, x1001, wrap64 (x1002 - 1))) else (if x1002 = 0 then (if x1 = 34 then (some (true, x1001, x1002)) else (some (x1000, x1001, x1002))) else (some (x1000, x1001, x1002)))
def lists_scan_see.f (k : Nat) (s0_0 : Bool) (s0_1 : Bool) (s0_2 : Int) (a1 : Int) : Option (Bool × Bool × Int) := if s0_1 = true then (some (s0_0, false, s0_2)) else (if a1 = 92 then (if s0_0 = true then (some (s0_0, true, s0_2)) else (some (s0_0, decide (s0_2 > 0), s0_2))) else (if s0_0 = true then (some ((a1 != 34), s0_1, s0_2)) else (if a1 = 40 then (some (s0_0, s0_1, wrap64 (s0_2 + 1))) else (if s0_2 > 0 then (lists_scan_see.j0 k a1 (a1 == 41) s0_0 s0_1 s0_2) else (lists_scan_see.j0 k a1 false s0_0 s0_1 s0_2)))))
set_option maxHeartbeats 8000000 in
set_option maxRecDepth 100000 in
theorem lists_scan_see.calls (k : Nat) (g : Nat) (s0_0 : Bool) (s0_1 : Bool) (s0_2 : Int) (a1 : Int) (r1 : Bool) (r2 : Bool) (r3 : Int) (w0 w : World) (hI : IsS170 w0 w g s0_0 s0_1 s0_2) (hB : Below w0.heap.size w0 w) (h : lists_scan_see.f k s0_0 s0_1 s0_2 a1 = some (r1, r2, r3)) :
    Calls Try.prog 162 #[.pointer (some ⟨g, 0, none⟩), .int .u8 a1] w fun e w' => e = .returned (.tuple #[]) ∧ IsS170 w0 w' g r1 r2 r3 ∧ Below w0.heap.size w0 w' ∧ KeepBut w w' g none := by
  have HI0 := Aside0.mk hI
  have HK := Aside0.mk (KeepBut.refl w g none)
  have HL := Aside0.mk hB.size
  clear hI
  have HW0 := Aside0.mk hB.size
  have HB := Aside0.mk hB
  clear hB
  have H : (if s0_1 = true then (some (s0_0, false, s0_2)) else (if a1 = 92 then (if s0_0 = true then (some (s0_0, true, s0_2)) else (some (s0_0, decide (s0_2 > 0), s0_2))) else (if s0_0 = true then (some ((a1 != 34), s0_1, s0_2)) else (if a1 = 40 then (some (s0_0, s0_1, wrap64 (s0_2 + 1))) else (if s0_2 > 0 then (lists_scan_see.j0 k a1 (a1 == 41) s0_0 s0_1 s0_2) else (lists_scan_see.j0 k a1 false s0_0 s0_1 s0_2)))))) = some (r1, r2, r3) := h
  clear h
  by_cases c3 : s0_1 = true
  · subst c3
    have H1 : (some (s0_0, false, s0_2)) = some (r1, r2, r3) := by rw [if_pos rfl] at H; exact H
    clear H
    have H := H1
    clear H1
    simp only [Option.some.injEq, Prod.mk.injEq] at H
    obtain ⟨rfl, rfl, rfl⟩ := H
    obtain ⟨HGz4, hgz4⟩ := HI0.out
    have hcz4_0 := cellS170_0 HGz4
    have hcz4_1 := cellS170_1 HGz4
    have hcz4_2 := cellS170_2 HGz4
    have hfz4_0 := blk_frozen HGz4 0
    have hfz4_1 := blk_frozen HGz4 1
    have hfz4_2 := blk_frozen HGz4 2
    clear HGz4 hgz4
    go_enter Try.func162, Try.ntmps162
    go_wp2
    first | go_end0 | ((try simp only [Exit.inBlock, Exit.then]); refine bodyPost_ret (results_none rfl _ _ _) rfl ?_)
    exact ⟨by first | rfl | (simp [errW_none, errW_some] <;> rfl) | (simp [*, errW_none, errW_some] <;> rfl), by repeat (first | (with_reducible first | exact HI0.out | apply IsS170.alloc | apply IsS170.drewN | apply IsS170.drew | apply IsS170.set_0 | apply IsS170.set_1 | apply IsS170.set_2) | exact HI0.out), by repeat (first | (with_reducible first | exact HB.out | apply below_alloc | apply pw_below_drewN | apply below_drew1 | refine below_set ?_ (IsS170.ge HI0.out)) | exact HB.out), by repeat (first | (with_reducible first | exact HK.out | apply KeepBut.set_ | apply keep_drewN | apply keep_drew | apply keep_alloc) | exact HK.out)⟩
  · replace c3 := Bool.eq_false_iff.mpr c3
    subst c3
    have H1 : (if a1 = 92 then (if s0_0 = true then (some (s0_0, true, s0_2)) else (some (s0_0, decide (s0_2 > 0), s0_2))) else (if s0_0 = true then (some ((a1 != 34), false, s0_2)) else (if a1 = 40 then (some (s0_0, false, wrap64 (s0_2 + 1))) else (if s0_2 > 0 then (lists_scan_see.j0 k a1 (a1 == 41) s0_0 false s0_2) else (lists_scan_see.j0 k a1 false s0_0 false s0_2))))) = some (r1, r2, r3) := by rw [if_neg (show ¬ (false = true) by decide)] at H; exact H
    clear H
    have H := H1
    clear H1
    by_cases c5 : a1 = 92
    · rw [if_pos c5] at H
      have c5b0 : (a1 == 92) = true := beq_iff_eq.mpr c5
      have c5b1 : (a1 != 92) = false := bne_eq_false_iff_eq.mpr c5
      clear c5
      by_cases c6 : s0_0 = true
      · subst c6
        have H1 : (some (true, true, s0_2)) = some (r1, r2, r3) := by rw [if_pos rfl] at H; exact H
        clear H
        have H := H1
        clear H1
        simp only [Option.some.injEq, Prod.mk.injEq] at H
        obtain ⟨rfl, rfl, rfl⟩ := H
        obtain ⟨HGz7, hgz7⟩ := HI0.out
        have hcz7_0 := cellS170_0 HGz7
        have hcz7_1 := cellS170_1 HGz7
        have hcz7_2 := cellS170_2 HGz7
        have hfz7_0 := blk_frozen HGz7 0
        have hfz7_1 := blk_frozen HGz7 1
        have hfz7_2 := blk_frozen HGz7 2
        clear HGz7 hgz7
        go_enter Try.func162, Try.ntmps162
        go_wp2
        first | go_end0 | ((try simp only [Exit.inBlock, Exit.then]); refine bodyPost_ret (results_none rfl _ _ _) rfl ?_)
        exact ⟨by first | rfl | (simp [errW_none, errW_some] <;> rfl) | (simp [*, errW_none, errW_some] <;> rfl), by repeat (first | (with_reducible first | exact HI0.out | apply IsS170.alloc | apply IsS170.drewN | apply IsS170.drew | apply IsS170.set_0 | apply IsS170.set_1 | apply IsS170.set_2) | exact HI0.out), by repeat (first | (with_reducible first | exact HB.out | apply below_alloc | apply pw_below_drewN | apply below_drew1 | refine below_set ?_ (IsS170.ge HI0.out)) | exact HB.out), by repeat (first | (with_reducible first | exact HK.out | apply KeepBut.set_ | apply keep_drewN | apply keep_drew | apply keep_alloc) | exact HK.out)⟩
      · replace c6 := Bool.eq_false_iff.mpr c6
        subst c6
        have H1 : (some (false, decide (s0_2 > 0), s0_2)) = some (r1, r2, r3) := by rw [if_neg (show ¬ (false = true) by decide)] at H; exact H
        clear H
        have H := H1
        clear H1
        simp only [Option.some.injEq, Prod.mk.injEq] at H
        obtain ⟨rfl, rfl, rfl⟩ := H
        obtain ⟨HGz8, hgz8⟩ := HI0.out
        have hcz8_0 := cellS170_0 HGz8
        have hcz8_1 := cellS170_1 HGz8
        have hcz8_2 := cellS170_2 HGz8
        have hfz8_0 := blk_frozen HGz8 0
        have hfz8_1 := blk_frozen HGz8 1
        have hfz8_2 := blk_frozen HGz8 2
        clear HGz8 hgz8
        go_enter Try.func162, Try.ntmps162
        go_wp2
        first | go_end0 | ((try simp only [Exit.inBlock, Exit.then]); refine bodyPost_ret (results_none rfl _ _ _) rfl ?_)
        exact ⟨by first | rfl | (simp [errW_none, errW_some] <;> rfl) | (simp [*, errW_none, errW_some] <;> rfl), by repeat (first | (with_reducible first | exact HI0.out | apply IsS170.alloc | apply IsS170.drewN | apply IsS170.drew | apply IsS170.set_0 | apply IsS170.set_1 | apply IsS170.set_2) | exact HI0.out), by repeat (first | (with_reducible first | exact HB.out | apply below_alloc | apply pw_below_drewN | apply below_drew1 | refine below_set ?_ (IsS170.ge HI0.out)) | exact HB.out), by repeat (first | (with_reducible first | exact HK.out | apply KeepBut.set_ | apply keep_drewN | apply keep_drew | apply keep_alloc) | exact HK.out)⟩
    · rw [if_neg c5] at H
      have c5b0 : (a1 == 92) = false := beq_eq_false_iff_ne.mpr c5
      have c5b1 : (a1 != 92) = true := bne_iff_ne.mpr c5
      by_cases c9 : s0_0 = true
      · subst c9
        have H1 : (some ((a1 != 34), false, s0_2)) = some (r1, r2, r3) := by rw [if_pos rfl] at H; exact H
        clear H
        have H := H1
        clear H1
        simp only [Option.some.injEq, Prod.mk.injEq] at H
        obtain ⟨rfl, rfl, rfl⟩ := H
        obtain ⟨HGz10, hgz10⟩ := HI0.out
        have hcz10_0 := cellS170_0 HGz10
        have hcz10_1 := cellS170_1 HGz10
        have hcz10_2 := cellS170_2 HGz10
        have hfz10_0 := blk_frozen HGz10 0
        have hfz10_1 := blk_frozen HGz10 1
        have hfz10_2 := blk_frozen HGz10 2
        clear HGz10 hgz10
        go_enter Try.func162, Try.ntmps162
        go_wp2
        first | go_end0 | ((try simp only [Exit.inBlock, Exit.then]); refine bodyPost_ret (results_none rfl _ _ _) rfl ?_)
        exact ⟨by first | rfl | (simp [errW_none, errW_some] <;> rfl) | (simp [*, errW_none, errW_some] <;> rfl), by repeat (first | (with_reducible first | exact HI0.out | apply IsS170.alloc | apply IsS170.drewN | apply IsS170.drew | apply IsS170.set_0 | apply IsS170.set_1 | apply IsS170.set_2) | exact HI0.out), by repeat (first | (with_reducible first | exact HB.out | apply below_alloc | apply pw_below_drewN | apply below_drew1 | refine below_set ?_ (IsS170.ge HI0.out)) | exact HB.out), by repeat (first | (with_reducible first | exact HK.out | apply KeepBut.set_ | apply keep_drewN | apply keep_drew | apply keep_alloc) | exact HK.out)⟩
      · replace c9 := Bool.eq_false_iff.mpr c9
        subst c9
        have H1 : (if a1 = 40 then (some (false, false, wrap64 (s0_2 + 1))) else (if s0_2 > 0 then (lists_scan_see.j0 k a1 (a1 == 41) false false s0_2) else (lists_scan_see.j0 k a1 false false false s0_2))) = some (r1, r2, r3) := by rw [if_neg (show ¬ (false = true) by decide)] at H; exact H
        clear H
        have H := H1
        clear H1
        by_cases c11 : a1 = 40
        · rw [if_pos c11] at H
          have c11b0 : (a1 == 40) = true := beq_iff_eq.mpr c11
          have c11b1 : (a1 != 40) = false := bne_eq_false_iff_eq.mpr c11
          clear c11
          simp only [Option.some.injEq, Prod.mk.injEq] at H
          obtain ⟨rfl, rfl, rfl⟩ := H
          obtain ⟨HGz12, hgz12⟩ := HI0.out
          have hcz12_0 := cellS170_0 HGz12
          have hcz12_1 := cellS170_1 HGz12
          have hcz12_2 := cellS170_2 HGz12
          have hfz12_0 := blk_frozen HGz12 0
          have hfz12_1 := blk_frozen HGz12 1
          have hfz12_2 := blk_frozen HGz12 2
          clear HGz12 hgz12
          go_enter Try.func162, Try.ntmps162
          go_wp2
          first | go_end0 | ((try simp only [Exit.inBlock, Exit.then]); refine bodyPost_ret (results_none rfl _ _ _) rfl ?_)
          exact ⟨by first | rfl | (simp [errW_none, errW_some] <;> rfl) | (simp [*, errW_none, errW_some] <;> rfl), by repeat (first | (with_reducible first | exact HI0.out | apply IsS170.alloc | apply IsS170.drewN | apply IsS170.drew | apply IsS170.set_0 | apply IsS170.set_1 | apply IsS170.set_2) | exact HI0.out), by repeat (first | (with_reducible first | exact HB.out | apply below_alloc | apply pw_below_drewN | apply below_drew1 | refine below_set ?_ (IsS170.ge HI0.out)) | exact HB.out), by repeat (first | (with_reducible first | exact HK.out | apply KeepBut.set_ | apply keep_drewN | apply keep_drew | apply keep_alloc) | exact HK.out)⟩
        · rw [if_neg c11] at H
          have c11b0 : (a1 == 40) = false := beq_eq_false_iff_ne.mpr c11
          have c11b1 : (a1 != 40) = true := bne_iff_ne.mpr c11
          have HC13 := Aside0.mk H
          clear H
          obtain ⟨HGz14, hgz14⟩ := HI0.out
          have hcz14_0 := cellS170_0 HGz14
          have hcz14_1 := cellS170_1 HGz14
          have hcz14_2 := cellS170_2 HGz14
          have hfz14_0 := blk_frozen HGz14 0
          have hfz14_1 := blk_frozen HGz14 1
          have hfz14_2 := blk_frozen HGz14 2
          clear HGz14 hgz14
          go_enter Try.func162, Try.ntmps162
          go_upto_region 8 with (fail)
          go_cut [49] (fun v49 wc => ∃ (kq : Nat) (x49_12 : Bool), v49 = .bool x49_12 ∧ Aside0 (lists_scan_see.j0 kq a1 x49_12 false false s0_2 = some (r1, r2, r3)) ∧ Aside0 (kq ≤ k) ∧ Aside0 (IsS170 w0 wc g false false s0_2) ∧ Aside0 (KeepBut w wc g none) ∧ Aside0 (Below w0.heap.size w0 wc))
          case first =>
            have H := HC13.out
            clear HC13
            by_cases c15 : s0_2 > 0
            · rw [if_pos c15] at H
              have c15b0 : decide (0 < s0_2) = true := decide_eq_true c15
              clear c15
              (first | rw [c15b0] | (simp only [i64_w, i32_w]; rw [c15b0]) | skip)
              have H' := Aside0.mk H
              clear H
              obtain ⟨HGz16, hgz16⟩ := HI0.out
              have hcz16_0 := cellS170_0 HGz16
              have hcz16_1 := cellS170_1 HGz16
              have hcz16_2 := cellS170_2 HGz16
              have hfz16_0 := blk_frozen HGz16 0
              have hfz16_1 := blk_frozen HGz16 1
              have hfz16_2 := blk_frozen HGz16 2
              clear HGz16 hgz16
              go_wp2
              go_meet
              case rel => exact ⟨_, ((a1 == 41)), (by first | rfl | (simp; done) | (simp [*]; done)), H', ⟨by first | omega | exact Nat.le_refl _⟩, ⟨by repeat (first | (with_reducible first | exact HI0.out | apply IsS170.alloc | apply IsS170.drewN | apply IsS170.drew | apply IsS170.set_0 | apply IsS170.set_1 | apply IsS170.set_2) | exact HI0.out)⟩, ⟨by repeat (first | (with_reducible first | exact HK.out | apply KeepBut.set_ | apply keep_drewN | apply keep_drew | apply keep_alloc) | exact HK.out)⟩, ⟨by repeat (first | (with_reducible first | exact HB.out | apply below_alloc | apply pw_below_drewN | apply below_drew1 | refine below_set ?_ (IsS170.ge HI0.out)) | exact HB.out)⟩⟩
            · rw [if_neg c15] at H
              have c15b0 : decide (0 < s0_2) = false := decide_eq_false c15
              clear c15
              (first | rw [c15b0] | (simp only [i64_w, i32_w]; rw [c15b0]) | skip)
              have H' := Aside0.mk H
              clear H
              obtain ⟨HGz17, hgz17⟩ := HI0.out
              have hcz17_0 := cellS170_0 HGz17
              have hcz17_1 := cellS170_1 HGz17
              have hcz17_2 := cellS170_2 HGz17
              have hfz17_0 := blk_frozen HGz17 0
              have hfz17_1 := blk_frozen HGz17 1
              have hfz17_2 := blk_frozen HGz17 2
              clear HGz17 hgz17
              go_wp2
              go_meet
              case rel => exact ⟨_, (false), (by first | rfl | (simp; done) | (simp [*]; done)), H', ⟨by first | omega | exact Nat.le_refl _⟩, ⟨by repeat (first | (with_reducible first | exact HI0.out | apply IsS170.alloc | apply IsS170.drewN | apply IsS170.drew | apply IsS170.set_0 | apply IsS170.set_1 | apply IsS170.set_2) | exact HI0.out)⟩, ⟨by repeat (first | (with_reducible first | exact HK.out | apply KeepBut.set_ | apply keep_drewN | apply keep_drew | apply keep_alloc) | exact HK.out)⟩, ⟨by repeat (first | (with_reducible first | exact HB.out | apply below_alloc | apply pw_below_drewN | apply below_drew1 | refine below_set ?_ (IsS170.ge HI0.out)) | exact HB.out)⟩⟩
          case rest =>
            clear HC13
            try clear c1
            try clear p2
            try clear c3
            try clear c5
            try clear c5b0
            try clear c5b1
            try clear c6
            try clear p6
            try clear c9
            try clear c11
            try clear c11b0
            try clear c11b1
            try clear c15
            try clear c15b0
            try clear c16
            try clear hcz10_0
            try clear hcz10_1
            try clear hcz10_2
            try clear hcz12_0
            try clear hcz12_1
            try clear hcz12_2
            try clear hcz14_0
            try clear hcz14_1
            try clear hcz14_2
            try clear hcz16_0
            try clear hcz16_1
            try clear hcz16_2
            try clear hcz17_0
            try clear hcz17_1
            try clear hcz17_2
            try clear hcz4_0
            try clear hcz4_1
            try clear hcz4_2
            try clear hcz7_0
            try clear hcz7_1
            try clear hcz7_2
            try clear hcz8_0
            try clear hcz8_1
            try clear hcz8_2
            try clear hfz10_0
            try clear hfz10_1
            try clear hfz10_2
            try clear hfz12_0
            try clear hfz12_1
            try clear hfz12_2
            try clear hfz14_0
            try clear hfz14_1
            try clear hfz14_2
            try clear hfz16_0
            try clear hfz16_1
            try clear hfz16_2
            try clear hfz17_0
            try clear hfz17_1
            try clear hfz17_2
            try clear hfz4_0
            try clear hfz4_1
            try clear hfz4_2
            try clear hfz7_0
            try clear hfz7_1
            try clear hfz7_2
            try clear hfz8_0
            try clear hfz8_1
            try clear hfz8_2
            obtain ⟨kq, x49_12, rfl, HA, HJ12, HI0, HK, HB⟩ := hcut
            cases kq with
            | zero => exact absurd HA.out (by simp [lists_scan_see.j0])
            | succ kj12 =>
              have H := HA.out
              clear HA
              simp only [lists_scan_see.j0] at H
              by_cases c18 : x49_12 = true
              · subst c18
                have H1 : (some (false, false, wrap64 (s0_2 - 1))) = some (r1, r2, r3) := by rw [if_pos rfl] at H; exact H
                clear H
                have H := H1
                clear H1
                simp only [Option.some.injEq, Prod.mk.injEq] at H
                obtain ⟨rfl, rfl, rfl⟩ := H
                obtain ⟨HGz19, hgz19⟩ := HI0.out
                have hcz19_0 := cellS170_0 HGz19
                have hcz19_1 := cellS170_1 HGz19
                have hcz19_2 := cellS170_2 HGz19
                have hfz19_0 := blk_frozen HGz19 0
                have hfz19_1 := blk_frozen HGz19 1
                have hfz19_2 := blk_frozen HGz19 2
                clear HGz19 hgz19
                go_wp2
                first | go_end0 | ((try simp only [Exit.inBlock, Exit.then]); refine bodyPost_ret (results_none rfl _ _ _) rfl ?_)
                exact ⟨by first | rfl | (simp [errW_none, errW_some] <;> rfl) | (simp [*, errW_none, errW_some] <;> rfl), by repeat (first | (with_reducible first | exact HI0.out | apply IsS170.alloc | apply IsS170.drewN | apply IsS170.drew | apply IsS170.set_0 | apply IsS170.set_1 | apply IsS170.set_2) | exact HI0.out), by repeat (first | (with_reducible first | exact HB.out | apply below_alloc | apply pw_below_drewN | apply below_drew1 | refine below_set ?_ (IsS170.ge HI0.out)) | exact HB.out), by repeat (first | (with_reducible first | exact HK.out | apply KeepBut.set_ | apply keep_drewN | apply keep_drew | apply keep_alloc) | exact HK.out)⟩
              · replace c18 := Bool.eq_false_iff.mpr c18
                subst c18
                have H1 : (if s0_2 = 0 then (if a1 = 34 then (some (true, false, s0_2)) else (some (false, false, s0_2))) else (some (false, false, s0_2))) = some (r1, r2, r3) := by rw [if_neg (show ¬ (false = true) by decide)] at H; exact H
                clear H
                have H := H1
                clear H1
                by_cases c20 : s0_2 = 0
                · rw [if_pos c20] at H
                  have c20b0 : (s0_2 == 0) = true := beq_iff_eq.mpr c20
                  have c20b1 : (s0_2 != 0) = false := bne_eq_false_iff_eq.mpr c20
                  clear c20
                  by_cases c21 : a1 = 34
                  · rw [if_pos c21] at H
                    have c21b0 : (a1 == 34) = true := beq_iff_eq.mpr c21
                    have c21b1 : (a1 != 34) = false := bne_eq_false_iff_eq.mpr c21
                    clear c21
                    simp only [Option.some.injEq, Prod.mk.injEq] at H
                    obtain ⟨rfl, rfl, rfl⟩ := H
                    obtain ⟨HGz22, hgz22⟩ := HI0.out
                    have hcz22_0 := cellS170_0 HGz22
                    have hcz22_1 := cellS170_1 HGz22
                    have hcz22_2 := cellS170_2 HGz22
                    have hfz22_0 := blk_frozen HGz22 0
                    have hfz22_1 := blk_frozen HGz22 1
                    have hfz22_2 := blk_frozen HGz22 2
                    clear HGz22 hgz22
                    go_wp2
                    first | go_end0 | ((try simp only [Exit.inBlock, Exit.then]); refine bodyPost_ret (results_none rfl _ _ _) rfl ?_)
                    exact ⟨by first | rfl | (simp [errW_none, errW_some] <;> rfl) | (simp [*, errW_none, errW_some] <;> rfl), by repeat (first | (with_reducible first | exact HI0.out | apply IsS170.alloc | apply IsS170.drewN | apply IsS170.drew | apply IsS170.set_0 | apply IsS170.set_1 | apply IsS170.set_2) | exact HI0.out), by repeat (first | (with_reducible first | exact HB.out | apply below_alloc | apply pw_below_drewN | apply below_drew1 | refine below_set ?_ (IsS170.ge HI0.out)) | exact HB.out), by repeat (first | (with_reducible first | exact HK.out | apply KeepBut.set_ | apply keep_drewN | apply keep_drew | apply keep_alloc) | exact HK.out)⟩
                  · rw [if_neg c21] at H
                    have c21b0 : (a1 == 34) = false := beq_eq_false_iff_ne.mpr c21
                    have c21b1 : (a1 != 34) = true := bne_iff_ne.mpr c21
                    simp only [Option.some.injEq, Prod.mk.injEq] at H
                    obtain ⟨rfl, rfl, rfl⟩ := H
                    obtain ⟨HGz23, hgz23⟩ := HI0.out
                    have hcz23_0 := cellS170_0 HGz23
                    have hcz23_1 := cellS170_1 HGz23
                    have hcz23_2 := cellS170_2 HGz23
                    have hfz23_0 := blk_frozen HGz23 0
                    have hfz23_1 := blk_frozen HGz23 1
                    have hfz23_2 := blk_frozen HGz23 2
                    clear HGz23 hgz23
                    go_wp2
                    first | go_end0 | ((try simp only [Exit.inBlock, Exit.then]); refine bodyPost_ret (results_none rfl _ _ _) rfl ?_)
                    exact ⟨by first | rfl | (simp [errW_none, errW_some] <;> rfl) | (simp [*, errW_none, errW_some] <;> rfl), by repeat (first | (with_reducible first | exact HI0.out | apply IsS170.alloc | apply IsS170.drewN | apply IsS170.drew | apply IsS170.set_0 | apply IsS170.set_1 | apply IsS170.set_2) | exact HI0.out), by repeat (first | (with_reducible first | exact HB.out | apply below_alloc | apply pw_below_drewN | apply below_drew1 | refine below_set ?_ (IsS170.ge HI0.out)) | exact HB.out), by repeat (first | (with_reducible first | exact HK.out | apply KeepBut.set_ | apply keep_drewN | apply keep_drew | apply keep_alloc) | exact HK.out)⟩
                · rw [if_neg c20] at H
                  have c20b0 : (s0_2 == 0) = false := beq_eq_false_iff_ne.mpr c20
                  have c20b1 : (s0_2 != 0) = true := bne_iff_ne.mpr c20
                  simp only [Option.some.injEq, Prod.mk.injEq] at H
                  obtain ⟨rfl, rfl, rfl⟩ := H
                  obtain ⟨HGz24, hgz24⟩ := HI0.out
                  have hcz24_0 := cellS170_0 HGz24
                  have hcz24_1 := cellS170_1 HGz24
                  have hcz24_2 := cellS170_2 HGz24
                  have hfz24_0 := blk_frozen HGz24 0
                  have hfz24_1 := blk_frozen HGz24 1
                  have hfz24_2 := blk_frozen HGz24 2
                  clear HGz24 hgz24
                  go_wp2
                  first | go_end0 | ((try simp only [Exit.inBlock, Exit.then]); refine bodyPost_ret (results_none rfl _ _ _) rfl ?_)
                  exact ⟨by first | rfl | (simp [errW_none, errW_some] <;> rfl) | (simp [*, errW_none, errW_some] <;> rfl), by repeat (first | (with_reducible first | exact HI0.out | apply IsS170.alloc | apply IsS170.drewN | apply IsS170.drew | apply IsS170.set_0 | apply IsS170.set_1 | apply IsS170.set_2) | exact HI0.out), by repeat (first | (with_reducible first | exact HB.out | apply below_alloc | apply pw_below_drewN | apply below_drew1 | refine below_set ?_ (IsS170.ge HI0.out)) | exact HB.out), by repeat (first | (with_reducible first | exact HK.out | apply KeepBut.set_ | apply keep_drewN | apply keep_drew | apply keep_alloc) | exact HK.out)⟩
end Go.Proofs.Ytjnhghplfdiijaa.Q

namespace Go.Proofs.Ytjnhghplfdiijaa.Q
open Go.RowKit Go.Proofs.YtjnhghplfdiijaaW.PrintWords Go.Proofs.YtjnhghplfdiijaaW.PrintLast Go.Proofs.YtjnhghplfdiijaaW.PrintMore
attribute [local go_sem] max2_int min2_int max_two min_two max_three min_three max_four min_four
set_option linter.unusedVariables false
set_option linter.unusedSimpArgs false
def lists_scan_closed.f (s0_0 : Bool) (s0_1 : Bool) (s0_2 : Int) : Option (Bool × Bool × Bool × Int) := if s0_0 = true then (some (false, s0_0, s0_1, s0_2)) else (if s0_1 = true then (some (false, s0_0, s0_1, s0_2)) else (some ((s0_2 == 0), s0_0, s0_1, s0_2)))
set_option maxHeartbeats 8000000 in
set_option maxRecDepth 100000 in
theorem lists_scan_closed.calls (g : Nat) (s0_0 : Bool) (s0_1 : Bool) (s0_2 : Int) (r1 : Bool) (r2 : Bool) (r3 : Bool) (r4 : Int) (w0 w : World) (hI : IsS170 w0 w g s0_0 s0_1 s0_2) (hB : Below w0.heap.size w0 w) (h : lists_scan_closed.f s0_0 s0_1 s0_2 = some (r1, r2, r3, r4)) :
    Calls Try.prog 163 #[.pointer (some ⟨g, 0, none⟩)] w fun e w' => e = .returned (.bool r1) ∧ IsS170 w0 w' g r2 r3 r4 ∧ Below w0.heap.size w0 w' ∧ KeepBut w w' g none := by
  have HI0 := Aside0.mk hI
  have HK := Aside0.mk (KeepBut.refl w g none)
  have HL := Aside0.mk hB.size
  clear hI
  have HW0 := Aside0.mk hB.size
  have HB := Aside0.mk hB
  clear hB
  have H : (if s0_0 = true then (some (false, s0_0, s0_1, s0_2)) else (if s0_1 = true then (some (false, s0_0, s0_1, s0_2)) else (some ((s0_2 == 0), s0_0, s0_1, s0_2)))) = some (r1, r2, r3, r4) := h
  clear h
  by_cases c2 : s0_0 = true
  · subst c2
    have H1 : (some (false, true, s0_1, s0_2)) = some (r1, r2, r3, r4) := by rw [if_pos rfl] at H; exact H
    clear H
    have H := H1
    clear H1
    simp only [Option.some.injEq, Prod.mk.injEq] at H
    obtain ⟨rfl, rfl, rfl, rfl⟩ := H
    obtain ⟨HGz3, hgz3⟩ := HI0.out
    have hcz3_0 := cellS170_0 HGz3
    have hcz3_1 := cellS170_1 HGz3
    have hcz3_2 := cellS170_2 HGz3
    have hfz3_0 := blk_frozen HGz3 0
    have hfz3_1 := blk_frozen HGz3 1
    have hfz3_2 := blk_frozen HGz3 2
    clear HGz3 hgz3
    go_enter Try.func163, Try.ntmps163
    go_wp2
    go_ret
    exact ⟨by first | rfl | (simp [errW_none, errW_some] <;> rfl) | (simp [*, errW_none, errW_some] <;> rfl), by repeat (first | (with_reducible first | exact HI0.out | apply IsS170.alloc | apply IsS170.drewN | apply IsS170.drew | apply IsS170.set_0 | apply IsS170.set_1 | apply IsS170.set_2) | exact HI0.out), by repeat (first | (with_reducible first | exact HB.out | apply below_alloc | apply pw_below_drewN | apply below_drew1 | refine below_set ?_ (IsS170.ge HI0.out)) | exact HB.out), by repeat (first | (with_reducible first | exact HK.out | apply KeepBut.set_ | apply keep_drewN | apply keep_drew | apply keep_alloc) | exact HK.out)⟩
  · replace c2 := Bool.eq_false_iff.mpr c2
    subst c2
    have H1 : (if s0_1 = true then (some (false, false, s0_1, s0_2)) else (some ((s0_2 == 0), false, s0_1, s0_2))) = some (r1, r2, r3, r4) := by rw [if_neg (show ¬ (false = true) by decide)] at H; exact H
    clear H
    have H := H1
    clear H1
    by_cases c4 : s0_1 = true
    · subst c4
      have H1 : (some (false, false, true, s0_2)) = some (r1, r2, r3, r4) := by rw [if_pos rfl] at H; exact H
      clear H
      have H := H1
      clear H1
      simp only [Option.some.injEq, Prod.mk.injEq] at H
      obtain ⟨rfl, rfl, rfl, rfl⟩ := H
      obtain ⟨HGz5, hgz5⟩ := HI0.out
      have hcz5_0 := cellS170_0 HGz5
      have hcz5_1 := cellS170_1 HGz5
      have hcz5_2 := cellS170_2 HGz5
      have hfz5_0 := blk_frozen HGz5 0
      have hfz5_1 := blk_frozen HGz5 1
      have hfz5_2 := blk_frozen HGz5 2
      clear HGz5 hgz5
      go_enter Try.func163, Try.ntmps163
      go_wp2
      go_ret
      exact ⟨by first | rfl | (simp [errW_none, errW_some] <;> rfl) | (simp [*, errW_none, errW_some] <;> rfl), by repeat (first | (with_reducible first | exact HI0.out | apply IsS170.alloc | apply IsS170.drewN | apply IsS170.drew | apply IsS170.set_0 | apply IsS170.set_1 | apply IsS170.set_2) | exact HI0.out), by repeat (first | (with_reducible first | exact HB.out | apply below_alloc | apply pw_below_drewN | apply below_drew1 | refine below_set ?_ (IsS170.ge HI0.out)) | exact HB.out), by repeat (first | (with_reducible first | exact HK.out | apply KeepBut.set_ | apply keep_drewN | apply keep_drew | apply keep_alloc) | exact HK.out)⟩
    · replace c4 := Bool.eq_false_iff.mpr c4
      subst c4
      have H1 : (some ((s0_2 == 0), false, false, s0_2)) = some (r1, r2, r3, r4) := by rw [if_neg (show ¬ (false = true) by decide)] at H; exact H
      clear H
      have H := H1
      clear H1
      simp only [Option.some.injEq, Prod.mk.injEq] at H
      obtain ⟨rfl, rfl, rfl, rfl⟩ := H
      obtain ⟨HGz6, hgz6⟩ := HI0.out
      have hcz6_0 := cellS170_0 HGz6
      have hcz6_1 := cellS170_1 HGz6
      have hcz6_2 := cellS170_2 HGz6
      have hfz6_0 := blk_frozen HGz6 0
      have hfz6_1 := blk_frozen HGz6 1
      have hfz6_2 := blk_frozen HGz6 2
      clear HGz6 hgz6
      go_enter Try.func163, Try.ntmps163
      go_wp2
      go_ret
      exact ⟨by first | rfl | (simp [errW_none, errW_some] <;> rfl) | (simp [*, errW_none, errW_some] <;> rfl), by repeat (first | (with_reducible first | exact HI0.out | apply IsS170.alloc | apply IsS170.drewN | apply IsS170.drew | apply IsS170.set_0 | apply IsS170.set_1 | apply IsS170.set_2) | exact HI0.out), by repeat (first | (with_reducible first | exact HB.out | apply below_alloc | apply pw_below_drewN | apply below_drew1 | refine below_set ?_ (IsS170.ge HI0.out)) | exact HB.out), by repeat (first | (with_reducible first | exact HK.out | apply KeepBut.set_ | apply keep_drewN | apply keep_drew | apply keep_alloc) | exact HK.out)⟩
end Go.Proofs.Ytjnhghplfdiijaa.Q

namespace Go.Proofs.Ytjnhghplfdiijaa.Q
open Go.RowKit Go.Proofs.YtjnhghplfdiijaaW.PrintWords Go.Proofs.YtjnhghplfdiijaaW.PrintLast Go.Proofs.YtjnhghplfdiijaaW.PrintMore Go.Lib Go.Shelf
set_option linter.unusedVariables false
set_option linter.unusedSimpArgs false
/-- What an octet does to a scan: quoted, slash, deep. -/
def seeP (q sl : Bool) (d c : Int) : Bool × Bool × Int :=
  if sl = true then (q, false, d) else if c = 92 then (q, q || decide (0 < d), d) else if q = true then (c != 34, sl, d)
  else if c = 40 then (q, sl, d + 1) else if 0 < d ∧ c = 41 then (q, sl, d - 1) else if d = 0 ∧ c = 34 then (true, sl, d) else (q, sl, d)
def closedP (q sl : Bool) (d : Int) : Bool := !q && !sl && decide (d = 0)
theorem seeP_range (q sl : Bool) (d c : Int) (h : 0 ≤ d) : 0 ≤ (seeP q sl d c).2.2 ∧ (seeP q sl d c).2.2 ≤ d + 1 := by
  unfold seeP
  repeat' split
  all_goals simp only
  all_goals omega
theorem see_f (q sl : Bool) (d c : Int) (h0 : 0 ≤ d) (h1 : d ≤ 4611686018427387904) : lists_scan_see.f 1 q sl d c = some (seeP q sl d c) := by
  unfold lists_scan_see.f seeP
  by_cases hs : sl = true
  · rw [if_pos hs, if_pos hs]
  rw [if_neg hs, if_neg hs]
  by_cases hc : c = 92
  · rw [if_pos hc, if_pos hc]
    cases q <;> simp
  rw [if_neg hc, if_neg hc]
  by_cases hq : q = true
  · rw [if_pos hq, if_pos hq]
  rw [if_neg hq, if_neg hq]
  by_cases hp : c = 40
  · rw [if_pos hp, if_pos hp]
    rw [show wrap64 (d + 1) = d + 1 by unfold wrap64; omega]
  rw [if_neg hp, if_neg hp]
  by_cases hd : 0 < d
  · rw [if_pos (show d > 0 from hd)]
    by_cases h41 : c = 41
    · rw [if_pos ⟨hd, h41⟩]
      simp only [lists_scan_see.j0, h41]
      rw [if_pos (by simp), show wrap64 (d - 1) = d - 1 by unfold wrap64; omega]
    · rw [if_neg (by omega), if_neg (by omega)]
      simp only [lists_scan_see.j0]
      rw [if_neg (by simpa using h41), if_neg (by omega)]
  · rw [if_neg (by omega), if_neg (by omega)]
    simp only [lists_scan_see.j0]
    rw [if_neg (by simp)]
    by_cases h34 : c = 34
    · rw [if_pos (by omega), if_pos h34, if_pos ⟨by omega, h34⟩]
    · rw [if_pos (by omega), if_neg h34, if_neg (by omega)]
theorem closed_f (q sl : Bool) (d : Int) : lists_scan_closed.f q sl d = some (closedP q sl d, q, sl, d) := by
  unfold lists_scan_closed.f closedP
  cases q <;> cases sl <;> simp [BEq.beq]
/-- The scan of the octets from i on. -/
def scanP (s : ByteArray) : Nat → Nat → Bool × Bool × Int → Bool × Bool × Int
  | 0, _, t => t
  | r + 1, i, t => scanP s r (i + 1) (seeP t.1 t.2.1 t.2.2 (bt s (i : Int)))
/-- Does all that is closed in end? -/
def endsP (s : ByteArray) : Bool := let t := scanP s s.size 0 (false, false, 0); closedP t.1 t.2.1 t.2.2
/-- What stands between commas that are not closed in, from octet i on; a piece has begun at 'from'. -/
def cutsP (s : ByteArray) : Nat → Nat → Nat → Bool → Bool → Int → List ByteArray
  | 0, _, fr, _, _, _ => [s.extract fr s.size]
  | r + 1, i, fr, q, sl, d =>
    if bt s (i : Int) = 44 ∧ closedP q sl d = true then s.extract fr i :: cutsP s r (i + 1) (i + 1) q sl d
    else cutsP s r (i + 1) fr (seeP q sl d (bt s (i : Int))).1 (seeP q sl d (bt s (i : Int))).2.1 (seeP q sl d (bt s (i : Int))).2.2
def elemsP (s : ByteArray) : List ByteArray := cutsP s s.size 0 0 false false 0
theorem cutsP_length (s : ByteArray) : ∀ (r i fr : Nat) (q sl : Bool) (d : Int), (cutsP s r i fr q sl d).length ≤ r + 1
  | 0, _, _, _, _, _ => by simp [cutsP]
  | r + 1, i, fr, q, sl, d => by
    unfold cutsP
    split
    · have := cutsP_length s r (i + 1) (i + 1) q sl d
      simp only [List.length_cons]
      omega
    · have := cutsP_length s r (i + 1) fr (seeP q sl d (bt s (i : Int))).1 (seeP q sl d (bt s (i : Int))).2.1 (seeP q sl d (bt s (i : Int))).2.2
      omega
set_option maxHeartbeats 2000000 in
theorem ends_any (s : ByteArray) (w : World) (hs : s.size ≤ 4611686018427387904) :
    Calls Try.prog 117 #[.string s] w fun e w' => e = .returned (.bool (endsP s)) ∧ Below w.heap.size w w' := by
  obtain ⟨R, hR⟩ : ∃ R, scanP s s.size 0 (false, false, 0) = R := ⟨_, rfl⟩
  have HE : Aside0 (endsP s = closedP R.1 R.2.1 R.2.2) := ⟨by unfold endsP; rw [hR]⟩
  have HR := Aside0.mk hR
  clear hR
  generalize endsP s = B at HE ⊢
  go_enter Try.func117, Try.ntmps117
  go_wp2
  go_loopg [4, 7] s.size (fun gg _ vi wr => ∃ (i : Nat) (q sl : Bool) (d : Int), vi = .int .i64 i ∧ i ≤ s.size ∧ s.size - i ≤ gg ∧ 0 ≤ d ∧ d ≤ i ∧ Aside0 (IsS170 w wr w.heap.size q sl d) ∧ Aside0 (scanP s (s.size - i) i (q, sl, d) = R) ∧ Aside0 (Below w.heap.size w wr))
  case atStart => exact ⟨0, false, false, 0, rfl, Nat.zero_le _, by omega, by omega, by omega, ⟨IsS170.new w w false false 0 (Below.refl _ _)⟩, HR, ⟨(Below.refl _ _).alloc (Nat.le_refl _) _⟩⟩
  case round =>
    obtain ⟨i, q, sl, d, rfl, hi, hgg, hd0, hd1, HI, HN, HB⟩ := hrel
    by_cases hlt : i < s.size
    · have hbt : ∀ h : i < s.size, ((s[i]'h).toNat : Int) = bt s (i : Int) := fun h => bt_at s (i : Int) h
      have HN2 : Aside0 (scanP s (s.size - (i + 1)) (i + 1) (seeP q sl d (bt s (i : Int))) = R) := ⟨by
        have := HN.out
        rw [show s.size - i = (s.size - (i + 1)) + 1 by omega] at this
        exact this⟩
      have hrng := seeP_range q sl d (bt s (i : Int)) hd0
      obtain ⟨⟨q2, sl2, d2⟩, hT⟩ : ∃ t, seeP q sl d (bt s (i : Int)) = t := ⟨_, rfl⟩
      have HF : Aside0 (lists_scan_see.f 1 q sl d (bt s (i : Int)) = some (q2, sl2, d2)) := ⟨by rw [see_f q sl d _ hd0 (by omega), hT]⟩
      rw [hT] at HN2 hrng
      clear hT HN
      simp only at hrng
      go_wp2_with fail
      refine (lists_scan_see.calls 1 w.heap.size q sl d (bt s (i : Int)) q2 sl2 d2 w wr HI.out HB.out HF.out).mono ?_
      rintro e w2 ⟨rfl, hI2, hB2, -⟩
      have HI2 := Aside0.mk hI2
      have HB2 := Aside0.mk hB2
      clear hI2 hB2 HI HB
      go_wp2
      go_roundg (gk - 1)
      case measure => omega
      case rel => exact ⟨i + 1, q2, sl2, d2, by go_num, by omega, by omega, by omega, by omega, HI2, HN2, HB2⟩
    · have HN2 : Aside0 ((q, sl, d) = R) := ⟨by
        have := HN.out
        rw [show s.size - i = 0 by omega] at this
        exact this⟩
      have HF : Aside0 (lists_scan_closed.f q sl d = some (B, q, sl, d)) := ⟨by rw [closed_f, HE.out, ← HN2.out]⟩
      clear HN
      go_wp2_with fail
      refine (lists_scan_closed.calls w.heap.size q sl d _ _ _ _ w wr HI.out HB.out HF.out).mono ?_
      rintro e w2 ⟨rfl, hI2, hB2, -⟩
      have HB2 := Aside0.mk hB2
      clear hI2 hB2 HI HB
      go_wp2
      go_ret
      exact ⟨rfl, HB2.out⟩
end Go.Proofs.Ytjnhghplfdiijaa.Q

namespace Go.Proofs.Ytjnhghplfdiijaa.Q
open Go Go.RowKit
variable {F : Fence} {n : Nat} {P : Program}
/-- What abides a turn of the blocks from B on, before B + m. -/
def Band {β : Type} (B m : Nat) (J : β → World → Prop) : Prop :=
  ∀ s A A' row, J s A → A.grownBy A' row → (∀ r, row = some r → B ≤ r ∧ r < B + m) → J s A'
/-- An iterator that may turn the m blocks that it lays first; when it calls yield it has laid them. -/
def SeqBand {α : Type} (F : Fence) (n : Nat) (P : Program) (g : Nat) (lb : Array Value) (encs : α → Array Value) (Kp : World → World → Prop) (S Sp : List α → Prop) (Ok : α → Prop) (N m : Nat) (w : World) : Prop :=
  ∀ (l : Nat) (J Jx : List α → World → Prop) (W : World), W.heap.size = w.heap.size + 2 → Below w.heap.size w W → AbidesFrom W.heap.size J → AbidesFrom W.heap.size Jx → Band W.heap.size m J → Band W.heap.size m Jx →
    (∀ pre x W1, Ok x → J pre W1 → pre.length < N → W.heap.size + m ≤ W1.heap.size → YieldAt F (n - 1) P l (encs x) W1 fun e W' =>
      (e = .returned (.bool true) ∧ J (pre ++ [x]) W' ∧ Kp W1 W') ∨ (e = .returned (.bool false) ∧ Jx (pre ++ [x]) W')) →
    J [] W →
    CallsIn F n P g (#[.func (.yield l) #[] #[]] ++ lb) W fun e W' => (∃ v, e = .returned v) ∧ ((∃ xs, S xs ∧ J xs W') ∨ (∃ pre, Sp pre ∧ Jx pre W'))
theorem wpIn_rangeFunc_band {α : Type} {g : Operand} {ps : Array Tmp} {assign body : Code} {Q : Exit → Act → World → Prop} {a : Act} {w : World}
    (hro : F.round = none) (h1 : 1 ≤ n) {gf : Nat} {lb : Array Value} (hg : a.eval g = .func (.func gf) #[] lb) (hFg : F.fn gf) (eg : ∀ args w, (callFunc gf args).run P w = .ok (.enter gf args) w)
    {encs : α → Array Value} {Kp : World → World → Prop} {S Sp : List α → Prop} {Ok : α → Prop} {N m : Nat} (hseq : SeqBand F (n - 1) P gf lb encs Kp S Sp Ok N m w)
    (hKt : ∀ {A B C : World}, Kp A B → Kp B C → Kp A C) (hKb : ∀ (W : World) (o' : Obj), w.heap.size + 1 < W.heap.size → Kp W (W.putObj (w.heap.size + 1) o')) (hps : ∀ x, (encs x).size = ps.size)
    (I : List α → World → Prop) (Ix : Code → List α → World → Prop) (hI : OwnFrom w.heap.size I) (hIx : ∀ c, OwnFrom w.heap.size (Ix c)) (hIb : Band (w.heap.size + 2) m I) (hIxb : ∀ c, Band (w.heap.size + 2) m (Ix c)) (h0 : I [] w) (a₁ : α → Act)
    (hassign : ∀ (l : Nat) (x : α) (W : World) (K : Act → World → Prop), K (a₁ x) W →
      assign.wpIn (F.inRound l) (n - 1 - 1) P (Exit.then K (fun _ _ _ => False)) { tmps := (ps.zip (encs x)).foldl (fun t (p, v) => t.setIfInBounds p v) a.tmps, defers := [] } W)
    (hbody : ∀ (l : Nat) (pre : List α) (x : α) (W : World), Ok x → I pre W → pre.length < N → w.heap.size + 2 + m ≤ W.heap.size → body.wpIn (F.inRound l) (n - 1 - 1) P (ownPostG w.heap.size Kp I Ix (pre ++ [x]) W) (a₁ x) W)
    (hdone : ∀ (D : Nat) (xs : List α) (W : World), w.heap.size ≤ D → S xs → I xs W → W.heap[D]? = some (.deferred (some [])) → Q .normal { a with defers := { target := .collected D, args := #[] } :: a.defers } W)
    (hstop : ∀ (D : Nat) (c : Code) (pre : List α) (W : World), w.heap.size ≤ D → Sp pre → Ix c pre W → W.heap[D]? = some (.deferred (some [])) → c.wpIn F n P Q { a with defers := { target := .collected D, args := #[] } :: a.defers } W) :
    (Code.rangeFunc g ps assign body).wpIn F n P Q a w := by
  refine wpIn_rangeFunc fun fn hfn => ?_
  rw [hro]
  let lr : LoopState → Option Code → Loop := fun st pe => { state := st, pending := pe, fn, tmps := a.tmps, params := ps, assign, body, defers := w.heap.size }
  obtain ⟨rec, hrec⟩ : ∃ rec, rec = lr := ⟨_, rfl⟩
  obtain ⟨V, hV⟩ : ∃ V, (w.alloc (.deferred (some []))).alloc (.loop (rec .ready none)) = V := ⟨_, rfl⟩
  have hVs : V.heap.size = w.heap.size + 2 := by rw [← hV]; simp
  have bL : V.heap[w.heap.size + 1]? = some (.loop (rec .ready none)) := by
    have := World.alloc_heap_new (w.alloc (.deferred (some []))) (.loop (rec .ready none))
    rw [World.size_alloc] at this
    rw [← hV]; exact this
  have bD : V.heap[w.heap.size]? = some (.deferred (some [])) := by
    rw [← hV]
    exact (Below.heap_alloc _ _ _ (by simp)).trans (World.alloc_heap_new w _)
  have hV0 : Below w.heap.size w V := by
    rw [← hV]
    exact ((Below.refl _ w).alloc (Nat.le_refl _) _).alloc (by simp) _
  have iV : I [] V := by rw [← hV]; exact hI.alloc _ (hI.alloc _ h0)
  -- the two facts of the loop's own book-keeping stay, whatever block at or behind V's end turns, or is laid
  have keep : ∀ {A B : World} {row : Option Nat} {j : Nat} {o : Obj}, A.grownBy B row → (∀ r, row = some r → V.heap.size ≤ r) → j < w.heap.size + 2 → A.heap[j]? = some o → B.heap[j]? = some o := fun hg hr hj ho =>
    (hg.block _ (Array.getElem?_eq_some_iff.1 ho).1 (fun e => by have := hr _ e.symm; omega)).trans ho
  refine ⟨w.heap.size + 1, [{ target := .collected w.heap.size, args := #[] }], V, { target := .fn (.func gf) lb, args := #[.func (.yield (w.heap.size + 1)) #[] #[]] }, V, gf,
    #[.func (.yield (w.heap.size + 1)) #[] #[]] ++ lb, V, ?_, ?_, ?_, ?_, fun _ => h1, ?_⟩
  · rw [← hV, hrec]; exact run_enterLoop_outer _ _ _ _ _
  · simp only [resolve, hg]
    simp [go_sem]
  · intro f' hf'
    simp [Target.leads] at hf'
    subst hf'
    exact hFg
  · simp [invoke, go_sem, eg]
  refine (hseq (w.heap.size + 1)
    (fun pre W => I pre W ∧ W.heap[w.heap.size + 1]? = some (.loop (rec .ready none)) ∧ W.heap[w.heap.size]? = some (.deferred (some [])))
    (fun pre W => ∃ c, Ix c pre W ∧ W.heap[w.heap.size + 1]? = some (.loop (rec .done (some c))) ∧ W.heap[w.heap.size]? = some (.deferred (some []))) V hVs hV0 ?_ ?_ ?_ ?_ ?_ ⟨iV, bL, bD⟩).mono ?_
  · rintro s A B row ⟨hi, hl, hk⟩ hg' hr
    exact ⟨hI s A B row hi hg' (fun r e => by obtain ⟨hB, o, ho, hw⟩ := hr r e; exact ⟨by omega, o, ho, Obj.not_cells_of_walk hw⟩), keep hg' (fun r e => (hr r e).1) (by omega) hl, keep hg' (fun r e => (hr r e).1) (by omega) hk⟩
  · rintro s A B row ⟨c, hi, hl, hk⟩ hg' hr
    exact ⟨c, hIx c s A B row hi hg' (fun r e => by obtain ⟨hB, o, ho, hw⟩ := hr r e; exact ⟨by omega, o, ho, Obj.not_cells_of_walk hw⟩), keep hg' (fun r e => (hr r e).1) (by omega) hl, keep hg' (fun r e => (hr r e).1) (by omega) hk⟩
  · rintro s A B row ⟨hi, hl, hk⟩ hg' hr
    exact ⟨hIb s A B row hi hg' (fun r e => by have := hr r e; omega), keep hg' (fun r e => (hr r e).1) (by omega) hl, keep hg' (fun r e => (hr r e).1) (by omega) hk⟩
  · rintro s A B row ⟨c, hi, hl, hk⟩ hg' hr
    exact ⟨c, hIxb c s A B row hi hg' (fun r e => by have := hr r e; omega), keep hg' (fun r e => (hr r e).1) (by omega) hl, keep hg' (fun r e => (hr r e).1) (by omega) hk⟩
  · -- one round
    rintro pre x W hok ⟨hi, hl, hk⟩ hlen hlaid
    have hlt : w.heap.size + 1 < W.heap.size := (Array.getElem?_eq_some_iff.1 hl).1
    have hy := run_yield (P := P) (args := encs x) hl (by rw [hrec]; exact hps x)
    rw [hrec] at hy
    obtain ⟨U, hU⟩ : ∃ U, W.putObj (w.heap.size + 1) (.loop { rec .ready none with state := .busy }) = U := ⟨_, rfl⟩
    refine ⟨fn, _, assign, body, hy, roundIn_of_wpIn hfn (hassign _ x W _ ⟨_, run_beginRound hl (by rw [hrec]), ?_⟩)⟩
    have uL : U.heap[w.heap.size + 1]? = some (.loop { rec .ready none with state := .busy }) := by rw [← hU]; exact World.putObj_heap_same hlt
    have uD : U.heap[w.heap.size]? = some (.deferred (some [])) := by rw [← hU]; exact (World.putObj_heap_other (by omega)).trans hk
    have uK : Kp W U := by rw [← hU]; exact hKb _ _ hlt
    have uI : I pre U := by rw [← hU]; exact hI.putObj _ hi (by omega) hl rfl
    have uS : U.heap.size = W.heap.size := by rw [← hU]; simp [World.putObj]
    rw [hU]
    refine wpIn_mono (hbody _ pre x _ hok uI hlen (by omega)) ?_
    have fin : ∀ (jump : Option Code) (W3 : World), KeepsFrom w.heap.size U W3 →
        (Instr.endRound (w.heap.size + 1) jump).run P W3 = .ok (.bool jump.isNone) (W3.putObj (w.heap.size + 1) (.loop (rec (if jump.isNone then .ready else .done) jump))) ∧
        W3.heap[w.heap.size + 1]? = some (.loop { rec .ready none with state := .busy }) ∧
        (W3.putObj (w.heap.size + 1) (.loop (rec (if jump.isNone then .ready else .done) jump))).heap[w.heap.size + 1]? = some (.loop (rec (if jump.isNone then .ready else .done) jump)) ∧
        (W3.putObj (w.heap.size + 1) (.loop (rec (if jump.isNone then .ready else .done) jump))).heap[w.heap.size]? = some (.deferred (some [])) := fun jump W3 hk3 => by
      have hl3 := hk3.same _ _ (by omega) uL rfl
      have hd3 := hk3.same _ _ (Nat.le_refl _) uD rfl
      have he := run_endRound (P := P) jump hl3
      rw [hrec] at he ⊢
      rw [hrec] at hl3
      exact ⟨he, hl3, World.putObj_heap_same (Array.getElem?_eq_some_iff.1 hl3).1, (World.putObj_heap_other (by omega)).trans hd3⟩
    rintro e a3 W3 hp
    match e, hp with
    | .normal, ⟨hk3, hkp3, hi3⟩ =>
      obtain ⟨hr, hl3, hl4, hk4⟩ := fin none W3 hk3
      exact ⟨_, _, hr, .inl ⟨rfl, ⟨hI.putObj _ hi3 (by omega) hl3 rfl, hl4, hk4⟩, hKt (hKt uK hkp3) (hKb _ _ (Array.getElem?_eq_some_iff.1 hl3).1)⟩⟩
    | .ret, ⟨hk3, hi3⟩ =>
      obtain ⟨hr, hl3, hl4, hk4⟩ := fin (some .ret) W3 hk3
      exact ⟨_, _, hr, .inr ⟨rfl, .ret, (hIx _).putObj _ hi3 (by omega) hl3 rfl, hl4, hk4⟩⟩
    | .exit id, ⟨hk3, hi3⟩ =>
      obtain ⟨hr, hl3, hl4, hk4⟩ := fin (some (.exit id)) W3 hk3
      exact ⟨_, _, hr, .inr ⟨rfl, .exit id, (hIx _).putObj _ hi3 (by omega) hl3 rfl, hl4, hk4⟩⟩
    | .goto t, ⟨hk3, hi3⟩ =>
      obtain ⟨hr, hl3, hl4, hk4⟩ := fin (some (.goto t)) W3 hk3
      exact ⟨_, _, hr, .inr ⟨rfl, .goto t, (hIx _).putObj _ hi3 (by omega) hl3 rfl, hl4, hk4⟩⟩
    | .panic ch, hp => exact hp.elim
    | .outgrown, hp => exact hp.elim
  · -- behind the iterator
    rintro e W2 ⟨⟨v, rfl⟩, hends⟩
    rcases hends with ⟨xs, hS, hi, hl, hk⟩ | ⟨pre, hSp, c, hi, hl, hk⟩
    · refine ⟨none, _, by have := run_endLoop (P := P) hl (by rw [hrec]; simp [lr]); rw [hrec] at this; exact this, ?_⟩
      exact hdone _ xs _ (Nat.le_refl _) hS (hI.putObj _ hi (by omega) hl rfl) ((World.putObj_heap_other (by omega)).trans hk)
    · refine ⟨some c, _, by have := run_endLoop (P := P) hl (by rw [hrec]; simp [lr]); rw [hrec] at this; exact this, ?_⟩
      exact hstop _ c pre _ (Nat.le_refl _) hSp ((hIx c).putObj _ hi (by omega) hl rfl) ((World.putObj_heap_other (by omega)).trans hk)
end Go.Proofs.Ytjnhghplfdiijaa.Q

namespace Go.Proofs.Ytjnhghplfdiijaa.Q
open Go.RowKit Go.Proofs.YtjnhghplfdiijaaW.PrintWords Go.Proofs.YtjnhghplfdiijaaW.PrintLast Go.Proofs.YtjnhghplfdiijaaW.PrintMore Go.Lib Go.Shelf
set_option linter.unusedVariables false
set_option linter.unusedSimpArgs false
attribute [local go_sem] Oper.semAt_some
/-- What a round keeps for the iterator: what lay before all; the text's box; the scan's block. -/
def KpS (n₀ Bs g : Nat) (A A' : World) : Prop := Below n₀ A A' ∧ ∀ r, r = Bs ∨ r = g → r < A.heap.size → A'.heap[r]? = A.heap[r]?
theorem grown_of_keep {n₀ g : Nat} {w0 A A' : World} (h : Below n₀ w0 A) (h' : Below n₀ w0 A') (hk : KeepBut A A' g none) : A.grownBy A' (some g) :=
  ⟨h'.os.trans h.os.symm, h'.tape.trans h.tape.symm, h'.output.trans h.output.symm, hk.1, fun i hi hne => hk.2 i hi (fun e => hne (by rw [e])) (by simp)⟩
set_option maxRecDepth 100000 in
set_option maxHeartbeats 4000000 in
theorem elements_in (l Bs g : Nat) (s : ByteArray) (hs : s.size ≤ 4611686018427387904) (w0 V : World) (J Jx : List ByteArray → World → Prop) (hg : V.heap.size = g) (hg0 : w0.heap.size ≤ g) (hBs : Bs < g)
    (hJ : Band g 1 J) (hJx : Band g 1 Jx) (hB0 : Below w0.heap.size w0 V) (hbs : V.heap[Bs]? = some (.cells #[.string s] 9 (0, 0)))
    (hY : ∀ (pre : List ByteArray) (x : ByteArray) W1, x.size ≤ s.size → J pre W1 → pre.length < s.size + 1 → g + 1 ≤ W1.heap.size → YieldAt Fence.wide 2 Try.prog l #[.string x] W1 fun e W' =>
      (e = .returned (.bool true) ∧ J (pre ++ [x]) W' ∧ KpS w0.heap.size Bs g W1 W') ∨ (e = .returned (.bool false) ∧ Jx (pre ++ [x]) W'))
    (h0 : J [] V) :
    CallsIn Fence.wide 3 Try.prog 164 #[.func (.yield l) #[] #[], .pointer (some ⟨Bs, 0, none⟩)] V fun e W' => (∃ v, e = .returned v) ∧ ((∃ xs, xs = elemsP s ∧ J xs W') ∨ (∃ pre, pre <+: elemsP s ∧ Jx pre W')) := by
  have HY := Aside0.mk hY
  have HJ := Aside0.mk hJ
  have HJx := Aside0.mk hJx
  have H0 := Aside0.mk h0
  have HB0 := Aside0.mk hB0
  have HBS := Aside0.mk hbs
  have c0 : V.cell? ⟨Bs, 0, none⟩ = some (.string s) := (blk_cell hbs 0).trans rfl
  clear hY hJ hJx h0 hB0 hbs
  refine callsIn_of_wp Try.func164 rfl trivial ?_ rfl
  simp only [Try.ntmps164, List.size_toArray, List.length_cons, List.length_nil, Nat.reduceAdd, Nat.reduceSub, Array.replicate_succ, Array.replicate_zero, List.push_toArray, List.append_toArray, List.nil_append, List.cons_append]
  gi_wp2
  gi_loopw [4, 5, 8] (fun vf _ vi wr => ∃ (i fr : Nat) (q sl : Bool) (d : Int) (pre : List ByteArray), vf = .int .i64 fr ∧ vi = .int .i64 i ∧ i ≤ s.size ∧ fr ≤ i ∧ 0 ≤ d ∧ d ≤ i ∧ pre.length ≤ i ∧ Aside0 (IsS170 w0 wr g q sl d) ∧ Aside0 (pre ++ cutsP s (s.size - i) i fr q sl d = elemsP s) ∧ Aside0 (Below w0.heap.size w0 wr) ∧ Aside0 (J pre wr) ∧ Aside0 (wr.heap[Bs]? = some (.cells #[.string s] 9 (0, 0)))) (fun _ _ vi _ => s.size - (RowKit.intOf vi).toNat)
  case atStart =>
    have hlaid : (V.alloc (.cells #[.bool false, .bool false, .int .i64 0] 170)).heap[g]? = some (.cells #[.bool false, .bool false, .int .i64 0] 170 (0, 0)) := by rw [← hg]; exact heap_alloc_new V _
    exact ⟨0, 0, false, false, 0, [], rfl, rfl, Nat.zero_le _, Nat.le_refl _, by omega, by omega, Nat.le_refl _, ⟨hlaid, hg0⟩, ⟨rfl⟩, ⟨HB0.out.alloc (by omega) _⟩, ⟨HJ.out _ _ _ none H0.out (World.grownBy_alloc V _ _) (by simp)⟩, ⟨blk_alloc HBS.out _⟩⟩
  case round =>
    obtain ⟨i, fr, q, sl, d, pre, rfl, rfl, hi, hfr, hd0, hd1, hpl, HI, HN, HB, HP, HS⟩ := hrel
    have c1 : wr.cell? ⟨Bs, 0, none⟩ = some (.string s) := (blk_cell HS.out 0).trans rfl
    clear c0
    by_cases hlt : i < s.size
    · have hbt : ∀ h : i < s.size, ((s[i]'h).toNat : Int) = bt s (i : Int) := fun h => bt_at s (i : Int) h
      by_cases h44 : bt s (i : Int) = 44
      · have e44 : (bt s (i : Int) == 44) = true := by simpa using h44
        have H44 := Aside0.mk h44
        clear h44
        cases hcl : closedP q sl d with
        | true =>
          have HF : Aside0 (lists_scan_closed.f q sl d = some (true, q, sl, d)) := ⟨by rw [closed_f, hcl]⟩
          have HCL := Aside0.mk hcl
          clear hcl
          have HN2 : Aside0 ((pre ++ [s.extract fr i]) ++ cutsP s (s.size - (i + 1)) (i + 1) (i + 1) q sl d = elemsP s) := ⟨by
            have := HN.out
            rw [show s.size - i = (s.size - (i + 1)) + 1 by omega, cutsP, if_pos ⟨H44.out, HCL.out⟩] at this
            rw [← this]; simp⟩
          gi_wp2_with fail
          refine ⟨trivial, ?_⟩
          refine (callsIn_wide.2 (lists_scan_closed.calls g q sl d _ _ _ _ w0 wr HI.out HB.out HF.out)).mono ?_
          rintro e w2 ⟨rfl, hI2, hB2, hk2⟩
          have hS2 : w2.heap[Bs]? = some (.cells #[.string s] 9 (0, 0)) := hk2.blk HS.out (by omega) (by simp)
          have hP2 : J pre w2 := HJ.out _ _ _ _ HP.out (grown_of_keep HB.out hB2 hk2) (fun r e => by cases e; omega)
          have c2 : w2.cell? ⟨Bs, 0, none⟩ = some (.string s) := (blk_cell hS2 0).trans rfl
          obtain ⟨fn, tmps, assign, body, hy, hR⟩ := HY.out pre (s.extract fr i) w2 (by simp; omega) hP2 (by omega) (by have := blk_lt hI2.1; omega)
          have HI2 := Aside0.mk hI2
          have HB2 := Aside0.mk hB2
          have HS2 := Aside0.mk hS2
          have HR := Aside0.mk hR
          clear hI2 hB2 hk2 hS2 hP2 hR HI HN HB HP HS c1
          gi_wp2
          refine HR.out.mono ?_
          rintro e W3 (⟨rfl, hJ3, hk3⟩ | ⟨rfl, hJx3⟩)
          · have HI3 : Aside0 (IsS170 w0 W3 g q sl d) := ⟨(hk3.2 g (.inr rfl) (blk_lt HI2.out.1)).trans HI2.out.1, HI2.out.2⟩
            have HS3 : Aside0 (W3.heap[Bs]? = some (.cells #[.string s] 9 (0, 0))) := ⟨(hk3.2 Bs (.inl rfl) (blk_lt HS2.out)).trans HS2.out⟩
            have HB3 : Aside0 (Below w0.heap.size w0 W3) := ⟨HB2.out.trans hk3.1⟩
            have HJ3 := Aside0.mk hJ3
            clear hJ3 hk3 c2 hy
            gi_wp2
            go_roundw
            case rel => exact ⟨i + 1, i + 1, q, sl, d, pre ++ [s.extract fr i], by go_num, by go_num, by omega, by omega, by omega, by omega, by simp; omega, HI3, HN2, HB3, HJ3, HS3⟩
            case measure => simp [RowKit.intOf]; omega
          · have HJx3 := Aside0.mk hJx3
            clear hJx3 c2 hy
            gi_wp2
            refine bodyPost_ret (results_none rfl _ _ _) rfl ?_
            exact ⟨⟨_, rfl⟩, .inr ⟨pre ++ [s.extract fr i], ⟨_, HN2.out⟩, HJx3.out⟩⟩
        | false =>
          have HF : Aside0 (lists_scan_closed.f q sl d = some (false, q, sl, d)) := ⟨by rw [closed_f, hcl]⟩
          have HCL := Aside0.mk hcl
          clear hcl
          have HN2 : Aside0 (pre ++ cutsP s (s.size - (i + 1)) (i + 1) fr (seeP q sl d (bt s (i : Int))).1 (seeP q sl d (bt s (i : Int))).2.1 (seeP q sl d (bt s (i : Int))).2.2 = elemsP s) := ⟨by
            have := HN.out
            rw [show s.size - i = (s.size - (i + 1)) + 1 by omega, cutsP, if_neg (fun h => by rw [HCL.out] at h; cases h.2)] at this
            exact this⟩
          have hrng := seeP_range q sl d (bt s (i : Int)) hd0
          obtain ⟨⟨q2, sl2, d2⟩, hT⟩ : ∃ t, seeP q sl d (bt s (i : Int)) = t := ⟨_, rfl⟩
          have HF2 : Aside0 (lists_scan_see.f 1 q sl d (bt s (i : Int)) = some (q2, sl2, d2)) := ⟨by rw [see_f q sl d _ hd0 (by omega), hT]⟩
          rw [hT] at HN2 hrng
          clear hT
          simp only at hrng
          gi_wp2_with fail
          refine ⟨trivial, ?_⟩
          refine (callsIn_wide.2 (lists_scan_closed.calls g q sl d _ _ _ _ w0 wr HI.out HB.out HF.out)).mono ?_
          rintro e w2 ⟨rfl, hI2, hB2, hk2⟩
          have hS2 : w2.heap[Bs]? = some (.cells #[.string s] 9 (0, 0)) := hk2.blk HS.out (by omega) (by simp)
          have hP2 : J pre w2 := HJ.out _ _ _ _ HP.out (grown_of_keep HB.out hB2 hk2) (fun r e => by cases e; omega)
          have c2 : w2.cell? ⟨Bs, 0, none⟩ = some (.string s) := (blk_cell hS2 0).trans rfl
          have HI2 := Aside0.mk hI2
          have HB2 := Aside0.mk hB2
          have HS2 := Aside0.mk hS2
          have HP2 := Aside0.mk hP2
          clear hI2 hB2 hk2 hS2 hP2 HI HN HB HP HS c1
          gi_wp2_with fail
          refine ⟨trivial, ?_⟩
          refine (callsIn_wide.2 (lists_scan_see.calls 1 g q sl d (bt s (i : Int)) q2 sl2 d2 w0 w2 HI2.out HB2.out HF2.out)).mono ?_
          rintro e w3 ⟨rfl, hI3, hB3, hk3⟩
          have hS3 : w3.heap[Bs]? = some (.cells #[.string s] 9 (0, 0)) := hk3.blk HS2.out (by omega) (by simp)
          have hP3 : J pre w3 := HJ.out _ _ _ _ HP2.out (grown_of_keep HB2.out hB3 hk3) (fun r e => by cases e; omega)
          have HI3 := Aside0.mk hI3
          have HB3 := Aside0.mk hB3
          have HS3 := Aside0.mk hS3
          have HP3 := Aside0.mk hP3
          clear hI3 hB3 hk3 hS3 hP3
          gi_wp2
          go_roundw
          case rel => exact ⟨i + 1, fr, q2, sl2, d2, pre, rfl, by go_num, by omega, by omega, by omega, by omega, by omega, HI3, HN2, HB3, HP3, HS3⟩
          case measure => simp [RowKit.intOf]; omega
      · have e44 : (bt s (i : Int) == 44) = false := by simpa using h44
        have H44 := Aside0.mk h44
        clear h44
        have HN2 : Aside0 (pre ++ cutsP s (s.size - (i + 1)) (i + 1) fr (seeP q sl d (bt s (i : Int))).1 (seeP q sl d (bt s (i : Int))).2.1 (seeP q sl d (bt s (i : Int))).2.2 = elemsP s) := ⟨by
          have := HN.out
          rw [show s.size - i = (s.size - (i + 1)) + 1 by omega, cutsP, if_neg (fun h => H44.out h.1)] at this
          exact this⟩
        have hrng := seeP_range q sl d (bt s (i : Int)) hd0
        obtain ⟨⟨q2, sl2, d2⟩, hT⟩ : ∃ t, seeP q sl d (bt s (i : Int)) = t := ⟨_, rfl⟩
        have HF2 : Aside0 (lists_scan_see.f 1 q sl d (bt s (i : Int)) = some (q2, sl2, d2)) := ⟨by rw [see_f q sl d _ hd0 (by omega), hT]⟩
        rw [hT] at HN2 hrng
        clear hT
        simp only at hrng
        gi_wp2_with fail
        refine ⟨trivial, ?_⟩
        gi_wp2_with fail
        refine ⟨trivial, ?_⟩
        refine (callsIn_wide.2 (lists_scan_see.calls 1 g q sl d (bt s (i : Int)) q2 sl2 d2 w0 wr HI.out HB.out HF2.out)).mono ?_
        rintro e w3 ⟨rfl, hI3, hB3, hk3⟩
        have hS3 : w3.heap[Bs]? = some (.cells #[.string s] 9 (0, 0)) := hk3.blk HS.out (by omega) (by simp)
        have hP3 : J pre w3 := HJ.out _ _ _ _ HP.out (grown_of_keep HB.out hB3 hk3) (fun r e => by cases e; omega)
        have HI3 := Aside0.mk hI3
        have HB3 := Aside0.mk hB3
        have HS3 := Aside0.mk hS3
        have HP3 := Aside0.mk hP3
        clear hI3 hB3 hk3 hS3 hP3
        gi_wp2
        go_roundw
        case rel => exact ⟨i + 1, fr, q2, sl2, d2, pre, rfl, by go_num, by omega, by omega, by omega, by omega, by omega, HI3, HN2, HB3, HP3, HS3⟩
        case measure => simp [RowKit.intOf]; omega
    · have HN2 : Aside0 (pre ++ [s.extract fr s.size] = elemsP s) := ⟨by
        have := HN.out
        rw [show s.size - i = 0 by omega, cutsP] at this
        exact this⟩
      have hfs : fr ≤ s.size := by omega
      obtain ⟨fn, tmps, assign, body, hy, hR⟩ := HY.out pre (s.extract fr s.size) wr (by simp) HP.out (by omega) (by have := blk_lt HI.out.1; omega)
      have HR := Aside0.mk hR
      clear hR HN
      gi_wp2
      refine HR.out.mono ?_
      rintro e W3 (⟨rfl, hJ3, hk3⟩ | ⟨rfl, hJx3⟩)
      · have HJ3 := Aside0.mk hJ3
        clear hJ3 hk3 hy c1
        gi_wp2
        go_end0
        exact ⟨⟨_, rfl⟩, .inl ⟨_, HN2.out, HJ3.out⟩⟩
      · have HJ3 := Aside0.mk hJx3
        clear hJx3 hy c1
        gi_wp2
        go_end0
        exact ⟨⟨_, rfl⟩, .inr ⟨_, ⟨[], by rw [List.append_nil]; exact HN2.out⟩, HJ3.out⟩⟩
end Go.Proofs.Ytjnhghplfdiijaa.Q

namespace Go.Proofs.Ytjnhghplfdiijaa.Q
open Go.RowKit Go.Proofs.YtjnhghplfdiijaaW.PrintWords Go.Proofs.YtjnhghplfdiijaaW.PrintLast Go.Proofs.YtjnhghplfdiijaaW.PrintMore
attribute [local go_sem] max2_int min2_int max_two min_two max_three min_three max_four min_four
set_option linter.unusedVariables false
set_option linter.unusedSimpArgs false
mutual
def digits_digit.j0 : Nat → Int → Bool → Option (Int)
  | 0, _, _ => none
  | k + 1, x0, x3 => if x3 = true then (some (wrap64 (wrap32 (x0 - 48)))) else (if x0 ≥ 97 then (digits_digit.j1 k x0 (decide (x0 ≤ 102))) else (digits_digit.j1 k x0 false))
def digits_digit.j1 : Nat → Int → Bool → Option (Int)
  | 0, _, _ => none
  | k + 1, x0, x13 => if x13 = true then (some (wrap64 ((wrap64 (wrap32 (x0 - 97))) + 10))) else (if x0 ≥ 65 then (if x0 ≤ 70 then (some (wrap64 ((wrap64 (wrap32 (x0 - 65))) + 10))) else (some (-1))) else (some (-1)))
end
def digits_digit.f (k : Nat) (a0 : Int) : Option (Int) := if a0 ≥ 48 then (digits_digit.j0 k a0 (decide (a0 ≤ 57))) else (digits_digit.j0 k a0 false)
set_option maxHeartbeats 8000000 in
set_option maxRecDepth 100000 in
theorem digits_digit.calls (k : Nat) (a0 : Int) (r : Int) (w : World) (h : digits_digit.f k a0 = some r) :
    Calls Try.prog 171 #[.int .i32 a0] w fun e w' => e = .returned (.int .i64 r) ∧ Drawn0 w w' := by
  have H : (if a0 ≥ 48 then (digits_digit.j0 k a0 (decide (a0 ≤ 57))) else (digits_digit.j0 k a0 false)) = some r := h
  clear h
  have HC2 := Aside0.mk H
  clear H
  go_enter Try.func171, Try.ntmps171
  go_upto_region 1 with (fail)
  go_cut [3] (fun v3 wc => ∃ (kq : Nat) (x3_1 : Bool), v3 = .bool x3_1 ∧ Aside0 (digits_digit.j0 kq a0 x3_1 = some r) ∧ Aside0 (kq ≤ k) ∧ Drawn0 w wc)
  case first =>
    have H := HC2.out
    clear HC2
    by_cases c3 : a0 ≥ 48
    · rw [if_pos c3] at H
      have c3b0 : decide (48 ≤ a0) = true := decide_eq_true c3
      clear c3
      (first | rw [c3b0] | (simp only [i64_w, i32_w]; rw [c3b0]) | skip)
      have H' := Aside0.mk H
      clear H
      go_wp2
      go_meet
      case rel => exact ⟨_, (decide (a0 ≤ 57)), (by first | rfl | (simp; done) | (simp [*]; done)), H', ⟨by first | omega | exact Nat.le_refl _⟩, by repeat (first | exact Drawn0.refl _ | apply Drawn0.step)⟩
    · rw [if_neg c3] at H
      have c3b0 : decide (48 ≤ a0) = false := decide_eq_false c3
      clear c3
      (first | rw [c3b0] | (simp only [i64_w, i32_w]; rw [c3b0]) | skip)
      have H' := Aside0.mk H
      clear H
      go_wp2
      go_meet
      case rel => exact ⟨_, (false), (by first | rfl | (simp; done) | (simp [*]; done)), H', ⟨by first | omega | exact Nat.le_refl _⟩, by repeat (first | exact Drawn0.refl _ | apply Drawn0.step)⟩
  case rest =>
    clear HC2
    try clear c1
    try clear p2
    try clear c3
    try clear c3b0
    obtain ⟨kq, x3_1, rfl, HA, HJ1, ⟨mc1, rfl⟩⟩ := hcut
    cases kq with
    | zero => exact absurd HA.out (by simp [digits_digit.j0])
    | succ kj1 =>
      have H := HA.out
      clear HA
      simp only [digits_digit.j0] at H
      by_cases c4 : x3_1 = true
      · subst c4
        have H1 : (some (wrap64 (wrap32 (a0 - 48)))) = some r := by rw [if_pos rfl] at H; exact H
        clear H
        have H := H1
        clear H1
        obtain rfl := Option.some.inj H
        go_wp2
        go_ret
        exact ⟨by first | rfl | (simp; done) | (simp [*]; done), by repeat (first | exact Drawn0.refl _ | apply Drawn0.step)⟩
      · replace c4 := Bool.eq_false_iff.mpr c4
        subst c4
        have H1 : (if a0 ≥ 97 then (digits_digit.j1 kj1 a0 (decide (a0 ≤ 102))) else (digits_digit.j1 kj1 a0 false)) = some r := by rw [if_neg (show ¬ (false = true) by decide)] at H; exact H
        clear H
        have H := H1
        clear H1
        have HC5 := Aside0.mk H
        clear H
        go_upto_region 3 with (fail)
        go_cut [13] (fun v13 wc => ∃ (kq : Nat) (x13_4 : Bool), v13 = .bool x13_4 ∧ Aside0 (digits_digit.j1 kq a0 x13_4 = some r) ∧ Aside0 (kq ≤ kj1) ∧ Drawn0 w wc)
        case first =>
          have H := HC5.out
          clear HC5
          by_cases c6 : a0 ≥ 97
          · rw [if_pos c6] at H
            have c6b0 : decide (97 ≤ a0) = true := decide_eq_true c6
            clear c6
            (first | rw [c6b0] | (simp only [i64_w, i32_w]; rw [c6b0]) | skip)
            have H' := Aside0.mk H
            clear H
            go_wp2
            go_meet
            case rel => exact ⟨_, (decide (a0 ≤ 102)), (by first | rfl | (simp; done) | (simp [*]; done)), H', ⟨by have := HJ1.out; first | omega | exact Nat.le_refl _⟩, by repeat (first | exact Drawn0.refl _ | apply Drawn0.step)⟩
          · rw [if_neg c6] at H
            have c6b0 : decide (97 ≤ a0) = false := decide_eq_false c6
            clear c6
            (first | rw [c6b0] | (simp only [i64_w, i32_w]; rw [c6b0]) | skip)
            have H' := Aside0.mk H
            clear H
            go_wp2
            go_meet
            case rel => exact ⟨_, (false), (by first | rfl | (simp; done) | (simp [*]; done)), H', ⟨by have := HJ1.out; first | omega | exact Nat.le_refl _⟩, by repeat (first | exact Drawn0.refl _ | apply Drawn0.step)⟩
        case rest =>
          clear HC5
          try clear c1
          try clear p2
          try clear c3
          try clear c3b0
          try clear p3
          try clear c4
          try clear c6
          try clear c6b0
          try clear p6
          try clear p2
          obtain ⟨kq, x13_4, rfl, HA, HJ4, ⟨mc4, rfl⟩⟩ := hcut
          cases kq with
          | zero => exact absurd HA.out (by simp [digits_digit.j1])
          | succ kj4 =>
            have H := HA.out
            clear HA
            simp only [digits_digit.j1] at H
            by_cases c7 : x13_4 = true
            · subst c7
              have H1 : (some (wrap64 ((wrap64 (wrap32 (a0 - 97))) + 10))) = some r := by rw [if_pos rfl] at H; exact H
              clear H
              have H := H1
              clear H1
              obtain rfl := Option.some.inj H
              go_wp2
              go_ret
              exact ⟨by first | rfl | (simp; done) | (simp [*]; done), by repeat (first | exact Drawn0.refl _ | apply Drawn0.step)⟩
            · replace c7 := Bool.eq_false_iff.mpr c7
              subst c7
              have H1 : (if a0 ≥ 65 then (if a0 ≤ 70 then (some (wrap64 ((wrap64 (wrap32 (a0 - 65))) + 10))) else (some (-1))) else (some (-1))) = some r := by rw [if_neg (show ¬ (false = true) by decide)] at H; exact H
              clear H
              have H := H1
              clear H1
              by_cases c8 : a0 ≥ 65
              · rw [if_pos c8] at H
                have c8b0 : decide (65 ≤ a0) = true := decide_eq_true c8
                clear c8
                by_cases c9 : a0 ≤ 70
                · rw [if_pos c9] at H
                  have c9b0 : decide (a0 ≤ 70) = true := decide_eq_true c9
                  clear c9
                  obtain rfl := Option.some.inj H
                  go_wp2
                  go_ret
                  exact ⟨by first | rfl | (simp; done) | (simp [*]; done), by repeat (first | exact Drawn0.refl _ | apply Drawn0.step)⟩
                · rw [if_neg c9] at H
                  have c9b0 : decide (a0 ≤ 70) = false := decide_eq_false c9
                  clear c9
                  obtain rfl := Option.some.inj H
                  go_wp2
                  go_ret
                  exact ⟨by first | rfl | (simp; done) | (simp [*]; done), by repeat (first | exact Drawn0.refl _ | apply Drawn0.step)⟩
              · rw [if_neg c8] at H
                have c8b0 : decide (65 ≤ a0) = false := decide_eq_false c8
                clear c8
                obtain rfl := Option.some.inj H
                go_wp2
                go_ret
                exact ⟨by first | rfl | (simp; done) | (simp [*]; done), by repeat (first | exact Drawn0.refl _ | apply Drawn0.step)⟩
end Go.Proofs.Ytjnhghplfdiijaa.Q

namespace Go.Proofs.Ytjnhghplfdiijaa.Q
open Go.RowKit Go.Proofs.YtjnhghplfdiijaaW.PrintWords Go.Proofs.YtjnhghplfdiijaaW.PrintLast Go.Proofs.YtjnhghplfdiijaaW.PrintMore Go.Lib Go.Shelf
set_option linter.unusedVariables false
set_option linter.unusedSimpArgs false
/-- A rune's value as a digit, or -1. -/
def digI (r : Int) : Int := if 48 ≤ r ∧ r ≤ 57 then r - 48 else if 97 ≤ r ∧ r ≤ 102 then r - 87 else if 65 ≤ r ∧ r ≤ 70 then r - 55 else -1
theorem digI_range (r : Int) : -1 ≤ digI r ∧ digI r ≤ 15 := by unfold digI; split <;> (try split) <;> (try split) <;> omega
theorem digI_high (r : Int) (h : 128 ≤ r) : digI r = -1 := by unfold digI; rw [if_neg (by omega), if_neg (by omega), if_neg (by omega)]
theorem digit_f (r : Int) : digits_digit.f 3 r = some (digI r) := by
  unfold digits_digit.f digI
  by_cases h1 : 48 ≤ r
  · by_cases h2 : r ≤ 57
    · rw [if_pos h1, if_pos ⟨h1, h2⟩]
      simp only [digits_digit.j0, h2, decide_true, if_true]
      congr 1; unfold wrap64 wrap32; omega
    · rw [if_pos h1, if_neg (by omega)]
      simp only [digits_digit.j0, h2, decide_false]
      rw [if_neg (by simp)]
      by_cases h3 : 97 ≤ r
      · rw [if_pos h3]
        by_cases h4 : r ≤ 102
        · rw [if_pos ⟨h3, h4⟩]
          simp only [digits_digit.j1, h4, decide_true, if_true]
          congr 1; unfold wrap64 wrap32; omega
        · rw [if_neg (by omega), if_neg (by omega)]
          simp only [digits_digit.j1, h4, decide_false]
          rw [if_neg (by simp), if_pos (by omega), if_neg (by omega)]
      · rw [if_neg h3, if_neg (by omega)]
        simp only [digits_digit.j1]
        rw [if_neg (by simp)]
        by_cases h5 : 65 ≤ r
        · rw [if_pos h5]
          by_cases h6 : r ≤ 70
          · rw [if_pos h6, if_pos ⟨h5, h6⟩]
            congr 1; unfold wrap64 wrap32; omega
          · rw [if_neg h6, if_neg (by omega)]
        · rw [if_neg h5, if_neg (by omega)]
  · rw [if_neg h1, if_neg (by omega), if_neg (by omega), if_neg (by omega)]
    simp only [digits_digit.j0]
    rw [if_neg (by simp), if_neg (by omega)]
    simp only [digits_digit.j1]
    rw [if_neg (by simp), if_neg (by omega)]
/-- The number of digits, or what is wrong (3: the form, 5: too great). -/
def numL (b most : Int) : List UInt8 → Int → Bool → Int × Int
  | [], n, over => if over = true then (0, 5) else (n, 0)
  | c :: l, n, over =>
    if digI (c.toNat : Int) < 0 ∨ b ≤ digI (c.toNat : Int) then (0, 3)
    else if over = true ∨ most < digI (c.toNat : Int) ∨ (most - digI (c.toNat : Int)) / b < n then numL b most l n true
    else numL b most l (n * b + digI (c.toNat : Int)) false
def digits_number.f (s : ByteArray) (b most : Int) : Option (Int × Int) :=
  if (b = 10 ∨ b = 16) ∧ 0 ≤ most ∧ most ≤ 4611686018427387904 then some (if s.size = 0 then (0, 2) else numL b most s.data.toList 0 false) else none
set_option maxHeartbeats 4000000 in
theorem digits_number.some_10 (s : ByteArray) (most : Int) (w : World) (h0 : 0 ≤ most) (h1 : most ≤ 4611686018427387904) (hs : s.toList.isEmpty = false) :
    Calls Try.prog 130 #[.string s, .int .i64 10, .int .i64 most] w fun e w' => e = .returned (.tuple #[.int .i64 (numL 10 most s.data.toList 0 false).1, .int .i64 (numL 10 most s.data.toList 0 false).2]) ∧ Below w.heap.size w w' := by
  obtain ⟨R, hR⟩ : ∃ R, numL 10 most s.data.toList 0 false = R := ⟨_, rfl⟩
  rw [hR]
  have HR := Aside0.mk hR
  clear hR
  go_enter Try.func130, Try.ntmps130
  go_wp2
  go_loopg [8, 9] s.size (fun gg vn vo wr => ∃ (pos : Nat) (n : Int) (o : Bool), vn = .int .i64 n ∧ vo = .bool o ∧ pos ≤ s.size ∧ s.size - pos ≤ gg ∧ 0 ≤ n ∧ n ≤ most ∧ Aside0 (wr.heap[w.heap.size]? = some (.stringIter s pos)) ∧ Aside0 (numL 10 most (s.data.toList.drop pos) n o = R) ∧ Below w.heap.size w wr)
  case atStart => exact ⟨0, 0, false, rfl, rfl, Nat.zero_le _, by omega, by omega, h0, ⟨World.iter_heap w s 0⟩, HR, by unfold World.iter; exact (Below.refl _ _).alloc (Nat.le_refl _) _⟩
  case round =>
    obtain ⟨pos, n, o, rfl, rfl, hpos, hgg, hn0, hn1, HI, HN, HB⟩ := hrel
    by_cases hlt : pos < s.size
    · have hnx : ∀ ty, (Instr.next (.pointer (some ⟨w.heap.size, 0, none⟩)) true ty).run Try.prog wr = _ := fun ty => run_next_any_at wr w.heap.size s pos ty HI.out hlt
      have HBI := Aside0.mk (below_iterAt HB (Nat.le_refl _) s (pos + (Utf8.decode s pos).2))
      have HIT := Aside0.mk (iterAt_heap wr w.heap.size s pos (pos + (Utf8.decode s pos).2) HI.out)
      have hdrop : s.data.toList.drop pos = s[pos] :: s.data.toList.drop (pos + 1) := by
        rw [List.drop_eq_getElem_cons (by rw [data_length]; exact hlt)]
        rfl
      rw [hdrop] at HN
      -- what this rune says
      have hru : Aside0 ((digI ((Utf8.decode s pos).1 : Int) = digI ((s[pos]).toNat : Int) ∧ (Utf8.decode s pos).2 = 1) ∨ (digI ((Utf8.decode s pos).1 : Int) = -1 ∧ digI ((s[pos]).toNat : Int) = -1)) := ⟨by
        by_cases ha : (s[pos]).toNat < 128
        · rw [decode_ascii s pos hlt ha]
          exact .inl ⟨rfl, rfl⟩
        · have hd := (decode_high s pos hlt (by omega)).1
          exact .inr ⟨digI_high _ (by omega), digI_high _ (by omega)⟩⟩
      obtain ⟨W1, hW⟩ : ∃ W1, wr.iterAt w.heap.size s (pos + (Utf8.decode s pos).2) = W1 := ⟨_, rfl⟩
      obtain ⟨C, hC⟩ : ∃ C : Nat, (Utf8.decode s pos).1 = C := ⟨_, rfl⟩
      obtain ⟨D, hD⟩ : ∃ D : Nat, (Utf8.decode s pos).2 = D := ⟨_, rfl⟩
      obtain ⟨B, hBy⟩ : ∃ B : Int, digI ((s[pos]).toNat : Int) = B := ⟨_, rfl⟩
      rw [hW, hC] at hnx
      rw [hW, hD] at HIT
      rw [hW] at HBI
      rw [hC, hD, hBy] at hru
      simp only [numL, hBy] at HN
      clear hW hC hD HI HB hdrop hBy
      have hdr := digI_range (C : Int)
      have HDF := Aside0.mk (digit_f (C : Int))
      obtain ⟨d, hd⟩ : ∃ d : Int, digI (C : Int) = d := ⟨_, rfl⟩
      rw [hd] at hru hdr HDF
      clear hd
      by_cases hbad : d < 0 ∨ 10 ≤ d
      · rw [if_pos (by rcases hru.out with ⟨rfl, _⟩ | ⟨rfl, rfl⟩ <;> first | exact hbad | omega)] at HN
        have e := HN.out
        subst e
        by_cases hd0 : d < 0
        · have b1 : decide (d < 0) = true := decide_eq_true hd0
          clear HN hbad hru
          go_wp2_with fail
          refine (digits_digit.calls 3 _ _ _ HDF.out).mono ?_
          rintro e w' ⟨rfl, ⟨nd, rfl⟩⟩
          go_wp2
          go_ret2
          exact ⟨rfl, pw_below_drewN HBI.out nd⟩
        · have b1 : decide (d < 0) = false := decide_eq_false hd0
          have hd1 := hbad.resolve_left hd0
          clear HN hbad hru
          go_wp2_with fail
          refine (digits_digit.calls 3 _ _ _ HDF.out).mono ?_
          rintro e w' ⟨rfl, ⟨nd, rfl⟩⟩
          go_wp2
          go_ret2
          exact ⟨rfl, pw_below_drewN HBI.out nd⟩
      · obtain ⟨rfl, rfl⟩ := hru.out.resolve_right (fun h => hbad (.inl (by omega)))
        rw [if_neg hbad] at HN
        have hd0 : 0 ≤ d := by omega
        have hd1 : d < 10 := by omega
        clear hru hbad
        cases o with
        | true =>
          rw [if_pos (.inl rfl)] at HN
          go_wp2_with fail
          refine (digits_digit.calls 3 _ _ _ HDF.out).mono ?_
          rintro e w' ⟨rfl, ⟨nd, rfl⟩⟩
          go_wp2
          go_roundg (gk - 1)
          case measure => omega
          case rel => exact ⟨pos + 1, n, true, rfl, rfl, by omega, by omega, hn0, hn1, HIT, HN, pw_below_drewN HBI.out nd⟩
        | false =>
          by_cases hm : most < d
          · rw [if_pos (.inr (.inl hm))] at HN
            go_wp2_with fail
            refine (digits_digit.calls 3 _ _ _ HDF.out).mono ?_
            rintro e w' ⟨rfl, ⟨nd, rfl⟩⟩
            go_wp2
            go_roundg (gk - 1)
            case measure => omega
            case rel => exact ⟨pos + 1, n, true, rfl, rfl, by omega, by omega, hn0, hn1, HIT, HN, pw_below_drewN HBI.out nd⟩
          · by_cases hq : (most - d) / 10 < n
            · rw [if_pos (.inr (.inr hq))] at HN
              go_wp2_with fail
              refine (digits_digit.calls 3 _ _ _ HDF.out).mono ?_
              rintro e w' ⟨rfl, ⟨nd, rfl⟩⟩
              go_wp2
              go_roundg (gk - 1)
              case measure => omega
              case rel => exact ⟨pos + 1, n, true, rfl, rfl, by omega, by omega, hn0, hn1, HIT, HN, pw_below_drewN HBI.out nd⟩
            · rw [if_neg (by simp; omega)] at HN
              have q1 : decide (most < d) = false := decide_eq_false hm
              have q2 : decide ((most - d) / 10 < n) = false := decide_eq_false hq
              go_wp2_with fail
              refine (digits_digit.calls 3 _ _ _ HDF.out).mono ?_
              rintro e w' ⟨rfl, ⟨nd, rfl⟩⟩
              go_wp2
              go_roundg (gk - 1)
              case measure => omega
              case rel => exact ⟨pos + 1, _, false, rfl, rfl, by omega, by omega, by omega, by omega, HIT, HN, pw_below_drewN HBI.out nd⟩
    · have hnx : ∀ ty, (Instr.next (.pointer (some ⟨w.heap.size, 0, none⟩)) true ty).run Try.prog wr = _ := fun ty => run_next_end_at wr w.heap.size s pos ty HI.out hlt
      have hdrop : s.data.toList.drop pos = [] := List.drop_eq_nil_of_le (by rw [data_length]; omega)
      rw [hdrop] at HN
      cases o with
      | true =>
        have e := HN.out
        simp only [numL, if_true] at e
        subst e
        clear HN
        go_wp2
        go_ret2
        exact ⟨rfl, HB⟩
      | false =>
        have e := HN.out
        simp only [numL] at e
        rw [if_neg (by simp)] at e
        subst e
        clear HN
        go_wp2
        go_ret2
        exact ⟨rfl, HB⟩
set_option maxHeartbeats 4000000 in
theorem digits_number.some_16 (s : ByteArray) (most : Int) (w : World) (h0 : 0 ≤ most) (h1 : most ≤ 4611686018427387904) (hs : s.toList.isEmpty = false) :
    Calls Try.prog 130 #[.string s, .int .i64 16, .int .i64 most] w fun e w' => e = .returned (.tuple #[.int .i64 (numL 16 most s.data.toList 0 false).1, .int .i64 (numL 16 most s.data.toList 0 false).2]) ∧ Below w.heap.size w w' := by
  obtain ⟨R, hR⟩ : ∃ R, numL 16 most s.data.toList 0 false = R := ⟨_, rfl⟩
  rw [hR]
  have HR := Aside0.mk hR
  clear hR
  go_enter Try.func130, Try.ntmps130
  go_wp2
  go_loopg [8, 9] s.size (fun gg vn vo wr => ∃ (pos : Nat) (n : Int) (o : Bool), vn = .int .i64 n ∧ vo = .bool o ∧ pos ≤ s.size ∧ s.size - pos ≤ gg ∧ 0 ≤ n ∧ n ≤ most ∧ Aside0 (wr.heap[w.heap.size]? = some (.stringIter s pos)) ∧ Aside0 (numL 16 most (s.data.toList.drop pos) n o = R) ∧ Below w.heap.size w wr)
  case atStart => exact ⟨0, 0, false, rfl, rfl, Nat.zero_le _, by omega, by omega, h0, ⟨World.iter_heap w s 0⟩, HR, by unfold World.iter; exact (Below.refl _ _).alloc (Nat.le_refl _) _⟩
  case round =>
    obtain ⟨pos, n, o, rfl, rfl, hpos, hgg, hn0, hn1, HI, HN, HB⟩ := hrel
    by_cases hlt : pos < s.size
    · have hnx : ∀ ty, (Instr.next (.pointer (some ⟨w.heap.size, 0, none⟩)) true ty).run Try.prog wr = _ := fun ty => run_next_any_at wr w.heap.size s pos ty HI.out hlt
      have HBI := Aside0.mk (below_iterAt HB (Nat.le_refl _) s (pos + (Utf8.decode s pos).2))
      have HIT := Aside0.mk (iterAt_heap wr w.heap.size s pos (pos + (Utf8.decode s pos).2) HI.out)
      have hdrop : s.data.toList.drop pos = s[pos] :: s.data.toList.drop (pos + 1) := by
        rw [List.drop_eq_getElem_cons (by rw [data_length]; exact hlt)]
        rfl
      rw [hdrop] at HN
      -- what this rune says
      have hru : Aside0 ((digI ((Utf8.decode s pos).1 : Int) = digI ((s[pos]).toNat : Int) ∧ (Utf8.decode s pos).2 = 1) ∨ (digI ((Utf8.decode s pos).1 : Int) = -1 ∧ digI ((s[pos]).toNat : Int) = -1)) := ⟨by
        by_cases ha : (s[pos]).toNat < 128
        · rw [decode_ascii s pos hlt ha]
          exact .inl ⟨rfl, rfl⟩
        · have hd := (decode_high s pos hlt (by omega)).1
          exact .inr ⟨digI_high _ (by omega), digI_high _ (by omega)⟩⟩
      obtain ⟨W1, hW⟩ : ∃ W1, wr.iterAt w.heap.size s (pos + (Utf8.decode s pos).2) = W1 := ⟨_, rfl⟩
      obtain ⟨C, hC⟩ : ∃ C : Nat, (Utf8.decode s pos).1 = C := ⟨_, rfl⟩
      obtain ⟨D, hD⟩ : ∃ D : Nat, (Utf8.decode s pos).2 = D := ⟨_, rfl⟩
      obtain ⟨B, hBy⟩ : ∃ B : Int, digI ((s[pos]).toNat : Int) = B := ⟨_, rfl⟩
      rw [hW, hC] at hnx
      rw [hW, hD] at HIT
      rw [hW] at HBI
      rw [hC, hD, hBy] at hru
      simp only [numL, hBy] at HN
      clear hW hC hD HI HB hdrop hBy
      have hdr := digI_range (C : Int)
      have HDF := Aside0.mk (digit_f (C : Int))
      obtain ⟨d, hd⟩ : ∃ d : Int, digI (C : Int) = d := ⟨_, rfl⟩
      rw [hd] at hru hdr HDF
      clear hd
      by_cases hbad : d < 0 ∨ 16 ≤ d
      · rw [if_pos (by rcases hru.out with ⟨rfl, _⟩ | ⟨rfl, rfl⟩ <;> first | exact hbad | omega)] at HN
        have e := HN.out
        subst e
        by_cases hd0 : d < 0
        · have b1 : decide (d < 0) = true := decide_eq_true hd0
          clear HN hbad hru
          go_wp2_with fail
          refine (digits_digit.calls 3 _ _ _ HDF.out).mono ?_
          rintro e w' ⟨rfl, ⟨nd, rfl⟩⟩
          go_wp2
          go_ret2
          exact ⟨rfl, pw_below_drewN HBI.out nd⟩
        · have b1 : decide (d < 0) = false := decide_eq_false hd0
          have hd1 := hbad.resolve_left hd0
          clear HN hbad hru
          go_wp2_with fail
          refine (digits_digit.calls 3 _ _ _ HDF.out).mono ?_
          rintro e w' ⟨rfl, ⟨nd, rfl⟩⟩
          go_wp2
          go_ret2
          exact ⟨rfl, pw_below_drewN HBI.out nd⟩
      · obtain ⟨rfl, rfl⟩ := hru.out.resolve_right (fun h => hbad (.inl (by omega)))
        rw [if_neg hbad] at HN
        have hd0 : 0 ≤ d := by omega
        have hd1 : d < 16 := by omega
        clear hru hbad
        cases o with
        | true =>
          rw [if_pos (.inl rfl)] at HN
          go_wp2_with fail
          refine (digits_digit.calls 3 _ _ _ HDF.out).mono ?_
          rintro e w' ⟨rfl, ⟨nd, rfl⟩⟩
          go_wp2
          go_roundg (gk - 1)
          case measure => omega
          case rel => exact ⟨pos + 1, n, true, rfl, rfl, by omega, by omega, hn0, hn1, HIT, HN, pw_below_drewN HBI.out nd⟩
        | false =>
          by_cases hm : most < d
          · rw [if_pos (.inr (.inl hm))] at HN
            go_wp2_with fail
            refine (digits_digit.calls 3 _ _ _ HDF.out).mono ?_
            rintro e w' ⟨rfl, ⟨nd, rfl⟩⟩
            go_wp2
            go_roundg (gk - 1)
            case measure => omega
            case rel => exact ⟨pos + 1, n, true, rfl, rfl, by omega, by omega, hn0, hn1, HIT, HN, pw_below_drewN HBI.out nd⟩
          · by_cases hq : (most - d) / 16 < n
            · rw [if_pos (.inr (.inr hq))] at HN
              go_wp2_with fail
              refine (digits_digit.calls 3 _ _ _ HDF.out).mono ?_
              rintro e w' ⟨rfl, ⟨nd, rfl⟩⟩
              go_wp2
              go_roundg (gk - 1)
              case measure => omega
              case rel => exact ⟨pos + 1, n, true, rfl, rfl, by omega, by omega, hn0, hn1, HIT, HN, pw_below_drewN HBI.out nd⟩
            · rw [if_neg (by simp; omega)] at HN
              have q1 : decide (most < d) = false := decide_eq_false hm
              have q2 : decide ((most - d) / 16 < n) = false := decide_eq_false hq
              go_wp2_with fail
              refine (digits_digit.calls 3 _ _ _ HDF.out).mono ?_
              rintro e w' ⟨rfl, ⟨nd, rfl⟩⟩
              go_wp2
              go_roundg (gk - 1)
              case measure => omega
              case rel => exact ⟨pos + 1, _, false, rfl, rfl, by omega, by omega, by omega, by omega, HIT, HN, pw_below_drewN HBI.out nd⟩
    · have hnx : ∀ ty, (Instr.next (.pointer (some ⟨w.heap.size, 0, none⟩)) true ty).run Try.prog wr = _ := fun ty => run_next_end_at wr w.heap.size s pos ty HI.out hlt
      have hdrop : s.data.toList.drop pos = [] := List.drop_eq_nil_of_le (by rw [data_length]; omega)
      rw [hdrop] at HN
      cases o with
      | true =>
        have e := HN.out
        simp only [numL, if_true] at e
        subst e
        clear HN
        go_wp2
        go_ret2
        exact ⟨rfl, HB⟩
      | false =>
        have e := HN.out
        simp only [numL] at e
        rw [if_neg (by simp)] at e
        subst e
        clear HN
        go_wp2
        go_ret2
        exact ⟨rfl, HB⟩
theorem digits_number.empty_ (s : ByteArray) (b most : Int) (w : World) (hs : s.toList.isEmpty = true) :
    Calls Try.prog 130 #[.string s, .int .i64 b, .int .i64 most] w fun e w' => e = .returned (.tuple #[.int .i64 0, .int .i64 2]) ∧ Below w.heap.size w w' := by
  go_enter Try.func130, Try.ntmps130
  go_wp2
  go_ret2
  exact ⟨rfl, Below.refl _ _⟩
theorem isEmpty_size (s : ByteArray) : s.toList.isEmpty = decide (s.size = 0) := by
  rw [ByteArray.toList_eq, ← data_length]
  cases s.data.toList <;> simp
theorem digits_number.calls (a0 : ByteArray) (a1 : Int) (a2 : Int) (r1 : Int) (r2 : Int) (w : World) (h : digits_number.f a0 a1 a2 = some (r1, r2)) :
    Calls Try.prog 130 #[.string a0, .int .i64 a1, .int .i64 a2] w fun e w' => e = .returned (.tuple #[.int .i64 r1, .int .i64 r2]) ∧ Below w.heap.size w w' := by
  unfold digits_number.f at h
  split at h
  · rename_i hc
    obtain ⟨hb, h0, h1⟩ := hc
    by_cases hs : a0.size = 0
    · rw [if_pos hs] at h
      simp only [Option.some.injEq, Prod.mk.injEq] at h
      obtain ⟨rfl, rfl⟩ := h
      exact digits_number.empty_ a0 a1 a2 w (by rw [isEmpty_size]; simpa using hs)
    · rw [if_neg hs] at h
      have he : a0.toList.isEmpty = false := by rw [isEmpty_size]; simpa using hs
      have h := Option.some.inj h
      rcases hb with rfl | rfl
      · have := digits_number.some_10 a0 a2 w h0 h1 he
        rw [h] at this
        exact this
      · have := digits_number.some_16 a0 a2 w h0 h1 he
        rw [h] at this
        exact this
  · cases h
end Go.Proofs.Ytjnhghplfdiijaa.Q

namespace Go.Proofs.Ytjnhghplfdiijaa.Q
open Go.RowKit Go.Proofs.YtjnhghplfdiijaaW.PrintWords Go.Proofs.YtjnhghplfdiijaaW.PrintLast Go.Proofs.YtjnhghplfdiijaaW.PrintMore Go.Lib Go.Shelf
set_option linter.unusedVariables false
set_option linter.unusedSimpArgs false
attribute [local go_sem] Oper.semAt_some
theorem elements_new (s : ByteArray) (w : World) :
    Calls Try.prog 118 #[.string s] w fun e w' => e = .returned (.func (.func 164) #[] #[.pointer (some ⟨w.heap.size, 0, none⟩)]) ∧ w.alloc (.cells #[.string s] 9) = w' := by
  go_enter Try.func118, Try.ntmps118
  go_wp2
  go_ret
  exact ⟨rfl, rfl⟩
/-- Pieces, trimmed, but for those that are empty. -/
def packL (tr : ByteArray → ByteArray) (l : List ByteArray) : List ByteArray := (l.map tr).filter fun x => decide (x.size ≠ 0)
theorem packL_length (tr : ByteArray → ByteArray) (l : List ByteArray) : (packL tr l).length ≤ l.length := by
  unfold packL
  exact Nat.le_trans (List.length_filter_le _ _) (by simp)
/-- A row of texts is not turned by a block that is no row. -/
theorem own_noncells {w w1 : World} {base n : Nat} {e : TypeId} {v : Value} {xs : List Value} {row : Option Nat} (h : w.ownsRow base e 1 v n xs) (hg : w.grownBy w1 row) (hr : ∀ r, row = some r → ∃ o, w.heap[r]? = some o ∧ o.isCells = false) :
    w1.ownsRow base e 1 v n xs := by
  refine h.kept hg ?_
  rcases h.2 with ⟨rfl, _⟩ | ⟨g, cap, cur, rfl, _, hgb, _⟩
  · exact .inl rfl
  · refine .inr fun e' => ?_
    obtain ⟨o, ho, hc⟩ := hr g (by rw [← e']; rfl)
    rw [hgb] at ho
    injection ho with ho
    subst ho
    simp [Obj.isCells] at hc
theorem own_ne_lt {w : World} {base n b : Nat} {e : TypeId} {v : Value} {xs : List Value} (h : w.ownsRow base e 1 v n xs) (hb : b < base) : some b ≠ v.ownBlock := fun he => by have := own_base h b he.symm; omega
theorem own_keeps {w w1 : World} {base n : Nat} {e : TypeId} {v : Value} {xs : List Value} (h : w.ownsRow base e 1 v n xs) (hg : w.grownBy w1 v.ownBlock) : KeepsOthers w w1 :=
  KeepsOthers.of_grownBy hg fun j o hj ho => by
    rcases h.2 with ⟨rfl, _⟩ | ⟨g, cap, cur, rfl, _, hgb, _⟩
    · simp [Value.ownBlock] at hj
    · have : g = j := by simpa [Value.ownBlock] using hj
      subst this
      rw [hgb] at ho
      injection ho with ho
      subst ho
      rfl
theorem packL_snoc (tr : ByteArray → ByteArray) (l : List ByteArray) (x : ByteArray) : packL tr (l ++ [x]) = packL tr l ++ (if (tr x).size = 0 then [] else [tr x]) := by
  unfold packL
  rw [List.map_append, List.filter_append]
  by_cases h : (tr x).size = 0
  · rw [if_pos h]
    simp only [List.map_cons, List.map_nil, List.filter_cons, List.filter_nil]
    rw [if_neg (by simpa using h)]
  · rw [if_neg h]
    simp only [List.map_cons, List.map_nil, List.filter_cons, List.filter_nil]
    rw [if_pos (by simpa using h)]
set_option maxRecDepth 100000 in
set_option maxHeartbeats 4000000 in
theorem split_true (tr : ByteArray → ByteArray) (s : ByteArray) (htr : ∀ x : ByteArray, x.size ≤ 9223372036854775807 → ∃ k, octet_Trim.f k x = some (tr x)) (w : World) (hs : s.size ≤ 4398046511104) (he : endsP s = true) :
    Calls Try.prog 73 #[.string s] w fun e w' => ∃ v0_ : Value, e = .returned (.tuple #[v0_, .bool true]) ∧ Kd.R Kd.string 9 w' w.heap.size (fun _ => True) v0_ (packL tr (elemsP s)) ∧ Below w.heap.size w w' := by
  have HTR := Aside0.mk htr
  have HE : Aside0 (Calls Try.prog 117 #[.string s] w fun e w' => e = .returned (.bool true) ∧ Below w.heap.size w w') := ⟨by have := ends_any s w (by omega); rw [he] at this; exact this⟩
  clear htr he
  refine (callsIn_wide (n := 4)).1 ?_
  refine callsIn_of_wp_marks Try.func73 rfl trivial ?_ rfl
  simp only [Try.ntmps73, List.size_toArray, List.length_cons, List.length_nil, Nat.reduceAdd, Nat.reduceSub, Array.replicate_succ, Array.replicate_zero, List.push_toArray, List.append_toArray, List.nil_append, List.cons_append]
  gi_wp2_with fail
  refine ⟨trivial, ?_⟩
  refine (callsIn_wide.2 HE.out).mono ?_
  rintro e w1 ⟨rfl, hb⟩
  gi_wp2_with fail
  refine ⟨trivial, ?_⟩
  refine (callsIn_wide.2 (elements_new s _)).mono ?_
  rintro e w2 ⟨rfl, rfl⟩
  gi_wp2_with fail
  obtain ⟨b, hbq⟩ : ∃ b, w1.heap.size = b := ⟨_, rfl⟩
  obtain ⟨W0, hW0⟩ : ∃ W0, (w1.alloc (Obj.cells #[Value.slice none 0 0] 93)).alloc (Obj.cells #[Value.string s] 9) = W0 := ⟨_, rfl⟩
  have hz : W0.heap.size = b + 2 := by rw [← hW0, ← hbq]; simp
  have hwb : w.heap.size ≤ b := by rw [← hbq]; exact hb.size
  have hB0 : Below w.heap.size w W0 := by rw [← hW0]; exact (hb.alloc hb.size _).alloc (by simp; have := hb.size; omega) _
  have hbo : W0.heap[b]? = some (.cells #[.slice none 0 0] 93 (0, 0)) := by rw [← hW0, ← hbq]; exact blk_alloc (heap_alloc_new w1 _) _
  have hbs : W0.heap[b + 1]? = some (.cells #[.string s] 9 (0, 0)) := by
    have := heap_alloc_new (w1.alloc (Obj.cells #[Value.slice none 0 0] 93)) (Obj.cells #[Value.string s] 9)
    rw [World.size_alloc, hbq] at this
    rw [← hW0]; exact this
  rw [hW0, hbq]
  clear hW0 hb
  clear hbq
  have HN : Aside0 ((elemsP s).length ≤ s.size + 1) := ⟨cutsP_length s _ _ _ _ _ _⟩
  refine wpIn_rangeFunc_band (α := ByteArray) (n := 4) rfl (by omega) (gf := 164) (lb := #[.pointer (some ⟨b + 1, 0, none⟩)]) rfl trivial (enters_of Try.func164 (by kernel_rfl) rfl)
    (encs := fun x => #[.string x]) (Kp := KpS w.heap.size (b + 1) (b + 4)) (S := fun xs => xs = elemsP s) (Sp := fun pre => pre <+: elemsP s) (Ok := fun x => x.size ≤ s.size) (N := s.size + 1) (m := 1)
    (fun l J Jx V hV hbV _ _ hJ hJx hY h0 => elements_in l (b + 1) (b + 4) s (by omega) w V J Jx (by omega) (by omega) (by omega) (by rw [show b + 4 = V.heap.size by omega]; exact hJ) (by rw [show b + 4 = V.heap.size by omega]; exact hJx) (hB0.trans (hbV.mono hB0.size)) ((hbV.block _ (by omega)).trans hbs) (fun pre x W1 h0 h1 h2 h3 => hY pre x W1 h0 h1 h2 (by omega)) h0)
    (fun {A B C} h k => ⟨h.1.trans k.1, fun r hr hlt => (k.2 r hr (Nat.lt_of_lt_of_le hlt h.1.size)).trans (h.2 r hr hlt)⟩)
    (fun W o' hlt => ⟨(Below.refl _ W).grown (grownBy_putObj' W _ o') (by omega) (fun k e => by cases e; omega), fun r hr hrl => World.putObj_heap_other (by omega)⟩)
    (fun _ => rfl)
    (fun pre W => ∃ v, Boxed W b 93 v ∧ W.ownsRow (b + 5) 9 1 v (packL tr pre).length ((packL tr pre).map Value.string) ∧ Below w.heap.size w W)
    (fun _ _ _ => False) ?hI (fun _ _ _ _ _ h _ _ => h) ?hIb (fun _ _ _ _ _ h _ _ => h) ?h0
    (fun x => { tmps := #[.string s, undef, .slice none 0 0, .bool false, .pointer (some ⟨b, 0, none⟩), .string x, .string s, .bool true, .bool false, .string s,
        .func (.func 164) #[] #[.pointer (some ⟨b + 1, 0, none⟩)], .string x, undef, undef, undef, undef, undef, undef, undef, undef, undef], defers := [] }) ?assign ?body ?done ?stop
  case hI =>
    rintro pre A A' row ⟨v, hv, hR, hB⟩ hg hr
    exact ⟨v, blk_grown hv hg (fun e => by have := (hr b e.symm).1; omega), own_noncells hR hg (fun r e => (hr r e).2), hB.grown hg (by have := blk_lt hv; omega) (fun k e => by have := (hr k e).1; omega)⟩
  case hIb =>
    rintro pre A A' row ⟨v, hv, hR, hB⟩ hg hr
    exact ⟨v, blk_grown hv hg (fun e => by have := hr b e.symm; omega), hR.kept hg (by rcases hvo : v.ownBlock with _ | k; exact .inl rfl; exact .inr (fun e => by have := own_base hR k hvo; have := hr k e.symm; omega)), hB.grown hg (by have := blk_lt hv; omega) (fun k e => by have := (hr k e).1; omega)⟩
  case h0 => exact ⟨_, hbo, World.ownsRow_nil _ _ _ _, hB0⟩
  case assign =>
    intro l x W K hK
    gi_wp2
    exact hK
  case body =>
    rintro l pre x W hx ⟨v, hv, hR, hB⟩ hlt hlaid
    have hx : x.size ≤ s.size := hx
    obtain ⟨k, hk⟩ := HTR.out x (by omega)
    have HK := Aside0.mk hk
    have HV := Aside0.mk hv
    have HR := Aside0.mk hR
    have HB := Aside0.mk hB
    have hc : W.cell? ⟨b, 0, none⟩ = some v := (blk_cell hv 0).trans rfl
    have hpl : (packL tr pre).length ≤ pre.length := packL_length tr pre
    clear hk hv hR hB
    have hHV : Boxed W b 93 v := HV.out
    have hlen2 : (packL tr pre).length + 1 ≤ maxLen := by unfold maxLen; omega
    obtain ⟨i0, hi, hz0, hz1, hz2⟩ := info_parts info9
    by_cases hne : (tr x).size = 0
    · have hemp : (tr x).toList.isEmpty = true := by rw [isEmpty_size]; simpa using hne
      have hsn : packL tr (pre ++ [x]) = packL tr pre := by rw [packL_snoc, if_pos hne, List.append_nil]
      have HSN := Aside0.mk hsn
      clear hsn hne
      gi_wp2_with fail
      refine ⟨trivial, ?_⟩
      refine (CallsIn.inRound l (callsIn_wide.2 (octet_Trim.calls k x _ _ HK.out))).mono ?_
      rintro e w2 ⟨rfl, ⟨nd, rfl⟩⟩
      gi_wp2
      refine ⟨⟨Nat.le_refl _, fun k o _ hk _ => hk⟩, ⟨pw_below_drewN (Below.refl _ _) nd, fun r _ _ => rfl⟩, v, HV.out, ?_, pw_below_drewN HB.out nd⟩
      rw [HSN.out]
      exact pw_own_below HR.out (pw_below_drewN (Below.refl _ _) nd)
    · have hemp : (tr x).toList.isEmpty = false := by rw [isEmpty_size]; simpa using hne
      have hsn : packL tr (pre ++ [x]) = packL tr pre ++ [tr x] := by rw [packL_snoc, if_neg hne]
      have HSN := Aside0.mk hsn
      clear hsn hne
      gi_wp2_with fail
      refine ⟨trivial, ?_⟩
      refine (CallsIn.inRound l (callsIn_wide.2 (octet_Trim.calls k x _ _ HK.out))).mono ?_
      rintro e w2 ⟨rfl, ⟨nd, rfl⟩⟩
      have hrow2 : (W.drewN nd).ownsRow (b + 5) 9 1 v (packL tr pre).length ((packL tr pre).map Value.string) := pw_own_below HR.out (pw_below_drewN (Below.refl _ _) nd)
      have HROW := Aside0.mk hrow2
      clear hrow2
      gi_wp2_with (gi_at_builtin; refine wpListIn_append_own _ rfl _ _ 93 rfl (b + 5) 9 i0 (.string ⟨#[]⟩) 1 16 Try.underlying93 hi hz0 hz1 hz2 rfl (by decide) v _ _ rfl (HROW.out.alloc _) ⟨W.heap.size, 0, none⟩ 1 1 [.string (tr x)] rfl rfl (cell_one_new _ _ _) (by simp [Value.oneCell']) ?b1 ?b2 ?b3 ?_; (case b1 => exact hlen2); (case b2 => omega); (case b3 => simp; omega); intro v' w3 hown' hgrow _; obtain ⟨g', cap', rfl⟩ := ownsRow_succ hown'; have hbx : Boxed w3 b 93 v := (Boxed.alloc (show Boxed (W.drewN nd) b 93 v from HV.out) _).kept hgrow (own_ne_lt HROW.out (by omega)); have hc3 := hbx.cell; have hf3 := hbx.frozen; have HBX := Aside0.mk hbx; have HOW := Aside0.mk hown'; have HGR := Aside0.mk hgrow; clear hbx hown' hgrow)
      have hA : KeepsOthers W ((W.drewN nd).alloc (Obj.cells #[Value.string (tr x)] 9)) := (⟨Nat.le_refl _, fun k o hk _ => hk⟩ : KeepsOthers W (W.drewN nd)).trans (KeepsOthers.alloc _ _)
      have hsz3 := HGR.out.size
      simp only [World.size_alloc] at hsz3
      have hsz3' : W.heap.size + 1 ≤ w3.heap.size := hsz3
      refine ⟨((hA.trans (own_keeps (HROW.out.alloc _) HGR.out)).trans (KeepsOthers.setCell _ _ _)).from _, ⟨?_, fun r hr hlt2 => ?_⟩, _, HBX.out.set _, ?_, ?_⟩
      · exact (((pw_below_drewN (Below.refl w.heap.size W) nd).alloc (by show w.heap.size ≤ W.heap.size; omega) _).grown HGR.out (by simp only [World.size_alloc]; show w.heap.size ≤ W.heap.size + 1; omega) (fun k hk => by have := own_base HROW.out k hk; omega)).setCell (p := ⟨b, 0, none⟩) hwb _
      · rw [Below.heap_setCell _ _ _ _ (by simp only; omega), HGR.out.block r (by simp only [World.size_alloc]; exact Nat.lt_succ_of_lt hlt2) (own_ne_lt HROW.out (by omega)), Below.heap_alloc _ _ _ (by exact hlt2)]
        rfl
      · rw [HSN.out, List.length_append, List.map_append]
        exact own_setCell HOW.out (own_ne_lt HOW.out (by show b < b + 5; omega)) _
      · exact (((pw_below_drewN HB.out nd).alloc (by show w.heap.size ≤ W.heap.size; omega) _).grown HGR.out (by simp only [World.size_alloc]; show w.heap.size ≤ W.heap.size + 1; omega) (fun k hk => by have := own_base HROW.out k hk; omega)).setCell (p := ⟨b, 0, none⟩) hwb _
  case done =>
    rintro D ys W hD rfl ⟨v, hv, hR, hB⟩ hK
    have hc : W.cell? ⟨b, 0, none⟩ = some v := hv.cell
    have HVV := Aside0.mk hv
    have HRR := Aside0.mk hR
    have HBB := Aside0.mk hB
    clear hv hR hB
    gi_wp2
    refine ⟨by simp, .inl ⟨_, _, rfl, run_takeDeferred hK, ?_⟩⟩
    refine ⟨_, results_tmp2 rfl _ _ _, v, rfl, ?_, HBB.out.grown (grownBy_putObj' W D _) (by have := HVV.out.lt; omega) (fun k e => by cases e; omega)⟩
    exact Kd.R_lower (Kd.R_of_own (h1 := fun _ => rfl) (ownsRow_putObj HRR.out _ hK rfl) (fun _ _ => trivial)) (by omega)
  case stop =>
    rintro D c pre W _ _ h _
    exact h.elim
theorem split_false (s : ByteArray) (w : World) (hs : s.size ≤ 4398046511104) (he : endsP s = false) :
    Calls Try.prog 73 #[.string s] w fun e w' => ∃ v0_ : Value, e = .returned (.tuple #[v0_, .bool false]) ∧ Kd.R Kd.string 9 w' w.heap.size (fun _ => True) v0_ [] ∧ Below w.heap.size w w' := by
  have HE : Aside0 (Calls Try.prog 117 #[.string s] w fun e w' => e = .returned (.bool false) ∧ Below w.heap.size w w') := ⟨by have := ends_any s w (by omega); rw [he] at this; exact this⟩
  clear he
  go_enter Try.func73, Try.ntmps73
  go_wp2_with fail
  refine HE.out.mono ?_
  rintro e w1 ⟨rfl, hb⟩
  have HB := Aside0.mk hb
  clear hb
  go_wp2
  go_ret2
  exact ⟨_, rfl, Kd.R_nil _ _ _ _ _, HB.out⟩
def lists_Split.f (s : ByteArray) : Option (List ByteArray × Bool) := if s.size ≤ 4398046511104 then some (if endsP s = true then (packL trimB (elemsP s), true) else ([], false)) else none
theorem lists_Split.calls (a0 : ByteArray) (r1 : List ByteArray) (r2 : Bool) (w : World) (h : lists_Split.f a0 = some (r1, r2)) :
    Calls Try.prog 73 #[.string a0] w fun e w' => ∃ v0_ : Value, e = .returned (.tuple #[v0_, .bool r2]) ∧ Kd.R Kd.string 9 w' w.heap.size (fun _ => True) v0_ r1 ∧ Below w.heap.size w w' := by
  unfold lists_Split.f at h
  split at h
  · rename_i hs
    injection h with h
    split at h
    · rename_i he
      injection h with h1 h2
      subst h1 h2
      exact split_true trimB a0 trim_any w hs he
    · rename_i he
      injection h with h1 h2
      subst h1 h2
      exact split_false a0 w hs (by simpa using he)
  · exact absurd h (by simp)
end Go.Proofs.Ytjnhghplfdiijaa.Q

namespace Go.Proofs.Ytjnhghplfdiijaa.Q
open Go.RowKit Go.Proofs.YtjnhghplfdiijaaW.PrintWords Go.Proofs.YtjnhghplfdiijaaW.PrintLast Go.Proofs.YtjnhghplfdiijaaW.PrintMore Go.Lib Go.Shelf
set_option linter.unusedVariables false
set_option linter.unusedSimpArgs false
/-- A function value that answers p at the structs of a list, and keeps what lay. -/
def Pred_Dir (P : Program) (f : Nat) (lb : Array Value) (p : S51 → Bool) (l : List S51) (w : World) : Prop :=
  ∀ (x : S51) (W : World), x ∈ l → Below w.heap.size w W → Calls P f (#[.agg #[.string x.f0, .string x.f1, .bool x.f2]] ++ lb) W fun e w' => e = .returned (.bool (p x)) ∧ Below W.heap.size W w'
set_option maxHeartbeats 2000000 in
theorem IndexFunc_Dir (f : Nat) (lb : Array Value) (ef : ∀ args w, (callFunc f args).run Try.prog w = .ok (.enter f args) w) (p : S51 → Bool) (A : Option Addr) (c : Nat) (l : List S51) (w : World)
    (hr : Kd.C k51 w A l.length l) (hl : l.length ≤ 9223372036854775807) (hcall : Pred_Dir Try.prog f lb p l w) :
    Calls Try.prog 128 #[.slice A l.length c, .func (.func f) #[] lb] w fun e w' => e = .returned (.int .i64 (idxI p l)) ∧ Below w.heap.size w w' := by
  have HR := Aside0.mk hr
  have HC := Aside0.mk hcall
  clear hr hcall
  go_enter Try.func128, Try.ntmps128
  go_wp2
  go_loopg [5, 8] l.length (fun gg _ i wr => ∃ k : Nat, k ≤ l.length ∧ l.length - k ≤ gg ∧ i = .int .i64 k ∧ Below w.heap.size w wr ∧ Aside0 (∀ j y, j < k → l[j]? = some y → p y = false))
  case atStart => exact ⟨0, Nat.zero_le _, by omega, rfl, Below.refl _ _, ⟨fun j y hj => by omega⟩⟩
  case round =>
    obtain ⟨k, hk, hgg, rfl, HB, HA⟩ := hrel
    by_cases hlt : k < l.length
    · obtain ⟨ad, e, hq0, hq1, hq2⟩ := at_T51 (Kd.C_below HR.out HB) (k : Int) (by omega) (by omega)
      subst e
      have hget : rd_T51 l (k : Int) = l[k] := by simp [rd_T51, hlt]
      rw [hget] at hq0 hq1 hq2
      have HK := Aside0.mk (List.getElem?_eq_getElem hlt)
      have HM := Aside0.mk (List.getElem_mem hlt)
      clear hget
      generalize l[k] = y at hq0 hq1 hq2 HK HM
      have hx0 : wr.cell? (ad.add (k * 3)) = some (.string y.f0) := hq0
      have hx1 : wr.cell? ⟨(ad.add (k * 3)).block, (ad.add (k * 3)).off + 1, none⟩ = some (.string y.f1) := hq1
      have hx2 : wr.cell? ⟨(ad.add (k * 3)).block, (ad.add (k * 3)).off + 2, none⟩ = some (.bool y.f2) := hq2
      clear hq0 hq1 hq2
      have hHC := Aside0.mk (HC.out y wr HM.out HB)
      cases hq : p y with
      | true =>
        rw [hq] at hHC
        have HQ := Aside0.mk hq
        clear hq
        go_wp2_with fail
        refine hHC.out.mono ?_
        rintro e w2 ⟨rfl, hb⟩
        have HBX := Aside0.mk hb
        clear hb
        go_wp2
        go_ret
        rw [idxI_hit p l k y HK.out HQ.out (fun j z hj hz => HA.out j z hj hz)]
        exact ⟨rfl, HB.trans (HBX.out.mono HB.size)⟩
      | false =>
        rw [hq] at hHC
        have HQ := Aside0.mk hq
        clear hq
        go_wp2_with fail
        refine hHC.out.mono ?_
        rintro e w2 ⟨rfl, hb⟩
        have HBX := Aside0.mk hb
        clear hb
        go_wp2
        go_roundg (gk - 1)
        case measure => omega
        case rel =>
          refine ⟨k + 1, by omega, by omega, by go_num, HB.trans (HBX.out.mono HB.size), ⟨fun j z hj hz => ?_⟩⟩
          by_cases e : j = k
          · subst e
            have := HK.out.symm.trans hz
            injection this with this
            subst this
            exact HQ.out
          · exact HA.out j z (by omega) hz
    · go_wp2
      go_ret
      rw [idxI_miss p l (fun j z hz => HA.out j z (by have := (List.getElem?_eq_some_iff.1 hz).1; omega) hz)]
      exact ⟨rfl, HB⟩
end Go.Proofs.Ytjnhghplfdiijaa.Q

namespace Go.Proofs.Ytjnhghplfdiijaa.Q
open Go.RowKit Go.Proofs.YtjnhghplfdiijaaW.PrintWords Go.Proofs.YtjnhghplfdiijaaW.PrintLast Go.Proofs.YtjnhghplfdiijaaW.PrintMore Go.Lib Go.Shelf
set_option linter.unusedVariables false
set_option linter.unusedSimpArgs false
theorem extract_size_le (s : ByteArray) (a b : Nat) : (s.extract a b).size ≤ s.size := by simp [ByteArray.size_extract]; omega
theorem cutsP_sizes (s : ByteArray) : ∀ (r i fr : Nat) (q sl : Bool) (d : Int), ∀ x ∈ cutsP s r i fr q sl d, x.size ≤ s.size
  | 0, i, fr, q, sl, d => by
    intro x hx
    simp only [cutsP, List.mem_singleton] at hx
    subst hx
    exact extract_size_le _ _ _
  | r + 1, i, fr, q, sl, d => by
    intro x hx
    unfold cutsP at hx
    split at hx
    · rcases List.mem_cons.1 hx with rfl | hx
      · exact extract_size_le _ _ _
      · exact cutsP_sizes s r _ _ _ _ _ x hx
    · exact cutsP_sizes s r _ _ _ _ _ x hx
theorem split_sizes {s : ByteArray} {l : List ByteArray} {ok : Bool} (h : lists_Split.f s = some (l, ok)) : s.size ≤ 4398046511104 ∧ l.length ≤ s.size + 1 ∧ ∀ x ∈ l, x.size ≤ s.size := by
  unfold lists_Split.f at h
  split at h
  · rename_i hs
    refine ⟨hs, ?_⟩
    injection h with h
    split at h
    · injection h with h1 h2
      subst h1
      refine ⟨Nat.le_trans (packL_length _ _) (cutsP_length s _ _ _ _ _ _), fun x hx => ?_⟩
      unfold packL at hx
      obtain ⟨y, hy, rfl⟩ := List.mem_map.1 (List.mem_filter.1 hx).1
      exact Nat.le_trans (trimB_size y) (cutsP_sizes s _ _ _ _ _ _ y hy)
    · injection h with h1 h2
      subst h1
      exact ⟨by simp, by simp⟩
  · exact absurd h (by simp)
theorem has_inner (x : ByteArray) (B : Nat) (n : ByteArray) (hn : n.size ≤ 9223372036854775807) (W : World) (hc : W.cell? ⟨B, 0, none⟩ = some (.string x)) :
    Calls Try.prog 132 #[.string n, .pointer (some ⟨B, 0, none⟩)] W fun e w' => e = .returned (.bool (foldE n x)) ∧ Below W.heap.size W w' := by
  have HF := Aside0.mk (Fold_any n x hn W)
  go_enter Try.func132, Try.ntmps132
  go_wp2_with fail
  refine HF.out.mono ?_
  rintro e w1 ⟨rfl, hd⟩
  have HD := Aside0.mk hd
  clear hd
  go_wp2
  go_ret
  exact ⟨rfl, HD.out.below⟩
def lists_Has.f (s word : ByteArray) : Option Bool := (lists_Split.f s).bind fun t => some (t.1.any fun e => foldE e word)
set_option maxHeartbeats 1000000 in
theorem lists_Has.calls (a0 a1 : ByteArray) (r : Bool) (w : World) (h : lists_Has.f a0 a1 = some r) :
    Calls Try.prog 84 #[.string a0, .string a1] w fun e w' => e = .returned (.bool r) ∧ Below w.heap.size w w' := by
  unfold lists_Has.f at h
  obtain ⟨⟨l, ok⟩, hs, h⟩ := Option.bind_eq_some_iff.1 h
  injection h with h
  subst h
  have HS := Aside0.mk (fun W => lists_Split.calls a0 l ok W hs)
  have HZ := Aside0.mk (split_sizes hs)
  clear hs
  have HC : Aside0 (∀ (A : Option Addr) (c : Nat) W1, Below (w.heap.size + 1) (w.alloc (.cells #[.string a1] 9)) W1 → Kd.C Kd.string W1 A l.length l → Calls Try.prog 78 #[.slice A l.length c, .func (.func 132) #[] #[.pointer (some ⟨w.heap.size, 0, none⟩)]] W1 fun e w' => e = .returned (.bool (l.any fun e => foldE e a1)) ∧ Below W1.heap.size W1 w') := ⟨fun A c W1 hb hc =>
    ContainsFunc_str 132 #[.pointer (some ⟨w.heap.size, 0, none⟩)] (enters_of Try.func132 (by kernel_rfl) rfl) (fun e => foldE e a1) A c l W1 hc (by have := HZ.out; omega)
      (fun n W2 hm hb2 => has_inner a1 w.heap.size n (by have := HZ.out.2.2 n hm; have := HZ.out.1; omega) W2 (((hb2.cell (p := ⟨w.heap.size, 0, none⟩) (by have := hb.size; simp only [World.size_alloc] at this; show w.heap.size < _; omega)).trans (hb.cell (p := ⟨w.heap.size, 0, none⟩) (by simp))).trans ((blk_cell (blk_new w _) 0).trans rfl)))⟩
  go_enter Try.func84, Try.ntmps84
  go_wp2_with fail
  refine (HS.out _).mono ?_
  rintro e w1 ⟨v0, rfl, ho, hb⟩
  obtain ⟨A, c, rfl, hlc, hcr⟩ := Kd.R_reads ho
  have HCC := Aside0.mk (HC.out A c w1 (by simpa using hb) hcr)
  have HB := Aside0.mk hb
  clear hb ho hlc hcr
  go_wp2_with fail
  refine HCC.out.mono ?_
  rintro e w2 ⟨rfl, hb2⟩
  have HB2 := Aside0.mk hb2
  clear hb2
  go_wp2
  go_ret
  exact ⟨rfl, (((Below.refl _ _).alloc (Nat.le_refl _) _).trans (HB.out.mono (by simp))).trans (HB2.out.mono (by have := HB.out.size; simp only [World.size_alloc] at this; omega))⟩
theorem find_inner (x : ByteArray) (B : Nat) (n : S51) (W : World) (hc : W.cell? ⟨B, 0, none⟩ = some (.string x)) :
    Calls Try.prog 129 #[.agg #[.string n.f0, .string n.f1, .bool n.f2], .pointer (some ⟨B, 0, none⟩)] W fun e w' => e = .returned (.bool (decide (n.f0.toList = x.toList))) ∧ Below W.heap.size W w' := by
  have hlt := World.block_lt_of_cell? W _ hc
  have hc2 : (W.alloc (.cells #[.string n.f0, .string n.f1, .bool n.f2] 51)).cell? ⟨B, 0, none⟩ = some (.string x) := (((Below.refl W.heap.size W).alloc (Nat.le_refl _) _).cell (p := ⟨B, 0, none⟩) hlt).trans hc
  clear hlt
  by_cases hq : n.f0.toList = x.toList
  · rw [decide_eq_true hq]
    have h2 : (n.f0.toList == x.toList) = true := beq_iff_eq.mpr hq
    clear hq
    go_enter Try.func129, Try.ntmps129
    go_wp2
    go_ret
    exact ⟨rfl, by (repeat (first | exact Below.refl _ _ | apply below_alloc | apply pw_below_drewN))⟩
  · rw [decide_eq_false hq]
    have h2 : (n.f0.toList == x.toList) = false := beq_eq_false_iff_ne.mpr hq
    clear hq
    go_enter Try.func129, Try.ntmps129
    go_wp2
    go_ret
    exact ⟨rfl, by (repeat (first | exact Below.refl _ _ | apply below_alloc | apply pw_below_drewN))⟩
def cache_find.f (l : List S51) (name : ByteArray) : Option Int := if name.size ≤ 9223372036854775807 ∧ l.length ≤ 9223372036854775807 then some (idxI (fun d => decide (d.f0.toList = (lowerS name).toList)) l) else none
set_option maxHeartbeats 1000000 in
theorem cache_find.calls (A0 : Option Addr) (c0 : Nat) (l0 : List S51) (a1 : ByteArray) (r : Int) (w : World) (hr0 : Kd.C k51 w A0 l0.length l0) (hc0 : l0.length ≤ c0) (h : cache_find.f l0 a1 = some r) :
    Calls Try.prog 80 #[.slice A0 l0.length c0, .string a1] w fun e w' => e = .returned (.int .i64 r) ∧ Below w.heap.size w w' := by
  unfold cache_find.f at h
  split at h
  · rename_i hs
    injection h with h
    subst h
    have hl : octet_Lower.f a1 = some (lowerS a1) := by unfold octet_Lower.f; rw [if_pos hs.1]
    generalize lowerS a1 = x at hl ⊢
    have HL := Aside0.mk (fun W => octet_Lower.calls a1 x W hl)
    have HC : Aside0 (∀ W1, Below w.heap.size w W1 → w.heap.size < W1.heap.size → W1.cell? ⟨w.heap.size, 0, none⟩ = some (.string x) → Calls Try.prog 128 #[.slice A0 l0.length c0, .func (.func 129) #[] #[.pointer (some ⟨w.heap.size, 0, none⟩)]] W1 fun e w' => e = .returned (.int .i64 (idxI (fun d => decide (d.f0.toList = x.toList)) l0)) ∧ Below W1.heap.size W1 w') := ⟨fun W1 hb hz hc =>
      IndexFunc_Dir 129 #[.pointer (some ⟨w.heap.size, 0, none⟩)] (enters_of Try.func129 (by kernel_rfl) rfl) (fun d => decide (d.f0.toList = x.toList)) A0 c0 l0 W1 (Kd.C_below hr0 hb) hs.2
        (fun n W2 hm hb2 => find_inner x w.heap.size n W2 ((hb2.cell (p := ⟨w.heap.size, 0, none⟩) hz).trans hc))⟩
    clear hr0 hc0 hs hl
    go_enter Try.func80, Try.ntmps80
    go_wp2_with fail
    refine (HL.out _).mono ?_
    rintro e w1 ⟨rfl, hb⟩
    have hlt : w.heap.size < w1.heap.size := by have := hb.size; simp only [World.size_alloc] at this; omega
    have hfz : w1.frozen? ⟨w.heap.size, 0, none⟩ = false := (hb.frozen (p := ⟨w.heap.size, 0, none⟩) (by simp)).trans (by go_simp)
    have hcl : w1.cell? ⟨w.heap.size, 0, none⟩ = some (.string a1) := (hb.cell (p := ⟨w.heap.size, 0, none⟩) (by simp)).trans ((blk_cell (blk_new w _) 0).trans rfl)
    have HB := Aside0.mk hb
    clear hb
    have hb3 : Below w.heap.size w (w1.setCell ⟨w.heap.size, 0, none⟩ (.string x)) := (((Below.refl _ _).alloc (Nat.le_refl _) _).trans (HB.out.mono (by simp))).setCell (Nat.le_refl _) _
    have hc3 : (w1.setCell ⟨w.heap.size, 0, none⟩ (.string x)).cell? ⟨w.heap.size, 0, none⟩ = some (.string x) := by go_simp
    have hz3 : w.heap.size < (w1.setCell ⟨w.heap.size, 0, none⟩ (.string x)).heap.size := by simp; exact hlt
    have HCC := Aside0.mk (HC.out _ hb3 hz3 hc3)
    have HB3 := Aside0.mk hb3
    clear hb3 hc3 hz3
    go_wp2_with fail
    refine HCC.out.mono ?_
    rintro e w2 ⟨rfl, hb⟩
    have HB4 := Aside0.mk hb
    clear hb
    go_wp2
    go_ret
    exact ⟨rfl, HB3.out.trans (HB4.out.mono (by have := HB3.out.size; exact this))⟩
  · exact absurd h (by simp)
end Go.Proofs.Ytjnhghplfdiijaa.Q

namespace Go.Proofs.Ytjnhghplfdiijaa.Q
open Go.RowKit Go.Proofs.YtjnhghplfdiijaaW.PrintWords Go.Proofs.YtjnhghplfdiijaaW.PrintLast Go.Proofs.YtjnhghplfdiijaaW.PrintMore
attribute [local go_sem] max2_int min2_int max_two min_two max_three min_three max_four min_four
set_option linter.unusedVariables false
set_option linter.unusedSimpArgs false
mutual
def abutmentref07_Behind.l0 : Nat → ByteArray → Int → Bool → Int → Int → Option (Int)
  | 0, _, _, _, _, _ => none
  | k + 1, x0, x1, x5, x6, x7 => if x7 < (x0.size : Int) then (if 0 ≤ x7 then (if (bt x0 x7) = 92 then (abutmentref07_Behind.l0 k x0 x1 x5 x6 (wrap64 ((wrap64 (x7 + 1)) + 1))) else (if x5 = true then (if x7 > x1 then (abutmentref07_Behind.j1 k x0 x1 x5 x6 x7 ((bt x0 x7) == 34)) else (abutmentref07_Behind.j1 k x0 x1 x5 x6 x7 false)) else (abutmentref07_Behind.j1 k x0 x1 x5 x6 x7 false))) else (none)) else (some (-1))
def abutmentref07_Behind.j1 : Nat → ByteArray → Int → Bool → Int → Int → Bool → Option (Int)
  | 0, _, _, _, _, _, _ => none
  | k + 1, x0, x1, x5, x6, x7, x36 => if x36 = true then (some (wrap64 (x7 + 1))) else (if x5 = true then (abutmentref07_Behind.j2 k x0 x1 x5 x6 x7 false) else (if 0 ≤ x7 then (if x7 < (x0.size : Int) then (abutmentref07_Behind.j2 k x0 x1 x5 x6 x7 ((bt x0 x7) == 40)) else (none)) else (none)))
def abutmentref07_Behind.j2 : Nat → ByteArray → Int → Bool → Int → Int → Bool → Option (Int)
  | 0, _, _, _, _, _, _ => none
  | k + 1, x0, x1, x5, x6, x7, x46 => if x46 = true then (abutmentref07_Behind.l0 k x0 x1 x5 (wrap64 (x6 + 1)) (wrap64 (x7 + 1))) else (if x5 = true then (abutmentref07_Behind.j3 k x0 x1 x5 x6 x7 false) else (if 0 ≤ x7 then (if x7 < (x0.size : Int) then (abutmentref07_Behind.j3 k x0 x1 x5 x6 x7 ((bt x0 x7) == 41)) else (none)) else (none)))
def abutmentref07_Behind.j3 : Nat → ByteArray → Int → Bool → Int → Int → Bool → Option (Int)
  | 0, _, _, _, _, _, _ => none
  | k + 1, x0, x1, x5, x6, x7, x56 => if x56 = true then (if (wrap64 (x6 - 1)) = 0 then (some (wrap64 (x7 + 1))) else (abutmentref07_Behind.l0 k x0 x1 x5 (wrap64 (x6 - 1)) (wrap64 (x7 + 1)))) else (abutmentref07_Behind.l0 k x0 x1 x5 x6 (wrap64 (x7 + 1)))
end
def abutmentref07_Behind.f (k : Nat) (a0 : ByteArray) (a1 : Int) : Option (Int) := if 0 ≤ a1 then (if a1 < (a0.size : Int) then (abutmentref07_Behind.l0 k a0 a1 ((bt a0 a1) == 34) 0 a1) else (none)) else (none)
set_option maxHeartbeats 8000000 in
set_option maxRecDepth 100000 in
theorem abutmentref07_Behind.calls_t (k : Nat) (a0 : ByteArray) (a1 : Int) (r : Int) (w : World) (hqd : ((bt a0 a1) == 34) = true) (h : abutmentref07_Behind.f k a0 a1 = some r) :
    Calls Try.prog 122 #[.string a0, .int .i64 a1] w fun e w' => e = .returned (.int .i64 r) ∧ Drawn0 w w' := by
  have H : (if 0 ≤ a1 then (if a1 < (a0.size : Int) then (abutmentref07_Behind.l0 k a0 a1 ((bt a0 a1) == 34) 0 a1) else (none)) else (none)) = some r := h
  clear h
  by_cases c3 : 0 ≤ a1
  · rw [if_pos c3] at H
    have c3b0 : decide (0 ≤ a1) = true := decide_eq_true c3
    clear c3
    by_cases c4 : a1 < (a0.size : Int)
    · rw [if_pos c4] at H
      have c4b0 : decide (a1 < (a0.size : Int)) = true := decide_eq_true c4
      clear c4
      have H' := Aside0.mk H
      clear H
      have p5 : 0 ≤ (a1 : Int) := of_decide_eq_true (by first | (with_reducible assumption) | assumption)
      have q5 : a1 < (a0.size : Int) := of_decide_eq_true (by first | (with_reducible assumption) | assumption)
      have hx5 := bt_at a0 a1
      replace p5 := eq_true p5
      replace q5 := eq_true q5
      go_enter Try.func122, Try.ntmps122
      go_wp2
      go_loopg [6, 7] k (fun kq v6 v7 w' => ∃ (x6_1 : Int) (x7_1 : Int), v6 = .int .i64 x6_1 ∧ v7 = .int .i64 x7_1 ∧ Aside0 (abutmentref07_Behind.l0 kq a0 a1 ((bt a0 a1) == 34) x6_1 x7_1 = some r) ∧ Aside0 (kq ≤ k) ∧ Drawn0 w w')
      case atStart => exact ⟨(0), (a1), (by first | rfl | (simp; done) | (simp [*]; done)), (by first | rfl | (simp; done) | (simp [*]; done)), H', ⟨Nat.le_refl _⟩, by repeat (first | exact Drawn0.refl _ | apply Drawn0.step)⟩
      case round =>
        clear H'
        try clear c1
        try clear p2
        try clear c3
        try clear c3b0
        try clear c4
        try clear c4b0
        try clear p5
        try clear q5
        try clear hx5
        try clear p5
        try clear q5
        obtain ⟨x6_1, x7_1, rfl, rfl, HA, HK1, ⟨m1, rfl⟩⟩ := hrel
        cases gk with
        | zero => exact absurd HA.out (by simp [abutmentref07_Behind.l0])
        | succ k1 =>
          have H := HA.out
          clear HA
          simp only [abutmentref07_Behind.l0] at H
          by_cases c6 : x7_1 < (a0.size : Int)
          · rw [if_pos c6] at H
            have c6b0 : decide (x7_1 < (a0.size : Int)) = true := decide_eq_true c6
            clear c6
            by_cases c7 : 0 ≤ x7_1
            · rw [if_pos c7] at H
              have c7b0 : decide (0 ≤ x7_1) = true := decide_eq_true c7
              clear c7
              by_cases c9 : (bt a0 x7_1) = 92
              · rw [if_pos c9] at H
                have c9b0 : ((bt a0 x7_1) == 92) = true := beq_iff_eq.mpr c9
                have c9b1 : ((bt a0 x7_1) != 92) = false := bne_eq_false_iff_eq.mpr c9
                clear c9
                have H' := Aside0.mk H
                clear H
                have p8 : 0 ≤ (x7_1 : Int) := of_decide_eq_true (by first | (with_reducible assumption) | assumption)
                have q8 : x7_1 < (a0.size : Int) := of_decide_eq_true (by first | (with_reducible assumption) | assumption)
                have hx8 := bt_at a0 x7_1
                replace p8 := eq_true p8
                replace q8 := eq_true q8
                go_wp2
                go_roundg k1
                case measure => have := HK1.out; omega
                case rel => exact ⟨(x6_1), (wrap64 ((wrap64 (x7_1 + 1)) + 1)), (by first | rfl | (simp; done) | (simp [*]; done)), (by first | rfl | (simp; done) | (simp [*]; done)), H', ⟨by have := HK1.out; omega⟩, by repeat (first | exact Drawn0.refl _ | apply Drawn0.step)⟩
              · rw [if_neg c9] at H
                have c9b0 : ((bt a0 x7_1) == 92) = false := beq_eq_false_iff_ne.mpr c9
                have c9b1 : ((bt a0 x7_1) != 92) = true := bne_iff_ne.mpr c9
                have HC10 := Aside0.mk H
                clear H
                have p8 : 0 ≤ (x7_1 : Int) := of_decide_eq_true (by first | (with_reducible assumption) | assumption)
                have q8 : x7_1 < (a0.size : Int) := of_decide_eq_true (by first | (with_reducible assumption) | assumption)
                have hx8 := bt_at a0 x7_1
                replace p8 := eq_true p8
                replace q8 := eq_true q8
                go_upto_region 7 with (fail)
                go_cut [36] (fun v36 wc => ∃ (kq : Nat) (x36_9 : Bool), v36 = .bool x36_9 ∧ Aside0 (abutmentref07_Behind.j1 kq a0 a1 ((bt a0 a1) == 34) x6_1 x7_1 x36_9 = some r) ∧ Aside0 (kq ≤ k1) ∧ Drawn0 w wc)
                case first =>
                  have H := HC10.out
                  clear HC10
                  by_cases c11 : ((bt a0 a1) == 34) = true
                  · rw [if_pos c11] at H
                    have c11b0 : ((bt a0 a1) == 34) = true := c11
                    (try (have c11b1 : decide ((bt a0 a1) = 34) = true := by simpa using c11))
                    (try (have c11b2 : ((bt a0 a1) == 34) = true := by simpa using c11))
                    clear c11
                    (first | rw [c11b0] | (simp only [i64_w, i32_w]; rw [c11b0]) | skip)
                    by_cases c12 : x7_1 > a1
                    · rw [if_pos c12] at H
                      have c12b0 : decide (a1 < x7_1) = true := decide_eq_true c12
                      clear c12
                      have H' := Aside0.mk H
                      clear H
                      have p13 : 0 ≤ (x7_1 : Int) := of_decide_eq_true (by first | (with_reducible assumption) | assumption)
                      have q13 : x7_1 < (a0.size : Int) := of_decide_eq_true (by first | (with_reducible assumption) | assumption)
                      have hx13 := bt_at a0 x7_1
                      replace p13 := eq_true p13
                      replace q13 := eq_true q13
                      go_wp2
                      go_meet
                      case rel => exact ⟨_, (((bt a0 x7_1) == 34)), (by first | rfl | (simp; done) | (simp [*]; done)), H', ⟨by have := HK1.out; first | omega | exact Nat.le_refl _⟩, by repeat (first | exact Drawn0.refl _ | apply Drawn0.step)⟩
                    · rw [if_neg c12] at H
                      have c12b0 : decide (a1 < x7_1) = false := decide_eq_false c12
                      clear c12
                      have H' := Aside0.mk H
                      clear H
                      go_wp2
                      go_meet
                      case rel => exact ⟨_, (false), (by first | rfl | (simp; done) | (simp [*]; done)), H', ⟨by have := HK1.out; first | omega | exact Nat.le_refl _⟩, by repeat (first | exact Drawn0.refl _ | apply Drawn0.step)⟩
                  · exact absurd hqd c11
                case rest =>
                  clear HC10
                  try clear c1
                  try clear p1
                  try clear q1
                  try clear hx1
                  try clear p2
                  try clear c3
                  try clear c3b0
                  try clear c4
                  try clear c4b0
                  try clear p5
                  try clear q5
                  try clear hx5
                  try clear c6
                  try clear c6b0
                  try clear p6
                  try clear c7
                  try clear c7b0
                  try clear p8
                  try clear q8
                  try clear hx8
                  try clear c9
                  try clear c9b0
                  try clear c9b1
                  try clear c11
                  try clear c11b0
                  try clear c11b1
                  try clear c11b2
                  try clear c12
                  try clear c12b0
                  try clear p13
                  try clear q13
                  try clear hx13
                  try clear p13
                  try clear p2
                  try clear p5
                  try clear p8
                  try clear q13
                  try clear q5
                  try clear q8
                  obtain ⟨kq, x36_9, rfl, HA, HJ9, ⟨mc9, rfl⟩⟩ := hcut
                  cases kq with
                  | zero => exact absurd HA.out (by simp [abutmentref07_Behind.j1])
                  | succ kj9 =>
                    have H := HA.out
                    clear HA
                    simp only [abutmentref07_Behind.j1] at H
                    by_cases c14 : x36_9 = true
                    · subst c14
                      have H1 : (some (wrap64 (x7_1 + 1))) = some r := by rw [if_pos rfl] at H; exact H
                      clear H
                      have H := H1
                      clear H1
                      obtain rfl := Option.some.inj H
                      go_wp2
                      go_ret
                      exact ⟨by first | rfl | (simp; done) | (simp [*]; done), by repeat (first | exact Drawn0.refl _ | apply Drawn0.step)⟩
                    · replace c14 := Bool.eq_false_iff.mpr c14
                      subst c14
                      have H1 : (if ((bt a0 a1) == 34) = true then (abutmentref07_Behind.j2 kj9 a0 a1 ((bt a0 a1) == 34) x6_1 x7_1 false) else (if 0 ≤ x7_1 then (if x7_1 < (a0.size : Int) then (abutmentref07_Behind.j2 kj9 a0 a1 ((bt a0 a1) == 34) x6_1 x7_1 ((bt a0 x7_1) == 40)) else (none)) else (none))) = some r := by rw [if_neg (show ¬ (false = true) by decide)] at H; exact H
                      clear H
                      have H := H1
                      clear H1
                      have HC15 := Aside0.mk H
                      clear H
                      go_upto_region 9 with (fail)
                      go_cut [46] (fun v46 wc => ∃ (kq : Nat) (x46_14 : Bool), v46 = .bool x46_14 ∧ Aside0 (abutmentref07_Behind.j2 kq a0 a1 ((bt a0 a1) == 34) x6_1 x7_1 x46_14 = some r) ∧ Aside0 (kq ≤ kj9) ∧ Drawn0 w wc)
                      case first =>
                        have H := HC15.out
                        clear HC15
                        by_cases c16 : ((bt a0 a1) == 34) = true
                        · rw [if_pos c16] at H
                          have c16b0 : ((bt a0 a1) == 34) = true := c16
                          (try (have c16b1 : decide ((bt a0 a1) = 34) = true := by simpa using c16))
                          (try (have c16b2 : ((bt a0 a1) == 34) = true := by simpa using c16))
                          clear c16
                          (first | rw [c16b0] | (simp only [i64_w, i32_w]; rw [c16b0]) | skip)
                          have H' := Aside0.mk H
                          clear H
                          go_wp2
                          go_meet
                          case rel => exact ⟨_, (false), (by first | rfl | (simp; done) | (simp [*]; done)), H', ⟨by have := HK1.out; have := HJ9.out; first | omega | exact Nat.le_refl _⟩, by repeat (first | exact Drawn0.refl _ | apply Drawn0.step)⟩
                        · exact absurd hqd c16
                      case rest =>
                        clear HC15
                        try clear c1
                        try clear p1
                        try clear q1
                        try clear hx1
                        try clear p2
                        try clear c3
                        try clear c3b0
                        try clear c4
                        try clear c4b0
                        try clear p5
                        try clear q5
                        try clear hx5
                        try clear c6
                        try clear c6b0
                        try clear p6
                        try clear c7
                        try clear c7b0
                        try clear p8
                        try clear q8
                        try clear hx8
                        try clear c9
                        try clear c9b0
                        try clear c9b1
                        try clear c11
                        try clear c11b0
                        try clear c11b1
                        try clear c11b2
                        try clear c12
                        try clear c12b0
                        try clear p13
                        try clear q13
                        try clear hx13
                        try clear c14
                        try clear c16
                        try clear c16b0
                        try clear c16b1
                        try clear c16b2
                        try clear c17
                        try clear c17b0
                        try clear c18
                        try clear c18b0
                        try clear p19
                        try clear q19
                        try clear hx19
                        try clear p1
                        try clear p13
                        try clear p19
                        try clear p2
                        try clear p5
                        try clear p6
                        try clear p8
                        try clear q1
                        try clear q13
                        try clear q19
                        try clear q5
                        try clear q8
                        obtain ⟨kq, x46_14, rfl, HA, HJ14, ⟨mc14, rfl⟩⟩ := hcut
                        cases kq with
                        | zero => exact absurd HA.out (by simp [abutmentref07_Behind.j2])
                        | succ kj14 =>
                          have H := HA.out
                          clear HA
                          simp only [abutmentref07_Behind.j2] at H
                          by_cases c20 : x46_14 = true
                          · subst c20
                            have H1 : (abutmentref07_Behind.l0 kj14 a0 a1 ((bt a0 a1) == 34) (wrap64 (x6_1 + 1)) (wrap64 (x7_1 + 1))) = some r := by rw [if_pos rfl] at H; exact H
                            clear H
                            have H := H1
                            clear H1
                            have H' := Aside0.mk H
                            clear H
                            go_wp2
                            go_roundg kj14
                            case measure => have := HK1.out; have := HJ9.out; have := HJ14.out; omega
                            case rel => exact ⟨(wrap64 (x6_1 + 1)), (wrap64 (x7_1 + 1)), (by first | rfl | (simp; done) | (simp [*]; done)), (by first | rfl | (simp; done) | (simp [*]; done)), H', ⟨by have := HK1.out; have := HJ9.out; have := HJ14.out; omega⟩, by repeat (first | exact Drawn0.refl _ | apply Drawn0.step)⟩
                          · replace c20 := Bool.eq_false_iff.mpr c20
                            subst c20
                            have H1 : (if ((bt a0 a1) == 34) = true then (abutmentref07_Behind.j3 kj14 a0 a1 ((bt a0 a1) == 34) x6_1 x7_1 false) else (if 0 ≤ x7_1 then (if x7_1 < (a0.size : Int) then (abutmentref07_Behind.j3 kj14 a0 a1 ((bt a0 a1) == 34) x6_1 x7_1 ((bt a0 x7_1) == 41)) else (none)) else (none))) = some r := by rw [if_neg (show ¬ (false = true) by decide)] at H; exact H
                            clear H
                            have H := H1
                            clear H1
                            have HC21 := Aside0.mk H
                            clear H
                            go_upto_region 11 with (fail)
                            go_cut [56] (fun v56 wc => ∃ (kq : Nat) (x56_20 : Bool), v56 = .bool x56_20 ∧ Aside0 (abutmentref07_Behind.j3 kq a0 a1 ((bt a0 a1) == 34) x6_1 x7_1 x56_20 = some r) ∧ Aside0 (kq ≤ kj14) ∧ Drawn0 w wc)
                            case first =>
                              have H := HC21.out
                              clear HC21
                              by_cases c22 : ((bt a0 a1) == 34) = true
                              · rw [if_pos c22] at H
                                have c22b0 : ((bt a0 a1) == 34) = true := c22
                                (try (have c22b1 : decide ((bt a0 a1) = 34) = true := by simpa using c22))
                                (try (have c22b2 : ((bt a0 a1) == 34) = true := by simpa using c22))
                                clear c22
                                (first | rw [c22b0] | (simp only [i64_w, i32_w]; rw [c22b0]) | skip)
                                have H' := Aside0.mk H
                                clear H
                                go_wp2
                                go_meet
                                case rel => exact ⟨_, (false), (by first | rfl | (simp; done) | (simp [*]; done)), H', ⟨by have := HK1.out; have := HJ9.out; have := HJ14.out; first | omega | exact Nat.le_refl _⟩, by repeat (first | exact Drawn0.refl _ | apply Drawn0.step)⟩
                              · exact absurd hqd c22
                            case rest =>
                              clear HC21
                              try clear c1
                              try clear p1
                              try clear q1
                              try clear hx1
                              try clear c2
                              try clear p2
                              try clear q2
                              try clear hx2
                              try clear c3
                              try clear c3b0
                              try clear c4
                              try clear c4b0
                              try clear p5
                              try clear q5
                              try clear hx5
                              try clear c6
                              try clear c6b0
                              try clear p6
                              try clear c7
                              try clear c7b0
                              try clear p8
                              try clear q8
                              try clear hx8
                              try clear c9
                              try clear c9b0
                              try clear c9b1
                              try clear c11
                              try clear c11b0
                              try clear c11b1
                              try clear c11b2
                              try clear c12
                              try clear c12b0
                              try clear p13
                              try clear q13
                              try clear hx13
                              try clear c14
                              try clear c16
                              try clear c16b0
                              try clear c16b1
                              try clear c16b2
                              try clear c17
                              try clear c17b0
                              try clear c18
                              try clear c18b0
                              try clear p19
                              try clear q19
                              try clear hx19
                              try clear c20
                              try clear c22
                              try clear c22b0
                              try clear c22b1
                              try clear c22b2
                              try clear c23
                              try clear c23b0
                              try clear c24
                              try clear c24b0
                              try clear p25
                              try clear q25
                              try clear hx25
                              try clear p1
                              try clear p13
                              try clear p19
                              try clear p2
                              try clear p25
                              try clear p5
                              try clear p6
                              try clear p8
                              try clear q1
                              try clear q13
                              try clear q19
                              try clear q25
                              try clear q5
                              try clear q8
                              obtain ⟨kq, x56_20, rfl, HA, HJ20, ⟨mc20, rfl⟩⟩ := hcut
                              cases kq with
                              | zero => exact absurd HA.out (by simp [abutmentref07_Behind.j3])
                              | succ kj20 =>
                                have H := HA.out
                                clear HA
                                simp only [abutmentref07_Behind.j3] at H
                                by_cases c26 : x56_20 = true
                                · subst c26
                                  have H1 : (if (wrap64 (x6_1 - 1)) = 0 then (some (wrap64 (x7_1 + 1))) else (abutmentref07_Behind.l0 kj20 a0 a1 ((bt a0 a1) == 34) (wrap64 (x6_1 - 1)) (wrap64 (x7_1 + 1)))) = some r := by rw [if_pos rfl] at H; exact H
                                  clear H
                                  have H := H1
                                  clear H1
                                  by_cases c27 : (wrap64 (x6_1 - 1)) = 0
                                  · rw [if_pos c27] at H
                                    have c27b0 : ((wrap64 (x6_1 - 1)) == 0) = true := beq_iff_eq.mpr c27
                                    have c27b1 : ((wrap64 (x6_1 - 1)) != 0) = false := bne_eq_false_iff_eq.mpr c27
                                    clear c27
                                    obtain rfl := Option.some.inj H
                                    go_wp2
                                    go_ret
                                    exact ⟨by first | rfl | (simp; done) | (simp [*]; done), by repeat (first | exact Drawn0.refl _ | apply Drawn0.step)⟩
                                  · rw [if_neg c27] at H
                                    have c27b0 : ((wrap64 (x6_1 - 1)) == 0) = false := beq_eq_false_iff_ne.mpr c27
                                    have c27b1 : ((wrap64 (x6_1 - 1)) != 0) = true := bne_iff_ne.mpr c27
                                    have H' := Aside0.mk H
                                    clear H
                                    go_wp2
                                    go_roundg kj20
                                    case measure => have := HK1.out; have := HJ9.out; have := HJ14.out; have := HJ20.out; omega
                                    case rel => exact ⟨(wrap64 (x6_1 - 1)), (wrap64 (x7_1 + 1)), (by first | rfl | (simp; done) | (simp [*]; done)), (by first | rfl | (simp; done) | (simp [*]; done)), H', ⟨by have := HK1.out; have := HJ9.out; have := HJ14.out; have := HJ20.out; omega⟩, by repeat (first | exact Drawn0.refl _ | apply Drawn0.step)⟩
                                · replace c26 := Bool.eq_false_iff.mpr c26
                                  subst c26
                                  have H1 : (abutmentref07_Behind.l0 kj20 a0 a1 ((bt a0 a1) == 34) x6_1 (wrap64 (x7_1 + 1))) = some r := by rw [if_neg (show ¬ (false = true) by decide)] at H; exact H
                                  clear H
                                  have H := H1
                                  clear H1
                                  have H' := Aside0.mk H
                                  clear H
                                  go_wp2
                                  go_roundg kj20
                                  case measure => have := HK1.out; have := HJ9.out; have := HJ14.out; have := HJ20.out; omega
                                  case rel => exact ⟨(x6_1), (wrap64 (x7_1 + 1)), (by first | rfl | (simp; done) | (simp [*]; done)), (by first | rfl | (simp; done) | (simp [*]; done)), H', ⟨by have := HK1.out; have := HJ9.out; have := HJ14.out; have := HJ20.out; omega⟩, by repeat (first | exact Drawn0.refl _ | apply Drawn0.step)⟩
            · rw [if_neg c7] at H
              exact absurd H (by simp)
          · rw [if_neg c6] at H
            have c6b0 : decide (x7_1 < (a0.size : Int)) = false := decide_eq_false c6
            clear c6
            obtain rfl := Option.some.inj H
            go_wp2
            go_ret
            exact ⟨by first | rfl | (simp; done) | (simp [*]; done), by repeat (first | exact Drawn0.refl _ | apply Drawn0.step)⟩
    · rw [if_neg c4] at H
      exact absurd H (by simp)
  · rw [if_neg c3] at H
    exact absurd H (by simp)
set_option maxHeartbeats 8000000 in
set_option maxRecDepth 100000 in
theorem abutmentref07_Behind.calls_f (k : Nat) (a0 : ByteArray) (a1 : Int) (r : Int) (w : World) (hqd : ((bt a0 a1) == 34) = false) (h : abutmentref07_Behind.f k a0 a1 = some r) :
    Calls Try.prog 122 #[.string a0, .int .i64 a1] w fun e w' => e = .returned (.int .i64 r) ∧ Drawn0 w w' := by
  have H : (if 0 ≤ a1 then (if a1 < (a0.size : Int) then (abutmentref07_Behind.l0 k a0 a1 ((bt a0 a1) == 34) 0 a1) else (none)) else (none)) = some r := h
  clear h
  by_cases c3 : 0 ≤ a1
  · rw [if_pos c3] at H
    have c3b0 : decide (0 ≤ a1) = true := decide_eq_true c3
    clear c3
    by_cases c4 : a1 < (a0.size : Int)
    · rw [if_pos c4] at H
      have c4b0 : decide (a1 < (a0.size : Int)) = true := decide_eq_true c4
      clear c4
      have H' := Aside0.mk H
      clear H
      have p5 : 0 ≤ (a1 : Int) := of_decide_eq_true (by first | (with_reducible assumption) | assumption)
      have q5 : a1 < (a0.size : Int) := of_decide_eq_true (by first | (with_reducible assumption) | assumption)
      have hx5 := bt_at a0 a1
      replace p5 := eq_true p5
      replace q5 := eq_true q5
      go_enter Try.func122, Try.ntmps122
      go_wp2
      go_loopg [6, 7] k (fun kq v6 v7 w' => ∃ (x6_1 : Int) (x7_1 : Int), v6 = .int .i64 x6_1 ∧ v7 = .int .i64 x7_1 ∧ Aside0 (abutmentref07_Behind.l0 kq a0 a1 ((bt a0 a1) == 34) x6_1 x7_1 = some r) ∧ Aside0 (kq ≤ k) ∧ Drawn0 w w')
      case atStart => exact ⟨(0), (a1), (by first | rfl | (simp; done) | (simp [*]; done)), (by first | rfl | (simp; done) | (simp [*]; done)), H', ⟨Nat.le_refl _⟩, by repeat (first | exact Drawn0.refl _ | apply Drawn0.step)⟩
      case round =>
        clear H'
        try clear c1
        try clear p2
        try clear c3
        try clear c3b0
        try clear c4
        try clear c4b0
        try clear p5
        try clear q5
        try clear hx5
        try clear p5
        try clear q5
        obtain ⟨x6_1, x7_1, rfl, rfl, HA, HK1, ⟨m1, rfl⟩⟩ := hrel
        cases gk with
        | zero => exact absurd HA.out (by simp [abutmentref07_Behind.l0])
        | succ k1 =>
          have H := HA.out
          clear HA
          simp only [abutmentref07_Behind.l0] at H
          by_cases c6 : x7_1 < (a0.size : Int)
          · rw [if_pos c6] at H
            have c6b0 : decide (x7_1 < (a0.size : Int)) = true := decide_eq_true c6
            clear c6
            by_cases c7 : 0 ≤ x7_1
            · rw [if_pos c7] at H
              have c7b0 : decide (0 ≤ x7_1) = true := decide_eq_true c7
              clear c7
              by_cases c9 : (bt a0 x7_1) = 92
              · rw [if_pos c9] at H
                have c9b0 : ((bt a0 x7_1) == 92) = true := beq_iff_eq.mpr c9
                have c9b1 : ((bt a0 x7_1) != 92) = false := bne_eq_false_iff_eq.mpr c9
                clear c9
                have H' := Aside0.mk H
                clear H
                have p8 : 0 ≤ (x7_1 : Int) := of_decide_eq_true (by first | (with_reducible assumption) | assumption)
                have q8 : x7_1 < (a0.size : Int) := of_decide_eq_true (by first | (with_reducible assumption) | assumption)
                have hx8 := bt_at a0 x7_1
                replace p8 := eq_true p8
                replace q8 := eq_true q8
                go_wp2
                go_roundg k1
                case measure => have := HK1.out; omega
                case rel => exact ⟨(x6_1), (wrap64 ((wrap64 (x7_1 + 1)) + 1)), (by first | rfl | (simp; done) | (simp [*]; done)), (by first | rfl | (simp; done) | (simp [*]; done)), H', ⟨by have := HK1.out; omega⟩, by repeat (first | exact Drawn0.refl _ | apply Drawn0.step)⟩
              · rw [if_neg c9] at H
                have c9b0 : ((bt a0 x7_1) == 92) = false := beq_eq_false_iff_ne.mpr c9
                have c9b1 : ((bt a0 x7_1) != 92) = true := bne_iff_ne.mpr c9
                have HC10 := Aside0.mk H
                clear H
                have p8 : 0 ≤ (x7_1 : Int) := of_decide_eq_true (by first | (with_reducible assumption) | assumption)
                have q8 : x7_1 < (a0.size : Int) := of_decide_eq_true (by first | (with_reducible assumption) | assumption)
                have hx8 := bt_at a0 x7_1
                replace p8 := eq_true p8
                replace q8 := eq_true q8
                go_upto_region 7 with (fail)
                go_cut [36] (fun v36 wc => ∃ (kq : Nat) (x36_9 : Bool), v36 = .bool x36_9 ∧ Aside0 (abutmentref07_Behind.j1 kq a0 a1 ((bt a0 a1) == 34) x6_1 x7_1 x36_9 = some r) ∧ Aside0 (kq ≤ k1) ∧ Drawn0 w wc)
                case first =>
                  have H := HC10.out
                  clear HC10
                  by_cases c11 : ((bt a0 a1) == 34) = true
                  · exact absurd (hqd.symm.trans c11) (by decide)
                  · rw [if_neg c11] at H
                    have c11b0 : ((bt a0 a1) == 34) = false := by simpa using c11
                    (try (have c11b1 : decide ((bt a0 a1) = 34) = false := by simpa using c11))
                    (try (have c11b2 : ((bt a0 a1) == 34) = false := by simpa using c11))
                    (try (have c11b3 : ¬ ((bt a0 a1) = 34) := by simpa using c11))
                    clear c11
                    (first | rw [c11b0] | (simp only [i64_w, i32_w]; rw [c11b0]) | skip)
                    have H' := Aside0.mk H
                    clear H
                    go_wp2
                    go_meet
                    case rel => exact ⟨_, (false), (by first | rfl | (simp; done) | (simp [*]; done)), H', ⟨by have := HK1.out; first | omega | exact Nat.le_refl _⟩, by repeat (first | exact Drawn0.refl _ | apply Drawn0.step)⟩
                case rest =>
                  clear HC10
                  try clear c1
                  try clear p1
                  try clear q1
                  try clear hx1
                  try clear p2
                  try clear c3
                  try clear c3b0
                  try clear c4
                  try clear c4b0
                  try clear p5
                  try clear q5
                  try clear hx5
                  try clear c6
                  try clear c6b0
                  try clear p6
                  try clear c7
                  try clear c7b0
                  try clear p8
                  try clear q8
                  try clear hx8
                  try clear c9
                  try clear c9b0
                  try clear c9b1
                  try clear c11
                  try clear c11b0
                  try clear c11b1
                  try clear c11b2
                  try clear c12
                  try clear c12b0
                  try clear p13
                  try clear q13
                  try clear hx13
                  try clear p13
                  try clear p2
                  try clear p5
                  try clear p8
                  try clear q13
                  try clear q5
                  try clear q8
                  obtain ⟨kq, x36_9, rfl, HA, HJ9, ⟨mc9, rfl⟩⟩ := hcut
                  cases kq with
                  | zero => exact absurd HA.out (by simp [abutmentref07_Behind.j1])
                  | succ kj9 =>
                    have H := HA.out
                    clear HA
                    simp only [abutmentref07_Behind.j1] at H
                    by_cases c14 : x36_9 = true
                    · subst c14
                      have H1 : (some (wrap64 (x7_1 + 1))) = some r := by rw [if_pos rfl] at H; exact H
                      clear H
                      have H := H1
                      clear H1
                      obtain rfl := Option.some.inj H
                      go_wp2
                      go_ret
                      exact ⟨by first | rfl | (simp; done) | (simp [*]; done), by repeat (first | exact Drawn0.refl _ | apply Drawn0.step)⟩
                    · replace c14 := Bool.eq_false_iff.mpr c14
                      subst c14
                      have H1 : (if ((bt a0 a1) == 34) = true then (abutmentref07_Behind.j2 kj9 a0 a1 ((bt a0 a1) == 34) x6_1 x7_1 false) else (if 0 ≤ x7_1 then (if x7_1 < (a0.size : Int) then (abutmentref07_Behind.j2 kj9 a0 a1 ((bt a0 a1) == 34) x6_1 x7_1 ((bt a0 x7_1) == 40)) else (none)) else (none))) = some r := by rw [if_neg (show ¬ (false = true) by decide)] at H; exact H
                      clear H
                      have H := H1
                      clear H1
                      have HC15 := Aside0.mk H
                      clear H
                      go_upto_region 9 with (fail)
                      go_cut [46] (fun v46 wc => ∃ (kq : Nat) (x46_14 : Bool), v46 = .bool x46_14 ∧ Aside0 (abutmentref07_Behind.j2 kq a0 a1 ((bt a0 a1) == 34) x6_1 x7_1 x46_14 = some r) ∧ Aside0 (kq ≤ kj9) ∧ Drawn0 w wc)
                      case first =>
                        have H := HC15.out
                        clear HC15
                        by_cases c16 : ((bt a0 a1) == 34) = true
                        · exact absurd (hqd.symm.trans c16) (by decide)
                        · rw [if_neg c16] at H
                          have c16b0 : ((bt a0 a1) == 34) = false := by simpa using c16
                          (try (have c16b1 : decide ((bt a0 a1) = 34) = false := by simpa using c16))
                          (try (have c16b2 : ((bt a0 a1) == 34) = false := by simpa using c16))
                          (try (have c16b3 : ¬ ((bt a0 a1) = 34) := by simpa using c16))
                          clear c16
                          (first | rw [c16b0] | (simp only [i64_w, i32_w]; rw [c16b0]) | skip)
                          by_cases c17 : 0 ≤ x7_1
                          · rw [if_pos c17] at H
                            have c17b0 : decide (0 ≤ x7_1) = true := decide_eq_true c17
                            clear c17
                            by_cases c18 : x7_1 < (a0.size : Int)
                            · rw [if_pos c18] at H
                              have c18b0 : decide (x7_1 < (a0.size : Int)) = true := decide_eq_true c18
                              clear c18
                              have H' := Aside0.mk H
                              clear H
                              have p19 : 0 ≤ (x7_1 : Int) := of_decide_eq_true (by first | (with_reducible assumption) | assumption)
                              have q19 : x7_1 < (a0.size : Int) := of_decide_eq_true (by first | (with_reducible assumption) | assumption)
                              have hx19 := bt_at a0 x7_1
                              replace p19 := eq_true p19
                              replace q19 := eq_true q19
                              go_wp2
                              go_meet
                              case rel => exact ⟨_, (((bt a0 x7_1) == 40)), (by first | rfl | (simp; done) | (simp [*]; done)), H', ⟨by have := HK1.out; have := HJ9.out; first | omega | exact Nat.le_refl _⟩, by repeat (first | exact Drawn0.refl _ | apply Drawn0.step)⟩
                            · rw [if_neg c18] at H
                              exact absurd H (by simp)
                          · rw [if_neg c17] at H
                            exact absurd H (by simp)
                      case rest =>
                        clear HC15
                        try clear c1
                        try clear p1
                        try clear q1
                        try clear hx1
                        try clear p2
                        try clear c3
                        try clear c3b0
                        try clear c4
                        try clear c4b0
                        try clear p5
                        try clear q5
                        try clear hx5
                        try clear c6
                        try clear c6b0
                        try clear p6
                        try clear c7
                        try clear c7b0
                        try clear p8
                        try clear q8
                        try clear hx8
                        try clear c9
                        try clear c9b0
                        try clear c9b1
                        try clear c11
                        try clear c11b0
                        try clear c11b1
                        try clear c11b2
                        try clear c12
                        try clear c12b0
                        try clear p13
                        try clear q13
                        try clear hx13
                        try clear c14
                        try clear c16
                        try clear c16b0
                        try clear c16b1
                        try clear c16b2
                        try clear c17
                        try clear c17b0
                        try clear c18
                        try clear c18b0
                        try clear p19
                        try clear q19
                        try clear hx19
                        try clear p1
                        try clear p13
                        try clear p19
                        try clear p2
                        try clear p5
                        try clear p6
                        try clear p8
                        try clear q1
                        try clear q13
                        try clear q19
                        try clear q5
                        try clear q8
                        obtain ⟨kq, x46_14, rfl, HA, HJ14, ⟨mc14, rfl⟩⟩ := hcut
                        cases kq with
                        | zero => exact absurd HA.out (by simp [abutmentref07_Behind.j2])
                        | succ kj14 =>
                          have H := HA.out
                          clear HA
                          simp only [abutmentref07_Behind.j2] at H
                          by_cases c20 : x46_14 = true
                          · subst c20
                            have H1 : (abutmentref07_Behind.l0 kj14 a0 a1 ((bt a0 a1) == 34) (wrap64 (x6_1 + 1)) (wrap64 (x7_1 + 1))) = some r := by rw [if_pos rfl] at H; exact H
                            clear H
                            have H := H1
                            clear H1
                            have H' := Aside0.mk H
                            clear H
                            go_wp2
                            go_roundg kj14
                            case measure => have := HK1.out; have := HJ9.out; have := HJ14.out; omega
                            case rel => exact ⟨(wrap64 (x6_1 + 1)), (wrap64 (x7_1 + 1)), (by first | rfl | (simp; done) | (simp [*]; done)), (by first | rfl | (simp; done) | (simp [*]; done)), H', ⟨by have := HK1.out; have := HJ9.out; have := HJ14.out; omega⟩, by repeat (first | exact Drawn0.refl _ | apply Drawn0.step)⟩
                          · replace c20 := Bool.eq_false_iff.mpr c20
                            subst c20
                            have H1 : (if ((bt a0 a1) == 34) = true then (abutmentref07_Behind.j3 kj14 a0 a1 ((bt a0 a1) == 34) x6_1 x7_1 false) else (if 0 ≤ x7_1 then (if x7_1 < (a0.size : Int) then (abutmentref07_Behind.j3 kj14 a0 a1 ((bt a0 a1) == 34) x6_1 x7_1 ((bt a0 x7_1) == 41)) else (none)) else (none))) = some r := by rw [if_neg (show ¬ (false = true) by decide)] at H; exact H
                            clear H
                            have H := H1
                            clear H1
                            have HC21 := Aside0.mk H
                            clear H
                            go_upto_region 11 with (fail)
                            go_cut [56] (fun v56 wc => ∃ (kq : Nat) (x56_20 : Bool), v56 = .bool x56_20 ∧ Aside0 (abutmentref07_Behind.j3 kq a0 a1 ((bt a0 a1) == 34) x6_1 x7_1 x56_20 = some r) ∧ Aside0 (kq ≤ kj14) ∧ Drawn0 w wc)
                            case first =>
                              have H := HC21.out
                              clear HC21
                              by_cases c22 : ((bt a0 a1) == 34) = true
                              · exact absurd (hqd.symm.trans c22) (by decide)
                              · rw [if_neg c22] at H
                                have c22b0 : ((bt a0 a1) == 34) = false := by simpa using c22
                                (try (have c22b1 : decide ((bt a0 a1) = 34) = false := by simpa using c22))
                                (try (have c22b2 : ((bt a0 a1) == 34) = false := by simpa using c22))
                                (try (have c22b3 : ¬ ((bt a0 a1) = 34) := by simpa using c22))
                                clear c22
                                (first | rw [c22b0] | (simp only [i64_w, i32_w]; rw [c22b0]) | skip)
                                by_cases c23 : 0 ≤ x7_1
                                · rw [if_pos c23] at H
                                  have c23b0 : decide (0 ≤ x7_1) = true := decide_eq_true c23
                                  clear c23
                                  by_cases c24 : x7_1 < (a0.size : Int)
                                  · rw [if_pos c24] at H
                                    have c24b0 : decide (x7_1 < (a0.size : Int)) = true := decide_eq_true c24
                                    clear c24
                                    have H' := Aside0.mk H
                                    clear H
                                    have p25 : 0 ≤ (x7_1 : Int) := of_decide_eq_true (by first | (with_reducible assumption) | assumption)
                                    have q25 : x7_1 < (a0.size : Int) := of_decide_eq_true (by first | (with_reducible assumption) | assumption)
                                    have hx25 := bt_at a0 x7_1
                                    replace p25 := eq_true p25
                                    replace q25 := eq_true q25
                                    go_wp2
                                    go_meet
                                    case rel => exact ⟨_, (((bt a0 x7_1) == 41)), (by first | rfl | (simp; done) | (simp [*]; done)), H', ⟨by have := HK1.out; have := HJ9.out; have := HJ14.out; first | omega | exact Nat.le_refl _⟩, by repeat (first | exact Drawn0.refl _ | apply Drawn0.step)⟩
                                  · rw [if_neg c24] at H
                                    exact absurd H (by simp)
                                · rw [if_neg c23] at H
                                  exact absurd H (by simp)
                            case rest =>
                              clear HC21
                              try clear c1
                              try clear p1
                              try clear q1
                              try clear hx1
                              try clear c2
                              try clear p2
                              try clear q2
                              try clear hx2
                              try clear c3
                              try clear c3b0
                              try clear c4
                              try clear c4b0
                              try clear p5
                              try clear q5
                              try clear hx5
                              try clear c6
                              try clear c6b0
                              try clear p6
                              try clear c7
                              try clear c7b0
                              try clear p8
                              try clear q8
                              try clear hx8
                              try clear c9
                              try clear c9b0
                              try clear c9b1
                              try clear c11
                              try clear c11b0
                              try clear c11b1
                              try clear c11b2
                              try clear c12
                              try clear c12b0
                              try clear p13
                              try clear q13
                              try clear hx13
                              try clear c14
                              try clear c16
                              try clear c16b0
                              try clear c16b1
                              try clear c16b2
                              try clear c17
                              try clear c17b0
                              try clear c18
                              try clear c18b0
                              try clear p19
                              try clear q19
                              try clear hx19
                              try clear c20
                              try clear c22
                              try clear c22b0
                              try clear c22b1
                              try clear c22b2
                              try clear c23
                              try clear c23b0
                              try clear c24
                              try clear c24b0
                              try clear p25
                              try clear q25
                              try clear hx25
                              try clear p1
                              try clear p13
                              try clear p19
                              try clear p2
                              try clear p25
                              try clear p5
                              try clear p6
                              try clear p8
                              try clear q1
                              try clear q13
                              try clear q19
                              try clear q25
                              try clear q5
                              try clear q8
                              obtain ⟨kq, x56_20, rfl, HA, HJ20, ⟨mc20, rfl⟩⟩ := hcut
                              cases kq with
                              | zero => exact absurd HA.out (by simp [abutmentref07_Behind.j3])
                              | succ kj20 =>
                                have H := HA.out
                                clear HA
                                simp only [abutmentref07_Behind.j3] at H
                                by_cases c26 : x56_20 = true
                                · subst c26
                                  have H1 : (if (wrap64 (x6_1 - 1)) = 0 then (some (wrap64 (x7_1 + 1))) else (abutmentref07_Behind.l0 kj20 a0 a1 ((bt a0 a1) == 34) (wrap64 (x6_1 - 1)) (wrap64 (x7_1 + 1)))) = some r := by rw [if_pos rfl] at H; exact H
                                  clear H
                                  have H := H1
                                  clear H1
                                  by_cases c27 : (wrap64 (x6_1 - 1)) = 0
                                  · rw [if_pos c27] at H
                                    have c27b0 : ((wrap64 (x6_1 - 1)) == 0) = true := beq_iff_eq.mpr c27
                                    have c27b1 : ((wrap64 (x6_1 - 1)) != 0) = false := bne_eq_false_iff_eq.mpr c27
                                    clear c27
                                    obtain rfl := Option.some.inj H
                                    go_wp2
                                    go_ret
                                    exact ⟨by first | rfl | (simp; done) | (simp [*]; done), by repeat (first | exact Drawn0.refl _ | apply Drawn0.step)⟩
                                  · rw [if_neg c27] at H
                                    have c27b0 : ((wrap64 (x6_1 - 1)) == 0) = false := beq_eq_false_iff_ne.mpr c27
                                    have c27b1 : ((wrap64 (x6_1 - 1)) != 0) = true := bne_iff_ne.mpr c27
                                    have H' := Aside0.mk H
                                    clear H
                                    go_wp2
                                    go_roundg kj20
                                    case measure => have := HK1.out; have := HJ9.out; have := HJ14.out; have := HJ20.out; omega
                                    case rel => exact ⟨(wrap64 (x6_1 - 1)), (wrap64 (x7_1 + 1)), (by first | rfl | (simp; done) | (simp [*]; done)), (by first | rfl | (simp; done) | (simp [*]; done)), H', ⟨by have := HK1.out; have := HJ9.out; have := HJ14.out; have := HJ20.out; omega⟩, by repeat (first | exact Drawn0.refl _ | apply Drawn0.step)⟩
                                · replace c26 := Bool.eq_false_iff.mpr c26
                                  subst c26
                                  have H1 : (abutmentref07_Behind.l0 kj20 a0 a1 ((bt a0 a1) == 34) x6_1 (wrap64 (x7_1 + 1))) = some r := by rw [if_neg (show ¬ (false = true) by decide)] at H; exact H
                                  clear H
                                  have H := H1
                                  clear H1
                                  have H' := Aside0.mk H
                                  clear H
                                  go_wp2
                                  go_roundg kj20
                                  case measure => have := HK1.out; have := HJ9.out; have := HJ14.out; have := HJ20.out; omega
                                  case rel => exact ⟨(x6_1), (wrap64 (x7_1 + 1)), (by first | rfl | (simp; done) | (simp [*]; done)), (by first | rfl | (simp; done) | (simp [*]; done)), H', ⟨by have := HK1.out; have := HJ9.out; have := HJ14.out; have := HJ20.out; omega⟩, by repeat (first | exact Drawn0.refl _ | apply Drawn0.step)⟩
            · rw [if_neg c7] at H
              exact absurd H (by simp)
          · rw [if_neg c6] at H
            have c6b0 : decide (x7_1 < (a0.size : Int)) = false := decide_eq_false c6
            clear c6
            obtain rfl := Option.some.inj H
            go_wp2
            go_ret
            exact ⟨by first | rfl | (simp; done) | (simp [*]; done), by repeat (first | exact Drawn0.refl _ | apply Drawn0.step)⟩
    · rw [if_neg c4] at H
      exact absurd H (by simp)
  · rw [if_neg c3] at H
    exact absurd H (by simp)
theorem abutmentref07_Behind.calls (k : Nat) (a0 : ByteArray) (a1 : Int) (r : Int) (w : World) (h : abutmentref07_Behind.f k a0 a1 = some r) :
    Calls Try.prog 122 #[.string a0, .int .i64 a1] w fun e w' => e = .returned (.int .i64 r) ∧ Drawn0 w w' := by
  cases hqd : ((bt a0 a1) == 34) with
  | true => exact abutmentref07_Behind.calls_t k a0 a1 r w hqd h
  | false => exact abutmentref07_Behind.calls_f k a0 a1 r w hqd h
end Go.Proofs.Ytjnhghplfdiijaa.Q

namespace Go.Proofs.Ytjnhghplfdiijaa.Q
open Go.RowKit Go.Proofs.YtjnhghplfdiijaaW.PrintWords Go.Proofs.YtjnhghplfdiijaaW.PrintLast Go.Proofs.YtjnhghplfdiijaaW.PrintMore
attribute [local go_sem] max2_int min2_int max_two min_two max_three min_three max_four min_four
set_option linter.unusedVariables false
set_option linter.unusedSimpArgs false
mutual
def abutmentref07_Split.l0 : Nat → ByteArray → List ByteArray → Int → Int → Option (List ByteArray × Bool)
  | 0, _, _, _, _ => none
  | k + 1, x0, x4, x5, x6 => if x6 < (x0.size : Int) then (if 0 ≤ x6 then (if (bt x0 x6) = 34 then (abutmentref07_Split.j1 k x0 x4 x5 x6 true) else (abutmentref07_Split.j1 k x0 x4 x5 x6 ((bt x0 x6) == 40))) else (none)) else (if 0 ≤ x5 then (if x5 ≤ (x0.size : Int) then (if x4.length < 8796093022208 then (abutmentref07_Split.l1 k (x4 ++ [x0.extract (x5 : Int).toNat x0.size]) (([] : List ByteArray)) 0) else (none)) else (none)) else (none))
def abutmentref07_Split.j1 : Nat → ByteArray → List ByteArray → Int → Int → Bool → Option (List ByteArray × Bool)
  | 0, _, _, _, _, _ => none
  | k + 1, x0, x4, x5, x6, x24 => if x24 = true then ((abutmentref07_Behind.f k x0 x6).bind fun t104 => (if t104 < 0 then (some (([] : List ByteArray), false)) else (abutmentref07_Split.l0 k x0 x4 x5 t104))) else (if 0 ≤ x6 then (if x6 < (x0.size : Int) then (if (bt x0 x6) = 44 then (if 0 ≤ x5 then (if x5 ≤ x6 then (if x6 ≤ (x0.size : Int) then (if x4.length < 8796093022208 then (abutmentref07_Split.l0 k x0 (x4 ++ [x0.extract (x5 : Int).toNat (x6 : Int).toNat]) (wrap64 (x6 + 1)) (wrap64 (x6 + 1))) else (none)) else (none)) else (none)) else (none)) else (abutmentref07_Split.l0 k x0 x4 x5 (wrap64 (x6 + 1)))) else (none)) else (none))
def abutmentref07_Split.l1 : Nat → List ByteArray → List ByteArray → Int → Option (List ByteArray × Bool)
  | 0, _, _, _ => none
  | k + 1, x4, x7, x8 => if x8 < (x4.length : Int) then (if 0 ≤ x8 then ((abutmentref01_Trim.f k (rdOf ByteArray.empty x4 x8)).bind fun t115 => (if t115.toList = ([] : List UInt8) then (abutmentref07_Split.l1 k x4 x7 (wrap64 (x8 + 1))) else (if x7.length < 8796093022208 then (abutmentref07_Split.l1 k x4 (x7 ++ [t115]) (wrap64 (x8 + 1))) else (none)))) else (none)) else (some (x7, true))
end
def abutmentref07_Split.f (k : Nat) (a0 : ByteArray) : Option (List ByteArray × Bool) := abutmentref07_Split.l0 k a0 (([] : List ByteArray)) 0 0
set_option maxHeartbeats 8000000 in
set_option maxRecDepth 100000 in
theorem abutmentref07_Split.calls (k : Nat) (a0 : ByteArray) (r1 : List ByteArray) (r2 : Bool) (w : World) (h : abutmentref07_Split.f k a0 = some (r1, r2)) :
    Calls Try.prog 76 #[.string a0] w fun e w' => ∃ v0_ : Value, e = .returned (.tuple #[v0_, .bool r2]) ∧ Kd.R Kd.string 9 w' w.heap.size (fun _ => True) v0_ r1 ∧ Below w.heap.size w w' := by
  have HB := Aside0.mk (Below.refl w.heap.size w)
  have H : (abutmentref07_Split.l0 k a0 (([] : List ByteArray)) 0 0) = some (r1, r2) := h
  clear h
  obtain ⟨y101, hy101⟩ : ∃ y_ : List ByteArray, y_ = (([] : List ByteArray)) := ⟨_, rfl⟩
  replace H : (abutmentref07_Split.l0 k a0 y101 0 0) = some (r1, r2) := by first | (rw [hy101]; with_reducible exact H) | (have H2_ := (Option.bind_some _ _).symm.trans H; rw [hy101]; with_reducible exact H2_) | (have H2_ := (Option.bind_some _ _).symm.trans H; with_reducible exact H2_) | with_reducible exact H | (rw [hy101]; exact H) | exact H
  have Ny101 := Aside0.mk hy101
  clear hy101
  have H' := Aside0.mk H
  clear H
  go_enter Try.func76, Try.ntmps76
  go_wp2_with (first | ((with_reducible refine gate_dst (N := 10) rfl ?_); refine Kd.R_lit Kd.string _ 9 ?hg (N := 10) ?hd (xs := ([] : List ByteArray)) (inner := []) (ok := fun _ => True) (okp := fun _ => True) ?hr ?hp (fun _ hk => hk) trivial (Below.refl _ _) (Nat.le_refl _) (by simp) ?_; (case hd => rfl); (case hg => rfl); (case hr => first | (go_simp; done) | (go_simp; rfl)); (case hp => exact (Reps.none _ _)); intro v102 w2 ho3 hb hg_ hnew_; clear hg_ hnew_; (first | rw [← Ny101.out] at ho3 | (simp only [Int.reduceToNat] at ho3; rw [← Ny101.out] at ho3)); have n0_ := Aside0.mk (Kd.R_lower ho3 (below_size (by repeat (first | (with_reducible first | exact HB.out | apply below_alloc | apply pw_below_drewN | apply below_drew1) | exact HB.out)))); have n1_ := Aside0.mk (below_step (by repeat (first | (with_reducible first | exact HB.out | apply below_alloc | apply pw_below_drewN | apply below_drew1) | exact HB.out)) hb); clear HB; have HO103 := n0_; have HB := n1_; clear n0_ n1_; clear hb ho3))
  go_loopg [4, 5, 6] k (fun kq v4 v5 v6 w' => ∃ (x4_1 : List ByteArray) (x5_1 : Int) (x6_1 : Int), v5 = .int .i64 x5_1 ∧ v6 = .int .i64 x6_1 ∧ Aside0 (abutmentref07_Split.l0 kq a0 x4_1 x5_1 x6_1 = some (r1, r2)) ∧ Aside0 (kq ≤ k) ∧ Aside0 (Kd.R Kd.string 9 w' w.heap.size (fun _ => True) v4 x4_1) ∧ Aside0 (Below w.heap.size w w'))
  case atStart => exact ⟨(y101), (0), (0), (by first | rfl | (simp; done) | (simp [*]; done)), (by first | rfl | (simp; done) | (simp [*]; done)), H', ⟨Nat.le_refl _⟩, ⟨by (with_reducible repeat (first | apply Kd.R_alloc | apply Kd.R_drewN | apply Kd.R_drew)); exact HO103.out⟩, ⟨by repeat (first | (with_reducible first | exact HB.out | apply below_alloc | apply pw_below_drewN | apply below_drew1) | exact HB.out)⟩⟩
  case round =>
    clear H'
    try clear p2
    obtain ⟨x4_1, x5_1, x6_1, rfl, rfl, HA, HK1, HO_4, HB⟩ := hrel
    cases gk with
    | zero => exact absurd HA.out (by simp [abutmentref07_Split.l0])
    | succ k1 =>
      have H := HA.out
      clear HA
      simp only [abutmentref07_Split.l0] at H
      by_cases c4 : x6_1 < (a0.size : Int)
      · rw [if_pos c4] at H
        have c4b0 : decide (x6_1 < (a0.size : Int)) = true := decide_eq_true c4
        clear c4
        have HC5 := Aside0.mk H
        clear H
        go_upto_region 3 with (fail)
        go_cut [24] (fun v24 wc => ∃ (kq : Nat) (x24_4 : Bool), v24 = .bool x24_4 ∧ Aside0 (abutmentref07_Split.j1 kq a0 x4_1 x5_1 x6_1 x24_4 = some (r1, r2)) ∧ Aside0 (kq ≤ k1) ∧ Aside0 (Kd.R Kd.string 9 wc w.heap.size (fun _ => True) u4 x4_1) ∧ Aside0 (Below w.heap.size w wc))
        case first =>
          have H := HC5.out
          clear HC5
          by_cases c6 : 0 ≤ x6_1
          · rw [if_pos c6] at H
            have c6b0 : decide (0 ≤ x6_1) = true := decide_eq_true c6
            clear c6
            (first | rw [c6b0] | (simp only [i64_w, i32_w]; rw [c6b0]) | skip)
            by_cases c8 : (bt a0 x6_1) = 34
            · rw [if_pos c8] at H
              have c8b0 : ((bt a0 x6_1) == 34) = true := beq_iff_eq.mpr c8
              have c8b1 : ((bt a0 x6_1) != 34) = false := bne_eq_false_iff_eq.mpr c8
              clear c8
              have H' := Aside0.mk H
              clear H
              have p7 : 0 ≤ (x6_1 : Int) := of_decide_eq_true (by first | (with_reducible assumption) | assumption)
              have q7 : x6_1 < (a0.size : Int) := of_decide_eq_true (by first | (with_reducible assumption) | assumption)
              have hx7 := bt_at a0 x6_1
              replace p7 := eq_true p7
              replace q7 := eq_true q7
              go_wp2
              go_meet
              case rel => exact ⟨_, (true), (by first | rfl | (simp; done) | (simp [*]; done)), H', ⟨by have := HK1.out; first | omega | exact Nat.le_refl _⟩, ⟨by (with_reducible repeat (first | apply Kd.R_alloc | apply Kd.R_drewN | apply Kd.R_drew)); exact HO_4.out⟩, ⟨by repeat (first | (with_reducible first | exact HB.out | apply below_alloc | apply pw_below_drewN | apply below_drew1) | exact HB.out)⟩⟩
            · rw [if_neg c8] at H
              have c8b0 : ((bt a0 x6_1) == 34) = false := beq_eq_false_iff_ne.mpr c8
              have c8b1 : ((bt a0 x6_1) != 34) = true := bne_iff_ne.mpr c8
              have H' := Aside0.mk H
              clear H
              have p7 : 0 ≤ (x6_1 : Int) := of_decide_eq_true (by first | (with_reducible assumption) | assumption)
              have q7 : x6_1 < (a0.size : Int) := of_decide_eq_true (by first | (with_reducible assumption) | assumption)
              have hx7 := bt_at a0 x6_1
              replace p7 := eq_true p7
              replace q7 := eq_true q7
              have p9 : 0 ≤ (x6_1 : Int) := of_decide_eq_true (by first | (with_reducible assumption) | assumption)
              have q9 : x6_1 < (a0.size : Int) := of_decide_eq_true (by first | (with_reducible assumption) | assumption)
              have hx9 := bt_at a0 x6_1
              replace p9 := eq_true p9
              replace q9 := eq_true q9
              go_wp2
              go_meet
              case rel => exact ⟨_, (((bt a0 x6_1) == 40)), (by first | rfl | (simp; done) | (simp [*]; done)), H', ⟨by have := HK1.out; first | omega | exact Nat.le_refl _⟩, ⟨by (with_reducible repeat (first | apply Kd.R_alloc | apply Kd.R_drewN | apply Kd.R_drew)); exact HO_4.out⟩, ⟨by repeat (first | (with_reducible first | exact HB.out | apply below_alloc | apply pw_below_drewN | apply below_drew1) | exact HB.out)⟩⟩
          · rw [if_neg c6] at H
            exact absurd H (by simp)
        case rest =>
          clear HC5
          try clear p2
          try clear c4
          try clear c4b0
          try clear c6
          try clear c6b0
          try clear c7
          try clear p7
          try clear q7
          try clear hx7
          try clear c8
          try clear c8b0
          try clear c8b1
          try clear p9
          try clear q9
          try clear hx9
          try clear p2
          try clear p7
          try clear p9
          try clear q7
          try clear q9
          obtain ⟨kq, x24_4, rfl, HA, HJ4, HO_4, HB⟩ := hcut
          cases kq with
          | zero => exact absurd HA.out (by simp [abutmentref07_Split.j1])
          | succ kj4 =>
            have H := HA.out
            clear HA
            simp only [abutmentref07_Split.j1] at H
            by_cases c10 : x24_4 = true
            · subst c10
              have H1 : ((abutmentref07_Behind.f kj4 a0 x6_1).bind fun t104 => (if t104 < 0 then (some (([] : List ByteArray), false)) else (abutmentref07_Split.l0 kj4 a0 x4_1 x5_1 t104))) = some (r1, r2) := by rw [if_pos rfl] at H; exact H
              clear H
              have H := H1
              clear H1
              replace H := Option.bind_eq_some_iff.mp H
              obtain ⟨t104, A110, H⟩ := H
              (try dsimp only at H)
              have A11 := Aside0.mk A110
              clear A110
              by_cases c12 : t104 < 0
              · rw [if_pos c12] at H
                have c12b0 : decide (t104 < 0) = true := decide_eq_true c12
                clear c12
                simp only [Option.some.injEq, Prod.mk.injEq] at H
                obtain ⟨rfl, rfl⟩ := H
                go_wp2_with (first | ((with_reducible refine gate_callee (f := 122) rfl ?_); refine goesL_ (some 27) rfl rfl Try.func122 (by kernel_rfl) rfl #[.string a0, .int .i64 x6_1] rfl (by (try simp only [List.map_toArray, List.map_cons, List.map_nil]); first | done | rfl | (simp only [List.length_drop, List.length_take]; rfl)) ?_; (with_reducible refine (abutmentref07_Behind.calls kj4 a0 x6_1 t104 _ A11.out).mono ?_); rintro e w' ⟨rfl, ⟨nd, rfl⟩⟩; refine ⟨_, rfl, ?_⟩))
                go_ret2
                exact ⟨_, by first | rfl | (simp [errW_none, errW_some] <;> rfl) | (simp [*, errW_none, errW_some] <;> rfl), by first | exact Kd.R_nil _ _ _ _ _ | exact Kd.N_nil _ _ _ _ _ | exact Kd.V_nil _ _ _ _ _ | exact Kd.Q_nil _ _ _ _ _ | exact Kd.S_nil _ _ _ _ _, by repeat (first | (with_reducible first | exact HB.out | apply below_alloc | apply pw_below_drewN | apply below_drew1) | exact HB.out)⟩
              · rw [if_neg c12] at H
                have c12b0 : decide (t104 < 0) = false := decide_eq_false c12
                clear c12
                have H' := Aside0.mk H
                clear H
                go_wp2_with (first | ((with_reducible refine gate_callee (f := 122) rfl ?_); refine goesL_ (some 27) rfl rfl Try.func122 (by kernel_rfl) rfl #[.string a0, .int .i64 x6_1] rfl (by (try simp only [List.map_toArray, List.map_cons, List.map_nil]); first | done | rfl | (simp only [List.length_drop, List.length_take]; rfl)) ?_; (with_reducible refine (abutmentref07_Behind.calls kj4 a0 x6_1 t104 _ A11.out).mono ?_); rintro e w' ⟨rfl, ⟨nd, rfl⟩⟩; refine ⟨_, rfl, ?_⟩))
                go_roundg kj4
                case measure => have := HK1.out; have := HJ4.out; omega
                case rel => exact ⟨(x4_1), (x5_1), (t104), (by first | rfl | (simp; done) | (simp [*]; done)), (by first | rfl | (simp; done) | (simp [*]; done)), H', ⟨by have := HK1.out; have := HJ4.out; omega⟩, ⟨by (with_reducible repeat (first | apply Kd.R_alloc | apply Kd.R_drewN | apply Kd.R_drew)); exact HO_4.out⟩, ⟨by repeat (first | (with_reducible first | exact HB.out | apply below_alloc | apply pw_below_drewN | apply below_drew1) | exact HB.out)⟩⟩
            · replace c10 := Bool.eq_false_iff.mpr c10
              subst c10
              have H1 : (if 0 ≤ x6_1 then (if x6_1 < (a0.size : Int) then (if (bt a0 x6_1) = 44 then (if 0 ≤ x5_1 then (if x5_1 ≤ x6_1 then (if x6_1 ≤ (a0.size : Int) then (if x4_1.length < 8796093022208 then (abutmentref07_Split.l0 kj4 a0 (x4_1 ++ [a0.extract (x5_1 : Int).toNat (x6_1 : Int).toNat]) (wrap64 (x6_1 + 1)) (wrap64 (x6_1 + 1))) else (none)) else (none)) else (none)) else (none)) else (abutmentref07_Split.l0 kj4 a0 x4_1 x5_1 (wrap64 (x6_1 + 1)))) else (none)) else (none)) = some (r1, r2) := by rw [if_neg (show ¬ (false = true) by decide)] at H; exact H
              clear H
              have H := H1
              clear H1
              by_cases c13 : 0 ≤ x6_1
              · rw [if_pos c13] at H
                have c13b0 : decide (0 ≤ x6_1) = true := decide_eq_true c13
                clear c13
                by_cases c14 : x6_1 < (a0.size : Int)
                · rw [if_pos c14] at H
                  have c14b0 : decide (x6_1 < (a0.size : Int)) = true := decide_eq_true c14
                  clear c14
                  by_cases c16 : (bt a0 x6_1) = 44
                  · rw [if_pos c16] at H
                    have c16b0 : ((bt a0 x6_1) == 44) = true := beq_iff_eq.mpr c16
                    have c16b1 : ((bt a0 x6_1) != 44) = false := bne_eq_false_iff_eq.mpr c16
                    clear c16
                    by_cases c17 : 0 ≤ x5_1
                    · rw [if_pos c17] at H
                      have c17b0 := eq_true c17
                      have c17b1 : decide (0 ≤ x5_1) = true := decide_eq_true c17
                      clear c17
                      by_cases c18 : x5_1 ≤ x6_1
                      · rw [if_pos c18] at H
                        have c18b0 := eq_true c18
                        have c18b1 : decide (x5_1 ≤ x6_1) = true := decide_eq_true c18
                        clear c18
                        by_cases c19 : x6_1 ≤ (a0.size : Int)
                        · rw [if_pos c19] at H
                          have c19b0 := eq_true c19
                          have c19b1 : decide (x6_1 ≤ (a0.size : Int)) = true := decide_eq_true c19
                          clear c19
                          by_cases c20 : x4_1.length < 8796093022208
                          · rw [if_pos c20] at H
                            have LMc20 := Aside0.mk c20
                            clear c20
                            obtain ⟨y105, hy105⟩ : ∃ y_ : List ByteArray, y_ = (x4_1 ++ [a0.extract (x5_1 : Int).toNat (x6_1 : Int).toNat]) := ⟨_, rfl⟩
                            replace H : (abutmentref07_Split.l0 kj4 a0 y105 (wrap64 (x6_1 + 1)) (wrap64 (x6_1 + 1))) = some (r1, r2) := by first | (rw [hy105]; with_reducible exact H) | (have H2_ := (Option.bind_some _ _).symm.trans H; rw [hy105]; with_reducible exact H2_) | (have H2_ := (Option.bind_some _ _).symm.trans H; with_reducible exact H2_) | with_reducible exact H | (rw [hy105]; exact H) | exact H
                            have Ny105 := Aside0.mk hy105
                            clear hy105
                            have H' := Aside0.mk H
                            clear H
                            have p15 : 0 ≤ (x6_1 : Int) := of_decide_eq_true (by first | (with_reducible assumption) | assumption)
                            have q15 : x6_1 < (a0.size : Int) := of_decide_eq_true (by first | (with_reducible assumption) | assumption)
                            have hx15 := bt_at a0 x6_1
                            replace p15 := eq_true p15
                            replace q15 := eq_true q15
                            go_wp2_with (first | ((with_reducible refine gate_builtin (b := .append) (xs := #[.tmp 34, .tmp 39]) rfl ?_); at_builtin; refine Kd.R_append Kd.string (w0 := w) w.heap.size rfl (.tmp 34) (.tmp 39) 93 9 (.string ⟨#[]⟩) 16 rfl Try.underlying93 info9 rfl (by decide) (by omega) u4 x4_1 (a0.extract (x5_1 : Int).toNat (x6_1 : Int).toNat) [.string (a0.extract (x5_1 : Int).toNat (x6_1 : Int).toNat)] (fun _ => True) (fun _ => False) rfl rfl ?aP (fun _ hk => hk.elim) ?aF ?aO ?aB ?aS ?aL ?_; (case aP => exact rfl); (case aB => exact (by repeat (first | (with_reducible first | exact HB.out | apply below_alloc | apply pw_below_drewN | apply below_drew1) | exact HB.out))); (case aF => exact (fun _ _ => trivial)); (case aO => exact (by (with_reducible repeat (first | apply Kd.R_alloc | apply Kd.R_drewN | apply Kd.R_drew)); exact HO_4.out)); (case aS => exact (below_size (by repeat (first | (with_reducible first | exact HB.out | apply below_alloc | apply pw_below_drewN | apply below_drew1) | exact HB.out)))); (case aL => have := LMc20.out; omega); intro v106 w21 ho hb hg hat; rw [← Ny105.out] at ho; have n0_ := Aside0.mk (hb); have n1_ := Aside0.mk (ho); clear HB; clear HO_4; have HB := n0_; have HO107 := n1_; clear n0_ n1_; clear ho hb hg hat))
                            go_roundg kj4
                            case measure => have := HK1.out; have := HJ4.out; omega
                            case rel => exact ⟨(y105), (wrap64 (x6_1 + 1)), (wrap64 (x6_1 + 1)), (by first | rfl | (simp; done) | (simp [*]; done)), (by first | rfl | (simp; done) | (simp [*]; done)), H', ⟨by have := HK1.out; have := HJ4.out; omega⟩, ⟨by (with_reducible repeat (first | apply Kd.R_alloc | apply Kd.R_drewN | apply Kd.R_drew)); exact HO107.out⟩, ⟨by repeat (first | (with_reducible first | exact HB.out | apply below_alloc | apply pw_below_drewN | apply below_drew1) | exact HB.out)⟩⟩
                          · rw [if_neg c20] at H
                            exact absurd H (by simp)
                        · rw [if_neg c19] at H
                          exact absurd H (by simp)
                      · rw [if_neg c18] at H
                        exact absurd H (by simp)
                    · rw [if_neg c17] at H
                      exact absurd H (by simp)
                  · rw [if_neg c16] at H
                    have c16b0 : ((bt a0 x6_1) == 44) = false := beq_eq_false_iff_ne.mpr c16
                    have c16b1 : ((bt a0 x6_1) != 44) = true := bne_iff_ne.mpr c16
                    have H' := Aside0.mk H
                    clear H
                    have p15 : 0 ≤ (x6_1 : Int) := of_decide_eq_true (by first | (with_reducible assumption) | assumption)
                    have q15 : x6_1 < (a0.size : Int) := of_decide_eq_true (by first | (with_reducible assumption) | assumption)
                    have hx15 := bt_at a0 x6_1
                    replace p15 := eq_true p15
                    replace q15 := eq_true q15
                    go_wp2
                    go_roundg kj4
                    case measure => have := HK1.out; have := HJ4.out; omega
                    case rel => exact ⟨(x4_1), (x5_1), (wrap64 (x6_1 + 1)), (by first | rfl | (simp; done) | (simp [*]; done)), (by first | rfl | (simp; done) | (simp [*]; done)), H', ⟨by have := HK1.out; have := HJ4.out; omega⟩, ⟨by (with_reducible repeat (first | apply Kd.R_alloc | apply Kd.R_drewN | apply Kd.R_drew)); exact HO_4.out⟩, ⟨by repeat (first | (with_reducible first | exact HB.out | apply below_alloc | apply pw_below_drewN | apply below_drew1) | exact HB.out)⟩⟩
                · rw [if_neg c14] at H
                  exact absurd H (by simp)
              · rw [if_neg c13] at H
                exact absurd H (by simp)
      · rw [if_neg c4] at H
        have c4b0 : decide (x6_1 < (a0.size : Int)) = false := decide_eq_false c4
        clear c4
        by_cases c22 : 0 ≤ x5_1
        · rw [if_pos c22] at H
          have c22b0 := eq_true c22
          have c22b1 : decide (0 ≤ x5_1) = true := decide_eq_true c22
          clear c22
          by_cases c23 : x5_1 ≤ (a0.size : Int)
          · rw [if_pos c23] at H
            have c23b0 := eq_true c23
            have c23b1 : decide (x5_1 ≤ (a0.size : Int)) = true := decide_eq_true c23
            clear c23
            by_cases c24 : x4_1.length < 8796093022208
            · rw [if_pos c24] at H
              have LMc24 := Aside0.mk c24
              clear c24
              obtain ⟨y108, hy108⟩ : ∃ y_ : List ByteArray, y_ = (x4_1 ++ [a0.extract (x5_1 : Int).toNat a0.size]) := ⟨_, rfl⟩
              replace H : (abutmentref07_Split.l1 k1 y108 (([] : List ByteArray)) 0) = some (r1, r2) := by first | (rw [hy108]; with_reducible exact H) | (have H2_ := (Option.bind_some _ _).symm.trans H; rw [hy108]; with_reducible exact H2_) | (have H2_ := (Option.bind_some _ _).symm.trans H; with_reducible exact H2_) | with_reducible exact H | (rw [hy108]; exact H) | exact H
              have Ny108 := Aside0.mk hy108
              clear hy108
              obtain ⟨y111, hy111⟩ : ∃ y_ : List ByteArray, y_ = (([] : List ByteArray)) := ⟨_, rfl⟩
              replace H : (abutmentref07_Split.l1 k1 y108 y111 0) = some (r1, r2) := by first | (rw [hy111]; with_reducible exact H) | (have H2_ := (Option.bind_some _ _).symm.trans H; rw [hy111]; with_reducible exact H2_) | (have H2_ := (Option.bind_some _ _).symm.trans H; with_reducible exact H2_) | with_reducible exact H | (rw [hy111]; exact H) | exact H
              have Ny111 := Aside0.mk hy111
              clear hy111
              have H' := Aside0.mk H
              clear H
              go_wp2_with (first | ((with_reducible refine gate_builtin (b := .append) (xs := #[.tmp 46, .tmp 50]) rfl ?_); at_builtin; refine Kd.R_append Kd.string (w0 := w) w.heap.size rfl (.tmp 46) (.tmp 50) 93 9 (.string ⟨#[]⟩) 16 rfl Try.underlying93 info9 rfl (by decide) (by omega) u4 x4_1 (a0.extract (x5_1 : Int).toNat a0.size) [.string (a0.extract (x5_1 : Int).toNat a0.size)] (fun _ => True) (fun _ => False) rfl rfl ?aP (fun _ hk => hk.elim) ?aF ?aO ?aB ?aS ?aL ?_; (case aP => exact rfl); (case aB => exact (by repeat (first | (with_reducible first | exact HB.out | apply below_alloc | apply pw_below_drewN | apply below_drew1) | exact HB.out))); (case aF => exact (fun _ _ => trivial)); (case aO => exact (by (with_reducible repeat (first | apply Kd.R_alloc | apply Kd.R_drewN | apply Kd.R_drew)); exact HO_4.out)); (case aS => exact (below_size (by repeat (first | (with_reducible first | exact HB.out | apply below_alloc | apply pw_below_drewN | apply below_drew1) | exact HB.out)))); (case aL => have := LMc24.out; omega); intro v109 w25 ho hb hg hat; rw [← Ny108.out] at ho; have n0_ := Aside0.mk (hb); have n1_ := Aside0.mk (ho); clear HB; clear HO_4; have HB := n0_; have HO110 := n1_; clear n0_ n1_; clear ho hb hg hat) | ((with_reducible refine gate_dst (N := 52) rfl ?_); refine Kd.R_lit Kd.string _ 9 ?hg (N := 52) ?hd (xs := ([] : List ByteArray)) (inner := []) (ok := fun _ => True) (okp := fun _ => True) ?hr ?hp (fun _ hk => hk) trivial (Below.refl _ _) (Nat.le_refl _) (by simp) ?_; (case hd => rfl); (case hg => rfl); (case hr => first | (go_simp; done) | (go_simp; rfl)); (case hp => exact (Reps.none _ _)); intro v112 w26 ho27 hb hg_ hnew_; clear hg_ hnew_; (first | rw [← Ny111.out] at ho27 | (simp only [Int.reduceToNat] at ho27; rw [← Ny111.out] at ho27)); have n0_ := Aside0.mk (Kd.R_elder' (by (with_reducible repeat (first | apply Kd.R_alloc | apply Kd.R_drewN | apply Kd.R_drew)); exact HO110.out) (Kd.R_base ho27) hb); have n1_ := Aside0.mk (Kd.R_lower (Kd.R_new' ho27 (Kd.R_lt (by (with_reducible repeat (first | apply Kd.R_alloc | apply Kd.R_drewN | apply Kd.R_drew)); exact HO110.out))) (below_size (by repeat (first | (with_reducible first | exact HB.out | apply below_alloc | apply pw_below_drewN | apply below_drew1) | exact HB.out)))); have n2_ := Aside0.mk (below_step (by repeat (first | (with_reducible first | exact HB.out | apply below_alloc | apply pw_below_drewN | apply below_drew1) | exact HB.out)) hb); clear HO110; clear HB; have HO110 := n0_; have HO113 := n1_; have HB := n2_; clear n0_ n1_ n2_; clear hb ho27))
              go_loopg [7, 8] k1 (fun kq v7 v8 w' => ∃ (x7_2 : List ByteArray) (x8_2 : Int), v8 = .int .i64 x8_2 ∧ Aside0 (abutmentref07_Split.l1 kq y108 x7_2 x8_2 = some (r1, r2)) ∧ Aside0 (kq ≤ k1) ∧ Aside0 (Kd.R Kd.string 9 w' w.heap.size (fun k_ => some k_ ≠ (v7 : Value).ownBlock) v109 y108) ∧ Aside0 (Kd.R Kd.string 9 w' w.heap.size (fun k_ => some k_ ≠ (v109 : Value).ownBlock) v7 x7_2) ∧ Aside0 (Below w.heap.size w w'))
              case atStart => exact ⟨(y111), (0), (by first | rfl | (simp; done) | (simp [*]; done)), H', ⟨Nat.le_refl _⟩, ⟨by (with_reducible repeat (first | apply Kd.R_alloc | apply Kd.R_drewN | apply Kd.R_drew)); exact Kd.R_mono HO110.out (fun _ hk => hk.2)⟩, ⟨by (with_reducible repeat (first | apply Kd.R_alloc | apply Kd.R_drewN | apply Kd.R_drew)); exact Kd.R_mono HO113.out (fun _ hk => hk.2)⟩, ⟨by repeat (first | (with_reducible first | exact HB.out | apply below_alloc | apply pw_below_drewN | apply below_drew1) | exact HB.out)⟩⟩
              case round =>
                clear H'
                try clear c1
                try clear p1
                try clear q1
                try clear hx1
                try clear c2
                try clear p2
                try clear c4
                try clear c4b0
                try clear c6
                try clear c6b0
                try clear p6
                try clear c7
                try clear p7
                try clear q7
                try clear hx7
                try clear c8
                try clear c8b0
                try clear c8b1
                try clear p9
                try clear q9
                try clear hx9
                try clear c10
                try clear c12
                try clear c12b0
                try clear c13
                try clear c13b0
                try clear c14
                try clear c14b0
                try clear p15
                try clear q15
                try clear hx15
                try clear c16
                try clear c16b0
                try clear c16b1
                try clear c17
                try clear c17b0
                try clear c17b1
                try clear c18
                try clear c18b0
                try clear c18b1
                try clear c19
                try clear c19b0
                try clear c19b1
                try clear c20
                try clear c22
                try clear c22b0
                try clear c22b1
                try clear c23
                try clear c23b0
                try clear c23b1
                try clear c24
                try clear p15
                try clear p2
                try clear p7
                try clear p9
                try clear q15
                try clear q7
                try clear q9
                obtain ⟨x7_2, x8_2, rfl, HA, HK2, HO_4, HO_7, HB⟩ := hrel
                cases gk with
                | zero => exact absurd HA.out (by simp [abutmentref07_Split.l1])
                | succ k2 =>
                  have H := HA.out
                  clear HA
                  simp only [abutmentref07_Split.l1] at H
                  by_cases c28 : x8_2 < (y108.length : Int)
                  · rw [if_pos c28] at H
                    have c28b0 : decide (x8_2 < (y108.length : Int)) = true := decide_eq_true c28
                    clear c28
                    by_cases c29 : 0 ≤ x8_2
                    · rw [if_pos c29] at H
                      have c29b0 : decide (0 ≤ x8_2) = true := decide_eq_true c29
                      clear c29
                      replace H := Option.bind_eq_some_iff.mp H
                      obtain ⟨t115, A300, H⟩ := H
                      (try dsimp only at H)
                      have A30 := Aside0.mk A300
                      clear A300
                      by_cases c31 : t115.toList = ([] : List UInt8)
                      · rw [if_pos c31] at H
                        have c31b0 : (t115.toList == ([] : List UInt8)) = true := beq_iff_eq.mpr c31
                        have c31b1 : (t115.toList != ([] : List UInt8)) = false := bne_eq_false_iff_eq.mpr c31
                        clear c31
                        have H' := Aside0.mk H
                        clear H
                        obtain ⟨Ao32, co32, eo32⟩ := Kd.R_slice HO_4.out
                        subst eo32
                        have p114 : 0 ≤ (x8_2 : Int) := of_decide_eq_true (by first | (with_reducible assumption) | assumption)
                        have q114 : x8_2 < (y108.length : Int) := of_decide_eq_true (by first | (with_reducible assumption) | assumption)
                        obtain ⟨ad114, e114, hx114_0⟩ := Kd.at_string (Kd.R_reads' HO_4.out).2.2 x8_2 p114 q114
                        cases e114
                        replace p114 := eq_true p114
                        replace q114 := eq_true q114
                        go_wp2_with (first | ((with_reducible refine gate_callee (f := 123) rfl ?_); refine goesL_ (some 63) rfl rfl Try.func123 (by kernel_rfl) rfl #[.string (rdOf ByteArray.empty y108 x8_2)] rfl (by (try simp only [List.map_toArray, List.map_cons, List.map_nil]); first | done | rfl | (simp only [List.length_drop, List.length_take]; rfl)) ?_; (with_reducible refine (abutmentref01_Trim.calls k2 (rdOf ByteArray.empty y108 x8_2) t115 _ A30.out).mono ?_); rintro e w' ⟨rfl, ⟨nd, rfl⟩⟩; refine ⟨_, rfl, ?_⟩))
                        go_roundg k2
                        case measure => have := HK1.out; have := HK2.out; omega
                        case rel => exact ⟨(x7_2), (wrap64 (x8_2 + 1)), (by first | rfl | (simp; done) | (simp [*]; done)), H', ⟨by have := HK1.out; have := HK2.out; omega⟩, ⟨by (with_reducible repeat (first | apply Kd.R_alloc | apply Kd.R_drewN | apply Kd.R_drew)); exact HO_4.out⟩, ⟨by (with_reducible repeat (first | apply Kd.R_alloc | apply Kd.R_drewN | apply Kd.R_drew)); exact HO_7.out⟩, ⟨by repeat (first | (with_reducible first | exact HB.out | apply below_alloc | apply pw_below_drewN | apply below_drew1) | exact HB.out)⟩⟩
                      · rw [if_neg c31] at H
                        have c31b0 : (t115.toList == ([] : List UInt8)) = false := beq_eq_false_iff_ne.mpr c31
                        have c31b1 : (t115.toList != ([] : List UInt8)) = true := bne_iff_ne.mpr c31
                        by_cases c33 : x7_2.length < 8796093022208
                        · rw [if_pos c33] at H
                          have LMc33 := Aside0.mk c33
                          clear c33
                          obtain ⟨y116, hy116⟩ : ∃ y_ : List ByteArray, y_ = (x7_2 ++ [t115]) := ⟨_, rfl⟩
                          replace H : (abutmentref07_Split.l1 k2 y108 y116 (wrap64 (x8_2 + 1))) = some (r1, r2) := by first | (rw [hy116]; with_reducible exact H) | (have H2_ := (Option.bind_some _ _).symm.trans H; rw [hy116]; with_reducible exact H2_) | (have H2_ := (Option.bind_some _ _).symm.trans H; with_reducible exact H2_) | with_reducible exact H | (rw [hy116]; exact H) | exact H
                          have Ny116 := Aside0.mk hy116
                          clear hy116
                          have H' := Aside0.mk H
                          clear H
                          obtain ⟨Ao34, co34, eo34⟩ := Kd.R_slice HO_4.out
                          subst eo34
                          have p114 : 0 ≤ (x8_2 : Int) := of_decide_eq_true (by first | (with_reducible assumption) | assumption)
                          have q114 : x8_2 < (y108.length : Int) := of_decide_eq_true (by first | (with_reducible assumption) | assumption)
                          obtain ⟨ad114, e114, hx114_0⟩ := Kd.at_string (Kd.R_reads' HO_4.out).2.2 x8_2 p114 q114
                          cases e114
                          replace p114 := eq_true p114
                          replace q114 := eq_true q114
                          go_wp2_with (first | ((with_reducible refine gate_callee (f := 123) rfl ?_); refine goesL_ (some 63) rfl rfl Try.func123 (by kernel_rfl) rfl #[.string (rdOf ByteArray.empty y108 x8_2)] rfl (by (try simp only [List.map_toArray, List.map_cons, List.map_nil]); first | done | rfl | (simp only [List.length_drop, List.length_take]; rfl)) ?_; (with_reducible refine (abutmentref01_Trim.calls k2 (rdOf ByteArray.empty y108 x8_2) t115 _ A30.out).mono ?_); rintro e w' ⟨rfl, ⟨nd, rfl⟩⟩; refine ⟨_, rfl, ?_⟩) | ((with_reducible refine gate_builtin (b := .append) (xs := #[.tmp 66, .tmp 68]) rfl ?_); at_builtin; refine Kd.R_append Kd.string (w0 := w) w.heap.size rfl (.tmp 66) (.tmp 68) 93 9 (.string ⟨#[]⟩) 16 rfl Try.underlying93 info9 rfl (by decide) (by omega) u7 x7_2 t115 [.string t115] (fun k_ => some k_ ≠ (.slice (some ad114) y108.length co34 : Value).ownBlock) (fun _ => False) rfl rfl ?aP (fun _ hk => hk.elim) ?aF ?aO ?aB ?aS ?aL ?_; (case aP => exact rfl); (case aB => exact (by repeat (first | (with_reducible first | exact HB.out | apply below_alloc | apply pw_below_drewN | apply below_drew1) | exact HB.out))); (case aF => exact (fun k_ hk => Kd.fresh' (Kd.R_lt (by (with_reducible repeat (first | apply Kd.R_alloc | apply Kd.R_drewN | apply Kd.R_drew)); exact HO_4.out)) k_ hk)); (case aO => exact (by (with_reducible repeat (first | apply Kd.R_alloc | apply Kd.R_drewN | apply Kd.R_drew)); exact HO_7.out)); (case aS => exact (below_size (by repeat (first | (with_reducible first | exact HB.out | apply below_alloc | apply pw_below_drewN | apply below_drew1) | exact HB.out)))); (case aL => have := LMc33.out; omega); intro v117 w35 ho hb hg hat; rw [← Ny116.out] at ho; have n0_ := Aside0.mk (Kd.R_after (ok := (fun _ => True)) (by (with_reducible repeat (first | apply Kd.R_alloc | apply Kd.R_drewN | apply Kd.R_drew)); exact Kd.R_mono HO_4.out (fun _ hk => ⟨trivial, hk⟩)) hg hat); have n1_ := Aside0.mk (hb); have n2_ := Aside0.mk (ho); clear HO_4; clear HB; clear HO_7; have HO_4 := n0_; have HB := n1_; have HO118 := n2_; clear n0_ n1_ n2_; clear ho hb hg hat))
                          go_roundg k2
                          case measure => have := HK1.out; have := HK2.out; omega
                          case rel => exact ⟨(y116), (wrap64 (x8_2 + 1)), (by first | rfl | (simp; done) | (simp [*]; done)), H', ⟨by have := HK1.out; have := HK2.out; omega⟩, ⟨by (with_reducible repeat (first | apply Kd.R_alloc | apply Kd.R_drewN | apply Kd.R_drew)); exact Kd.R_mono HO_4.out (fun _ hk => hk.2)⟩, ⟨by (with_reducible repeat (first | apply Kd.R_alloc | apply Kd.R_drewN | apply Kd.R_drew)); exact HO118.out⟩, ⟨by repeat (first | (with_reducible first | exact HB.out | apply below_alloc | apply pw_below_drewN | apply below_drew1) | exact HB.out)⟩⟩
                        · rw [if_neg c33] at H
                          exact absurd H (by simp)
                    · rw [if_neg c29] at H
                      exact absurd H (by simp)
                  · rw [if_neg c28] at H
                    have c28b0 : decide (x8_2 < (y108.length : Int)) = false := decide_eq_false c28
                    clear c28
                    simp only [Option.some.injEq, Prod.mk.injEq] at H
                    obtain ⟨rfl, rfl⟩ := H
                    obtain ⟨Ao36, co36, eo36⟩ := Kd.R_slice HO_4.out
                    subst eo36
                    go_wp2
                    go_ret2
                    exact ⟨_, by first | rfl | (simp [errW_none, errW_some] <;> rfl) | (simp [*, errW_none, errW_some] <;> rfl), by (with_reducible repeat (first | apply Kd.R_alloc | apply Kd.R_drewN | apply Kd.R_drew)); exact Kd.R_mono HO_7.out (fun _ hk => trivial), by repeat (first | (with_reducible first | exact HB.out | apply below_alloc | apply pw_below_drewN | apply below_drew1) | exact HB.out)⟩
            · rw [if_neg c24] at H
              exact absurd H (by simp)
          · rw [if_neg c23] at H
            exact absurd H (by simp)
        · rw [if_neg c22] at H
          exact absurd H (by simp)
end Go.Proofs.Ytjnhghplfdiijaa.Q

namespace Go.Proofs.Ytjnhghplfdiijaa.Q
open Go.RowKit Go.Proofs.YtjnhghplfdiijaaW.PrintWords Go.Proofs.YtjnhghplfdiijaaW.PrintLast Go.Proofs.YtjnhghplfdiijaaW.PrintMore
set_option linter.unusedVariables false
set_option linter.unusedSimpArgs false
/-- What comes behind a quoted text or a comment that is open. -/
def behL (q : Bool) : Bool → List UInt8 → Nat → Option (List UInt8)
  | _, [], _ => none
  | true, _ :: r, d => behL q false r d
  | false, c :: r, d =>
    if c = 92 then behL q true r d else if q = true then (if c = 34 then some r else behL q false r d)
    else if c = 40 then behL q false r (d + 1) else if c = 41 then (if d = 1 then some r else behL q false r (d - 1)) else behL q false r d
theorem behL_suffix (q : Bool) : ∀ (r : List UInt8) (sl : Bool) (d : Nat) (r' : List UInt8), behL q sl r d = some r' → ∃ p, p ≠ [] ∧ r = p ++ r'
  | [], sl, d, r', h => by cases sl <;> simp [behL] at h
  | c :: r, true, d, r', h => by
    simp only [behL] at h
    obtain ⟨p, _, e⟩ := behL_suffix q r _ _ _ h
    exact ⟨c :: p, by simp, by rw [e]; rfl⟩
  | c :: r, false, d, r', h => by
    have step : ∀ sl d, behL q sl r d = some r' → ∃ p, p ≠ [] ∧ c :: r = p ++ r' := fun sl d h => by
      obtain ⟨p, _, e⟩ := behL_suffix q r _ _ _ h
      exact ⟨c :: p, by simp, by rw [e]; rfl⟩
    simp only [behL] at h
    split at h
    · exact step _ _ h
    split at h
    · split at h
      · cases h; exact ⟨[c], by simp, rfl⟩
      · exact step _ _ h
    split at h
    · exact step _ _ h
    split at h
    · split at h
      · cases h; exact ⟨[c], by simp, rfl⟩
      · exact step _ _ h
    · exact step _ _ h
theorem at_suffix {s : ByteArray} {i : Nat} {p r' : List UInt8} (h : (tl s).drop i = p ++ r') (hi : i ≤ s.size) : (tl s).drop (s.size - r'.length) = r' ∧ s.size = i + p.length + r'.length := by
  have hl := congrArg List.length h
  rw [List.length_drop, tl_length, List.length_append] at hl
  refine ⟨?_, by omega⟩
  have e : s.size - r'.length = i + p.length := by omega
  rw [e, ← List.drop_drop, h, List.drop_left]
theorem u40 (c : UInt8) : (c.toNat : Int) = 40 ↔ c = 40 := u8_int (c := c) (n := 40) (by omega)
theorem u41 (c : UInt8) : (c.toNat : Int) = 41 ↔ c = 41 := u8_int (c := c) (n := 41) (by omega)
theorem u44 (c : UInt8) : (c.toNat : Int) = 44 ↔ c = 44 := u8_int (c := c) (n := 44) (by omega)
theorem u34' (c : UInt8) : (c.toNat : Int) = 34 ↔ c = 34 := u8_int (c := c) (n := 34) (by omega)
theorem u92' (c : UInt8) : (c.toNat : Int) = 92 ↔ c = 92 := u8_int (c := c) (n := 92) (by omega)
/-- Is a state open: within a quoted text, or in a comment? -/
def OpenS (q : Bool) (d : Nat) : Prop := (q = true ∧ d = 0) ∨ (q = false ∧ 1 ≤ d)
theorem closed_open {q sl : Bool} {d : Nat} (h : OpenS q d) : closedP q sl (d : Int) = false := by
  unfold closedP
  rcases h with ⟨rfl, _⟩ | ⟨rfl, h⟩
  · rfl
  · have : decide ((d : Int) = 0) = false := decide_eq_false (by omega)
    rw [this]; simp
/-- What the program's machine does while it is open. -/
theorem scan_open (s : ByteArray) (fr : Nat) (q : Bool) : ∀ (r : List UInt8) (i : Nat) (sl : Bool) (d : Nat), (tl s).drop i = r → OpenS q d →
    match behL q sl r d with
    | some r' => scanP s r.length i (q, sl, (d : Int)) = scanP s r'.length (s.size - r'.length) (false, false, 0) ∧ cutsP s r.length i fr q sl (d : Int) = cutsP s r'.length (s.size - r'.length) fr false false 0
    | none => closedP (scanP s r.length i (q, sl, (d : Int))).1 (scanP s r.length i (q, sl, (d : Int))).2.1 (scanP s r.length i (q, sl, (d : Int))).2.2 = false
  | [], i, sl, d, h, ho => by
    have e : behL q sl [] d = none := by cases sl <;> rfl
    rw [e]
    exact closed_open ho
  | c :: r, i, sl, d, h, ho => by
    obtain ⟨h1, h2, h3, _⟩ := at_cons h
    have hsz : s.size - r.length = i + 1 := by
      have := congrArg List.length h3
      rw [List.length_drop, tl_length] at this
      omega
    have hcl := closed_open (sl := sl) ho
    have e1 : scanP s (c :: r).length i (q, sl, (d : Int)) = scanP s r.length (i + 1) (seeP q sl (d : Int) (c.toNat : Int)) := by
      simp only [List.length_cons, scanP, h2]
    have e2 : cutsP s (c :: r).length i fr q sl (d : Int) = cutsP s r.length (i + 1) fr (seeP q sl (d : Int) (c.toNat : Int)).1 (seeP q sl (d : Int) (c.toNat : Int)).2.1 (seeP q sl (d : Int) (c.toNat : Int)).2.2 := by
      simp only [List.length_cons, cutsP, h2]
      rw [if_neg (by rw [hcl]; simp)]
    rw [e1, e2]
    cases sl with
    | true =>
      have e3 : seeP q true (d : Int) (c.toNat : Int) = (q, false, (d : Int)) := by simp [seeP]
      have e4 : behL q true (c :: r) d = behL q false r d := rfl
      rw [e3, e4]
      exact scan_open s fr q r (i + 1) false d h3 ho
    | false =>
      by_cases a : c = 92
      · have e3 : seeP q false (d : Int) (c.toNat : Int) = (q, true, (d : Int)) := by
          unfold seeP
          rw [if_neg (by simp), if_pos ((u92' c).2 a)]
          rcases ho with ⟨rfl, _⟩ | ⟨rfl, hd⟩
          · rfl
          · have : decide ((0 : Int) < (d : Int)) = true := decide_eq_true (by omega)
            rw [this]; rfl
        have e4 : behL q false (c :: r) d = behL q true r d := by simp only [behL]; rw [if_pos a]
        rw [e3, e4]
        exact scan_open s fr q r (i + 1) true d h3 ho
      rcases ho with ⟨rfl, hd⟩ | ⟨rfl, hd⟩
      · subst hd
        by_cases b : c = 34
        · have e3 : seeP true false ((0 : Nat) : Int) (c.toNat : Int) = (false, false, 0) := by
            unfold seeP
            rw [if_neg (by simp), if_neg (by rw [u92']; exact a), if_pos rfl]
            have : ((c.toNat : Int) != 34) = false := by rw [(u34' c).2 b]; rfl
            rw [this]; rfl
          have e4 : behL true false (c :: r) 0 = some r := by simp only [behL]; rw [if_neg a, if_pos trivial, if_pos b]
          rw [e3, e4]
          dsimp only
          rw [hsz]
          exact ⟨rfl, rfl⟩
        · have e3 : seeP true false ((0 : Nat) : Int) (c.toNat : Int) = (true, false, ((0 : Nat) : Int)) := by
            unfold seeP
            rw [if_neg (by simp), if_neg (by rw [u92']; exact a), if_pos rfl]
            have : ((c.toNat : Int) != 34) = true := bne_iff_ne.mpr (by rw [ne_eq, u34']; exact b)
            rw [this]
          have e4 : behL true false (c :: r) 0 = behL true false r 0 := by simp only [behL]; rw [if_neg a, if_pos trivial, if_neg b]
          rw [e3, e4]
          exact scan_open s fr true r (i + 1) false 0 h3 (.inl ⟨rfl, rfl⟩)
      · have e5 : seeP false false (d : Int) (c.toNat : Int) = if (c.toNat : Int) = 40 then (false, false, (d : Int) + 1) else if 0 < (d : Int) ∧ (c.toNat : Int) = 41 then (false, false, (d : Int) - 1) else if (d : Int) = 0 ∧ (c.toNat : Int) = 34 then (true, false, (d : Int)) else (false, false, (d : Int)) := by
          unfold seeP
          rw [if_neg (by simp), if_neg (by rw [u92']; exact a), if_neg (by simp)]
        by_cases b : c = 40
        · have e3 : seeP false false (d : Int) (c.toNat : Int) = (false, false, ((d + 1 : Nat) : Int)) := by rw [e5, if_pos ((u40 c).2 b)]; simp
          have e4 : behL false false (c :: r) d = behL false false r (d + 1) := by simp only [behL]; rw [if_neg a, if_neg (by simp), if_pos b]
          rw [e3, e4]
          exact scan_open s fr false r (i + 1) false (d + 1) h3 (.inr ⟨rfl, by omega⟩)
        by_cases b2 : c = 41
        · have e3 : seeP false false (d : Int) (c.toNat : Int) = (false, false, ((d - 1 : Nat) : Int)) := by
            rw [e5, if_neg (by rw [u40]; exact b), if_pos ⟨by omega, (u41 c).2 b2⟩]
            have : (d : Int) - 1 = ((d - 1 : Nat) : Int) := by omega
            rw [this]
          by_cases b3 : d = 1
          · have e4 : behL false false (c :: r) d = some r := by simp only [behL]; rw [if_neg a, if_neg (by simp), if_neg b, if_pos b2, if_pos b3]
            rw [e3, e4]
            dsimp only
            rw [hsz]
            subst b3
            exact ⟨rfl, rfl⟩
          · have e4 : behL false false (c :: r) d = behL false false r (d - 1) := by simp only [behL]; rw [if_neg a, if_neg (by simp), if_neg b, if_pos b2, if_neg b3]
            rw [e3, e4]
            exact scan_open s fr false r (i + 1) false (d - 1) h3 (.inr ⟨rfl, by omega⟩)
        · have e3 : seeP false false (d : Int) (c.toNat : Int) = (false, false, (d : Int)) := by
            rw [e5, if_neg (by rw [u40]; exact b), if_neg (by rw [u41]; exact fun h => b2 h.2), if_neg (by omega)]
          have e4 : behL false false (c :: r) d = behL false false r d := by simp only [behL]; rw [if_neg a, if_neg (by simp), if_neg b, if_neg b2]
          rw [e3, e4]
          exact scan_open s fr false r (i + 1) false d h3 (.inr ⟨rfl, hd⟩)
/-- The reference's answer to where an open text ends. -/
def behR (s : ByteArray) (o : Option (List UInt8)) : Int := match o with | some r => ((s.size - r.length : Nat) : Int) | none => -1
/-- The reference's loop inside an open text. -/
theorem beh_loop (s : ByteArray) (hs : s.size ≤ 1000000000) (at_ : Nat) (q : Bool) : ∀ (n : Nat) (r : List UInt8) (i d : Nat), r.length ≤ n → (tl s).drop i = r → at_ < i → i ≤ s.size + 1 → OpenS q d → d ≤ i →
    Ev (fun k => abutmentref07_Behind.l0 k s (at_ : Int) q (d : Int) (i : Int)) (behR s (behL q false r d))
  | n, [], i, d, hn, h, ha, hi, ho, hdi => by
    have h1 := at_nil h
    exact Ev.step (f := fun _ => some (-1)) (fun k => by simp only [abutmentref07_Behind.l0]; rw [if_neg (by omega)]) (Ev.now _)
  | 0, c :: r, i, d, hn, h, ha, hi, ho, hdi => by simp at hn
  | n + 1, c :: r, i, d, hn, h, ha, hi, ho, hdi => by
    obtain ⟨h1, h2, h3, _⟩ := at_cons h
    have hw := Aside0.mk (wrap_succ h1 (show s.size ≤ 9223372036854775807 by omega))
    have hn2 : r.length ≤ n := by simp at hn; omega
    have hsz : s.size - r.length = i + 1 := by
      have := congrArg List.length h3
      rw [List.length_drop, tl_length] at this
      omega
    by_cases a : c = 92
    · have hw2 : Aside0 (wrap64 (((i + 1 : Nat) : Int) + 1) = ((i + 2 : Nat) : Int)) := ⟨by rw [wrap_small (by omega) (by omega)]; omega⟩
      have e : behL q false (c :: r) d = behL q true r d := by simp only [behL]; rw [if_pos a]
      rw [e]
      refine Ev.step (f := fun k => abutmentref07_Behind.l0 k s (at_ : Int) q (d : Int) ((i + 2 : Nat) : Int)) (fun k => by
        simp only [abutmentref07_Behind.l0]; rw [if_pos (by omega), if_pos (by omega), h2, if_pos ((u92' c).2 a), hw.out, hw2.out]) ?_
      cases r with
      | nil => exact beh_loop s hs at_ q n [] (i + 2) d (by simp) (by rw [← List.drop_drop (i := 1) (j := i + 1), h3]; rfl) (by omega) (by omega) ho (by omega)
      | cons x r =>
        obtain ⟨g1, g2, g3, _⟩ := at_cons h3
        exact beh_loop s hs at_ q n r (i + 2) d (by simp at hn; omega) g3 (by omega) (by omega) ho (by omega)
    rcases ho with ⟨rfl, hd⟩ | ⟨rfl, hd⟩
    · subst hd
      by_cases b : c = 34
      · have e : behL true false (c :: r) 0 = some r := by simp only [behL]; rw [if_neg a, if_pos trivial, if_pos b]
        rw [e]
        unfold behR
        simp only
        rw [hsz]
        refine Ev.step (f := fun k => abutmentref07_Behind.j1 k s (at_ : Int) true ((0 : Nat) : Int) (i : Int) true) (fun k => by
          simp only [abutmentref07_Behind.l0]; rw [if_pos (by omega), if_pos (by omega), h2, if_neg (by rw [u92']; exact a), if_pos trivial, if_pos (by omega), (u34' c).2 b]; rfl) ?_
        exact Ev.step (f := fun _ => some ((i + 1 : Nat) : Int)) (fun k => by simp only [abutmentref07_Behind.j1]; rw [if_pos trivial, hw.out]) (Ev.now _)
      · have e : behL true false (c :: r) 0 = behL true false r 0 := by simp only [behL]; rw [if_neg a, if_pos trivial, if_neg b]
        rw [e]
        have hb : ((c.toNat : Int) == 34) = false := beq_eq_false_iff_ne.mpr (by rw [ne_eq, u34']; exact b)
        refine Ev.step (f := fun k => abutmentref07_Behind.j1 k s (at_ : Int) true ((0 : Nat) : Int) (i : Int) false) (fun k => by
          simp only [abutmentref07_Behind.l0]; rw [if_pos (by omega), if_pos (by omega), h2, if_neg (by rw [u92']; exact a), if_pos trivial, if_pos (by omega), hb]) ?_
        refine Ev.step (f := fun k => abutmentref07_Behind.j2 k s (at_ : Int) true ((0 : Nat) : Int) (i : Int) false) (fun k => by simp only [abutmentref07_Behind.j1]; rw [if_neg (by simp), if_pos trivial]) ?_
        refine Ev.step (f := fun k => abutmentref07_Behind.j3 k s (at_ : Int) true ((0 : Nat) : Int) (i : Int) false) (fun k => by simp only [abutmentref07_Behind.j2]; rw [if_neg (by simp), if_pos trivial]) ?_
        refine Ev.step (f := fun k => abutmentref07_Behind.l0 k s (at_ : Int) true ((0 : Nat) : Int) ((i + 1 : Nat) : Int)) (fun k => by simp only [abutmentref07_Behind.j3]; rw [if_neg (by simp), hw.out]) ?_
        exact beh_loop s hs at_ true n r (i + 1) 0 hn2 h3 (by omega) (by omega) (.inl ⟨rfl, rfl⟩) (by omega)
    · have pre : ∀ R, Ev (fun k => abutmentref07_Behind.j1 k s (at_ : Int) false (d : Int) (i : Int) false) R → Ev (fun k => abutmentref07_Behind.l0 k s (at_ : Int) false (d : Int) (i : Int)) R := fun R hR =>
        Ev.step (fun k => by simp only [abutmentref07_Behind.l0]; rw [if_pos (by omega), if_pos (by omega), h2, if_neg (by rw [u92']; exact a), if_neg (by simp)]) hR
      have pre2 : ∀ R, Ev (fun k => abutmentref07_Behind.j2 k s (at_ : Int) false (d : Int) (i : Int) ((c.toNat : Int) == 40)) R → Ev (fun k => abutmentref07_Behind.j1 k s (at_ : Int) false (d : Int) (i : Int) false) R := fun R hR =>
        Ev.step (fun k => by simp only [abutmentref07_Behind.j1]; rw [if_neg (by simp), if_neg (by simp), if_pos (by omega), if_pos (by omega), h2]) hR
      refine pre _ (pre2 _ ?_)
      by_cases b : c = 40
      · have e : behL false false (c :: r) d = behL false false r (d + 1) := by simp only [behL]; rw [if_neg a, if_neg (by simp), if_pos b]
        have hb : ((c.toNat : Int) == 40) = true := beq_iff_eq.mpr ((u40 c).2 b)
        have hwd : Aside0 (wrap64 ((d : Int) + 1) = ((d + 1 : Nat) : Int)) := ⟨by rw [wrap_small (by omega) (by omega)]; omega⟩
        rw [e, hb]
        refine Ev.step (f := fun k => abutmentref07_Behind.l0 k s (at_ : Int) false ((d + 1 : Nat) : Int) ((i + 1 : Nat) : Int)) (fun k => by simp only [abutmentref07_Behind.j2]; rw [if_pos trivial, hwd.out, hw.out]) ?_
        exact beh_loop s hs at_ false n r (i + 1) (d + 1) hn2 h3 (by omega) (by omega) (.inr ⟨rfl, by omega⟩) (by omega)
      · have hb : ((c.toNat : Int) == 40) = false := beq_eq_false_iff_ne.mpr (by rw [ne_eq, u40]; exact b)
        rw [hb]
        refine Ev.step (f := fun k => abutmentref07_Behind.j3 k s (at_ : Int) false (d : Int) (i : Int) ((c.toNat : Int) == 41)) (fun k => by simp only [abutmentref07_Behind.j2]; rw [if_neg (by simp), if_neg (by simp), if_pos (by omega), if_pos (by omega), h2]) ?_
        by_cases b2 : c = 41
        · have hb2 : ((c.toNat : Int) == 41) = true := beq_iff_eq.mpr ((u41 c).2 b2)
          have hwd : Aside0 (wrap64 ((d : Int) - 1) = ((d - 1 : Nat) : Int)) := ⟨by rw [wrap_small (by omega) (by omega)]; omega⟩
          rw [hb2]
          by_cases b3 : d = 1
          · have e : behL false false (c :: r) d = some r := by simp only [behL]; rw [if_neg a, if_neg (by simp), if_neg b, if_pos b2, if_pos b3]
            rw [e]
            unfold behR
            simp only
            rw [hsz]
            exact Ev.step (f := fun _ => some ((i + 1 : Nat) : Int)) (fun k => by simp only [abutmentref07_Behind.j3]; rw [if_pos trivial, hwd.out, if_pos (by omega), hw.out]) (Ev.now _)
          · have e : behL false false (c :: r) d = behL false false r (d - 1) := by simp only [behL]; rw [if_neg a, if_neg (by simp), if_neg b, if_pos b2, if_neg b3]
            rw [e]
            refine Ev.step (f := fun k => abutmentref07_Behind.l0 k s (at_ : Int) false ((d - 1 : Nat) : Int) ((i + 1 : Nat) : Int)) (fun k => by simp only [abutmentref07_Behind.j3]; rw [if_pos trivial, hwd.out, if_neg (by omega), hw.out]) ?_
            exact beh_loop s hs at_ false n r (i + 1) (d - 1) hn2 h3 (by omega) (by omega) (.inr ⟨rfl, by omega⟩) (by omega)
        · have hb2 : ((c.toNat : Int) == 41) = false := beq_eq_false_iff_ne.mpr (by rw [ne_eq, u41]; exact b2)
          have e : behL false false (c :: r) d = behL false false r d := by simp only [behL]; rw [if_neg a, if_neg (by simp), if_neg b, if_neg b2]
          rw [e, hb2]
          refine Ev.step (f := fun k => abutmentref07_Behind.l0 k s (at_ : Int) false (d : Int) ((i + 1 : Nat) : Int)) (fun k => by simp only [abutmentref07_Behind.j3]; rw [if_neg (by simp), hw.out]) ?_
          exact beh_loop s hs at_ false n r (i + 1) d hn2 h3 (by omega) (by omega) (.inr ⟨rfl, hd⟩) (by omega)
theorem ev_behind_q (s : ByteArray) (hs : s.size ≤ 1000000000) (i : Nat) (r : List UInt8) (h : (tl s).drop i = 34 :: r) : Ev (fun k => abutmentref07_Behind.f k s (i : Int)) (behR s (behL true false r 0)) := by
  obtain ⟨h1, h2, h3, _⟩ := at_cons h
  have h2 : bt s (i : Int) = 34 := h2
  have hw := Aside0.mk (wrap_succ h1 (show s.size ≤ 9223372036854775807 by omega))
  refine Ev.congr (f := fun k => abutmentref07_Behind.l0 k s (i : Int) true ((0 : Nat) : Int) (i : Int)) (fun k => by unfold abutmentref07_Behind.f; rw [if_pos (by omega), if_pos (by omega), h2]; rfl) ?_
  refine Ev.step (f := fun k => abutmentref07_Behind.j1 k s (i : Int) true ((0 : Nat) : Int) (i : Int) false) (fun k => by
    simp only [abutmentref07_Behind.l0]; rw [if_pos (by omega), if_pos (by omega), h2, if_neg (by decide), if_pos trivial, if_neg (by omega)]) ?_
  refine Ev.step (f := fun k => abutmentref07_Behind.j2 k s (i : Int) true ((0 : Nat) : Int) (i : Int) false) (fun k => by simp only [abutmentref07_Behind.j1]; rw [if_neg (by simp), if_pos trivial]) ?_
  refine Ev.step (f := fun k => abutmentref07_Behind.j3 k s (i : Int) true ((0 : Nat) : Int) (i : Int) false) (fun k => by simp only [abutmentref07_Behind.j2]; rw [if_neg (by simp), if_pos trivial]) ?_
  refine Ev.step (f := fun k => abutmentref07_Behind.l0 k s (i : Int) true ((0 : Nat) : Int) ((i + 1 : Nat) : Int)) (fun k => by simp only [abutmentref07_Behind.j3]; rw [if_neg (by simp), hw.out]) ?_
  exact beh_loop s hs i true r.length r (i + 1) 0 (Nat.le_refl _) h3 (by omega) (by omega) (.inl ⟨rfl, rfl⟩) (by omega)
theorem ev_behind_p (s : ByteArray) (hs : s.size ≤ 1000000000) (i : Nat) (r : List UInt8) (h : (tl s).drop i = 40 :: r) : Ev (fun k => abutmentref07_Behind.f k s (i : Int)) (behR s (behL false false r 1)) := by
  obtain ⟨h1, h2, h3, _⟩ := at_cons h
  have h2 : bt s (i : Int) = 40 := h2
  have hw0 : Aside0 (wrap64 (((0 : Nat) : Int) + 1) = ((1 : Nat) : Int)) := ⟨by rw [wrap_small (by omega) (by omega)]; rfl⟩
  have hw := Aside0.mk (wrap_succ h1 (show s.size ≤ 9223372036854775807 by omega))
  refine Ev.congr (f := fun k => abutmentref07_Behind.l0 k s (i : Int) false ((0 : Nat) : Int) (i : Int)) (fun k => by unfold abutmentref07_Behind.f; rw [if_pos (by omega), if_pos (by omega), h2]; rfl) ?_
  refine Ev.step (f := fun k => abutmentref07_Behind.j1 k s (i : Int) false ((0 : Nat) : Int) (i : Int) false) (fun k => by
    simp only [abutmentref07_Behind.l0]; rw [if_pos (by omega), if_pos (by omega), h2, if_neg (by decide), if_neg (by simp)]) ?_
  refine Ev.step (f := fun k => abutmentref07_Behind.j2 k s (i : Int) false ((0 : Nat) : Int) (i : Int) true) (fun k => by simp only [abutmentref07_Behind.j1]; rw [if_neg (by simp), if_neg (by simp), if_pos (by omega), if_pos (by omega), h2]; rfl) ?_
  refine Ev.step (f := fun k => abutmentref07_Behind.l0 k s (i : Int) false ((1 : Nat) : Int) ((i + 1 : Nat) : Int)) (fun k => by simp only [abutmentref07_Behind.j2]; rw [if_pos trivial, hw.out, hw0.out]) ?_
  exact beh_loop s hs i false r.length r (i + 1) 1 (Nat.le_refl _) h3 (by omega) (by omega) (.inr ⟨rfl, by omega⟩) (by omega)
theorem pack_loop (L : List ByteArray) (hL : L.length ≤ 1000000001) (hx : ∀ x ∈ L, x.size ≤ 1000000000) : ∀ (r : List ByteArray) (j : Nat) (acc : List ByteArray), L.drop j = r → acc.length ≤ j → Ev (fun k => abutmentref07_Split.l1 k L acc (j : Int)) (acc ++ packL trimB r, true)
  | [], j, acc, h, ha => by
    have h1 : L.length ≤ j := by
      rcases Nat.lt_or_ge j L.length with h1 | h1
      · rw [List.drop_eq_getElem_cons h1] at h; cases h
      · exact h1
    have e : acc ++ packL trimB [] = acc := by simp [packL]
    rw [e]
    exact Ev.step (f := fun _ => some (acc, true)) (fun k => by simp only [abutmentref07_Split.l1]; rw [if_neg (by omega)]) (Ev.now _)
  | x :: r, j, acc, h, ha => by
    have h1 : j < L.length := by
      rcases Nat.lt_or_ge j L.length with h1 | h1
      · exact h1
      · rw [List.drop_eq_nil_of_le h1] at h; cases h
    have e := List.drop_eq_getElem_cons h1
    rw [h] at e
    injection e with e1 e2
    have hr : rdOf ByteArray.empty L (j : Int) = x := by simp [rdOf, h1, e1]
    have hxs : x.size ≤ 1000000000 := hx x (by rw [e1]; exact List.getElem_mem h1)
    have hw : Aside0 (wrap64 ((j : Int) + 1) = ((j + 1 : Nat) : Int)) := ⟨by rw [wrap_small (by omega) (by omega)]; omega⟩
    refine Ev.step (f := fun k => (abutmentref01_Trim.f k x).bind fun t => if t.toList = [] then abutmentref07_Split.l1 k L acc ((j + 1 : Nat) : Int) else if acc.length < 8796093022208 then abutmentref07_Split.l1 k L (acc ++ [t]) ((j + 1 : Nat) : Int) else none) (fun k => by
      simp only [abutmentref07_Split.l1]; rw [if_pos (by omega), if_pos (by omega), hr, hw.out]) ?_
    refine Ev.bind (ev_trim x (by omega)) ?_
    have hp : packL trimB (x :: r) = (if (trimB x).size = 0 then [] else [trimB x]) ++ packL trimB r := by
      unfold packL
      rw [List.map_cons, List.filter_cons]
      by_cases h0 : (trimB x).size = 0
      · rw [if_pos h0, if_neg (by simpa using h0)]; rfl
      · rw [if_neg h0, if_pos (by simpa using h0)]; rfl
    rw [hp]
    have hem : (trimB x).toList = [] ↔ (trimB x).size = 0 := by
      rw [ByteArray.toList_eq, ← data_length]
      exact List.length_eq_zero_iff.symm
    by_cases h0 : (trimB x).size = 0
    · simp only [if_pos (hem.2 h0), if_pos h0, List.nil_append]
      exact pack_loop L hL hx r (j + 1) acc e2.symm (by omega)
    · simp only [if_neg (fun h => h0 (hem.1 h)), if_neg h0, if_pos (show acc.length < 8796093022208 by omega)]
      have := pack_loop L hL hx r (j + 1) (acc ++ [trimB x]) e2.symm (by rw [List.length_append, List.length_singleton]; omega)
      rw [List.append_assoc] at this
      exact this
def clS (t : Bool × Bool × Int) : Bool := closedP t.1 t.2.1 t.2.2
/-- What the program's Split comes to from octet i on. -/
def splitR (s : ByteArray) (acc : List ByteArray) (n i fr : Nat) : List ByteArray × Bool :=
  if clS (scanP s n i (false, false, 0)) = true then (packL trimB (acc ++ cutsP s n i fr false false 0), true) else ([], false)
theorem split_loop (s : ByteArray) (hs : s.size ≤ 1000000000) : ∀ (n : Nat) (r : List UInt8) (i fr : Nat) (acc : List ByteArray), r.length ≤ n → (tl s).drop i = r → i ≤ s.size → fr ≤ i → acc.length ≤ i → (∀ x ∈ acc, x.size ≤ s.size) →
    Ev (fun k => abutmentref07_Split.l0 k s acc (fr : Int) (i : Int)) (splitR s acc r.length i fr)
  | n, [], i, fr, acc, hn, h, hi, hf, ha, hx => by
    have h1 := at_nil h
    have e : splitR s acc 0 i fr = (packL trimB (acc ++ [s.extract fr s.size]), true) := by
      unfold splitR
      simp only [scanP, cutsP]
      rfl
    rw [List.length_nil, e]
    refine Ev.step (f := fun k => abutmentref07_Split.l1 k (acc ++ [s.extract fr s.size]) [] ((0 : Nat) : Int)) (fun k => by
      simp only [abutmentref07_Split.l0]; rw [if_neg (by omega), if_pos (by omega), if_pos (by omega), if_pos (show acc.length < 8796093022208 by omega), Int.toNat_natCast]; rfl) ?_
    exact pack_loop _ (by rw [List.length_append, List.length_singleton]; omega) (fun x hx2 => by
      rcases List.mem_append.1 hx2 with h | h
      · have := hx x h; omega
      · rw [List.mem_singleton.1 h]; have := extract_size_le s fr s.size; omega) _ 0 [] rfl (Nat.le_refl _)
  | 0, c :: r, i, fr, acc, hn, h, hi, hf, ha, hx => by simp at hn
  | n + 1, c :: r, i, fr, acc, hn, h, hi, hf, ha, hx => by
    obtain ⟨h1, h2, h3, _⟩ := at_cons h
    have hw := Aside0.mk (wrap_succ h1 (show s.size ≤ 9223372036854775807 by omega))
    have hn2 : r.length ≤ n := by simp at hn; omega
    have es : scanP s (c :: r).length i (false, false, 0) = scanP s r.length (i + 1) (seeP false false 0 (c.toNat : Int)) := by simp only [List.length_cons, scanP, h2]
    -- an open text: it is gone past, or it has no end
    have open_ : ∀ (q : Bool) (d : Nat), OpenS q d → seeP false false 0 (c.toNat : Int) = (q, false, (d : Int)) → (c.toNat : Int) ≠ 44 →
        (∀ k, abutmentref07_Split.l0 (k + 1) s acc (fr : Int) (i : Int) = abutmentref07_Split.j1 k s acc (fr : Int) (i : Int) true) → Ev (fun k => abutmentref07_Behind.f k s (i : Int)) (behR s (behL q false r d)) → Ev (fun k => abutmentref07_Split.l0 k s acc (fr : Int) (i : Int)) (splitR s acc (c :: r).length i fr) := by
      intro q d ho hsee h44 hstep hev
      have hso := scan_open s fr q r (i + 1) false d h3 ho
      have ec : cutsP s (c :: r).length i fr false false 0 = cutsP s r.length (i + 1) fr q false (d : Int) := by
        simp only [List.length_cons, cutsP, h2]
        rw [if_neg (fun h => h44 h.1), hsee]
      refine Ev.step hstep (Ev.step (f := fun k => (abutmentref07_Behind.f k s (i : Int)).bind fun t => if t < 0 then some ([], false) else abutmentref07_Split.l0 k s acc (fr : Int) t) (fun k => by simp only [abutmentref07_Split.j1]; rw [if_pos trivial]) (Ev.bind hev ?_))
      unfold splitR
      rw [es, ec, hsee]
      cases hb : behL q false r d with
      | none =>
        rw [hb] at hso
        have hso : clS (scanP s r.length (i + 1) (q, false, (d : Int))) = false := hso
        rw [if_neg (by rw [hso]; simp)]
        unfold behR
        exact Ev.now _
      | some r' =>
        rw [hb] at hso
        obtain ⟨o1, o2⟩ := hso
        rw [o1, o2]
        obtain ⟨p, hp, hpe⟩ := behL_suffix q r false d r' hb
        rw [hpe] at h3
        obtain ⟨g1, g2⟩ := at_suffix h3 (by omega)
        unfold behR
        simp only
        have := split_loop s hs n r' (s.size - r'.length) fr acc (by rw [hpe, List.length_append] at hn2; omega) g1 (by omega) (by omega) (by omega) hx
        refine Ev.congr (fun k => ?_) this
        rw [if_neg (by omega)]
    by_cases a1 : c = 34
    · subst a1
      exact open_ true 0 (.inl ⟨rfl, rfl⟩) rfl (by decide) (fun k => by simp only [abutmentref07_Split.l0]; rw [if_pos (by omega), if_pos (by omega), h2, if_pos (by decide)]) (ev_behind_q s hs i r h)
    by_cases a2 : c = 40
    · subst a2
      exact open_ false 1 (.inr ⟨rfl, Nat.le_refl _⟩) rfl (by decide) (fun k => by simp only [abutmentref07_Split.l0]; rw [if_pos (by omega), if_pos (by omega), h2, if_neg (by decide)]; rfl) (ev_behind_p s hs i r h)
    have hsee : seeP false false 0 (c.toNat : Int) = (false, false, 0) := by
      unfold seeP
      rw [if_neg (by simp)]
      by_cases a : (c.toNat : Int) = 92
      · rw [if_pos a]; rfl
      · rw [if_neg a, if_neg (by simp), if_neg (by rw [u40]; exact a2), if_neg (by omega), if_neg (by rw [u34']; exact fun h => a1 h.2)]
    have hb : ((c.toNat : Int) == 40) = false := beq_eq_false_iff_ne.mpr (by rw [ne_eq, u40]; exact a2)
    refine Ev.step (f := fun k => abutmentref07_Split.j1 k s acc (fr : Int) (i : Int) false) (fun k => by simp only [abutmentref07_Split.l0]; rw [if_pos (by omega), if_pos (by omega), h2, if_neg (by rw [u34']; exact a1), hb]) ?_
    by_cases a3 : c = 44
    · have ec : cutsP s (c :: r).length i fr false false 0 = s.extract fr i :: cutsP s r.length (i + 1) (i + 1) false false 0 := by
        simp only [List.length_cons, cutsP, h2]
        rw [if_pos ⟨(u44 c).2 a3, rfl⟩]
      have er : splitR s acc (c :: r).length i fr = splitR s (acc ++ [s.extract fr i]) r.length (i + 1) (i + 1) := by
        unfold splitR
        rw [es, ec, hsee, List.append_assoc]
        rfl
      rw [er]
      refine Ev.step (f := fun k => abutmentref07_Split.l0 k s (acc ++ [s.extract fr i]) ((i + 1 : Nat) : Int) ((i + 1 : Nat) : Int)) (fun k => by
        simp only [abutmentref07_Split.j1]; rw [if_neg (by simp), if_pos (by omega), if_pos (by omega), h2, if_pos ((u44 c).2 a3), if_pos (by omega), if_pos (by omega), if_pos (by omega), if_pos (show acc.length < 8796093022208 by omega), Int.toNat_natCast, Int.toNat_natCast, hw.out]) ?_
      exact split_loop s hs n r (i + 1) (i + 1) _ hn2 h3 (by omega) (Nat.le_refl _) (by rw [List.length_append, List.length_singleton]; omega) (fun x hx2 => by
        rcases List.mem_append.1 hx2 with h | h
        · exact hx x h
        · rw [List.mem_singleton.1 h]; exact extract_size_le s fr i)
    · have ec : cutsP s (c :: r).length i fr false false 0 = cutsP s r.length (i + 1) fr false false 0 := by
        simp only [List.length_cons, cutsP, h2]
        rw [if_neg (fun h => a3 ((u44 c).1 h.1)), hsee]
      have er : splitR s acc (c :: r).length i fr = splitR s acc r.length (i + 1) fr := by
        unfold splitR
        rw [es, ec, hsee]
      rw [er]
      refine Ev.step (f := fun k => abutmentref07_Split.l0 k s acc (fr : Int) ((i + 1 : Nat) : Int)) (fun k => by
        simp only [abutmentref07_Split.j1]; rw [if_neg (by simp), if_pos (by omega), if_pos (by omega), h2, if_neg (by rw [u44]; exact a3), hw.out]) ?_
      exact split_loop s hs n r (i + 1) fr acc hn2 h3 (by omega) (by omega) (by omega) hx
/-- Both Splits answer alike. -/
theorem ev_split (s : ByteArray) (hs : s.size ≤ 1000000000) : ∃ l ok, lists_Split.f s = some (l, ok) ∧ Ev (fun k => abutmentref07_Split.f k s) (l, ok) := by
  have h := split_loop s hs (tl s).length (tl s) 0 0 [] (Nat.le_refl _) rfl (Nat.zero_le _) (Nat.le_refl _) (Nat.le_refl _) (by simp)
  rw [tl_length] at h
  refine ⟨(splitR s [] s.size 0 0).1, (splitR s [] s.size 0 0).2, ?_, h⟩
  unfold lists_Split.f splitR elemsP
  rw [if_pos (by omega), show endsP s = clS (scanP s s.size 0 (false, false, 0)) from rfl]
  by_cases hc : clS (scanP s s.size 0 (false, false, 0)) = true
  · rw [if_pos hc, if_pos hc]; rfl
  · rw [if_neg hc, if_neg hc]
end Go.Proofs.Ytjnhghplfdiijaa.Q

namespace Go.Proofs.Ytjnhghplfdiijaa.Q
open Go.RowKit Go.Proofs.YtjnhghplfdiijaaW.PrintWords Go.Proofs.YtjnhghplfdiijaaW.PrintLast Go.Proofs.YtjnhghplfdiijaaW.PrintMore
set_option linter.unusedVariables false
set_option linter.unusedSimpArgs false
section
theorem at_list {L : List ByteArray} {j : Nat} {x : ByteArray} {r : List ByteArray} (h : L.drop j = x :: r) : j < L.length ∧ rdOf ByteArray.empty L (j : Int) = x ∧ L.drop (j + 1) = r ∧ x ∈ L := by
  have h1 : j < L.length := by
    rcases Nat.lt_or_ge j L.length with h1 | h1
    · exact h1
    · rw [List.drop_eq_nil_of_le h1] at h; cases h
  have e := List.drop_eq_getElem_cons h1
  rw [h] at e
  injection e with e1 e2
  exact ⟨h1, by simp [rdOf, h1, e1], e2.symm, by rw [e1]; exact List.getElem_mem h1⟩
theorem at_list_nil {L : List ByteArray} {j : Nat} (h : L.drop j = []) : L.length ≤ j := by
  rcases Nat.lt_or_ge j L.length with h1 | h1
  · rw [List.drop_eq_getElem_cons h1] at h; cases h
  · exact h1
end
/-- What the pieces of a text are, and whether it ends well. -/
theorem split_both (s : ByteArray) (hs : s.size ≤ 900000) : ∃ L ok, lists_Split.f s = some (L, ok) ∧ Ev (fun k => abutmentref07_Split.f k s) (L, ok) ∧ L.length ≤ 1000000 ∧ (∀ x ∈ L, x.size ≤ 100000000) := by
  obtain ⟨L, ok, h1, h2⟩ := ev_split s (by omega)
  obtain ⟨_, h3, h4⟩ := split_sizes h1
  exact ⟨L, ok, h1, h2, by omega, fun x hx => by have := h4 x hx; omega⟩
end Go.Proofs.Ytjnhghplfdiijaa.Q
