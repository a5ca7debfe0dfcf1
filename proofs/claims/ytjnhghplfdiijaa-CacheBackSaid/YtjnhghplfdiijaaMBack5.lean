/- Back, part 5: contracts of functions and plain laws, one behind the other (joined by wip/merge.py out of: Q9 Hcache8 LawCacheBack). -/
import Derived.Test.YtjnhghplfdiijaaMBack0
import Derived.Test.YtjnhghplfdiijaaMBack1
import Derived.Test.YtjnhghplfdiijaaMBack2
import Derived.Test.YtjnhghplfdiijaaMBack3
import Derived.Test.YtjnhghplfdiijaaMBack4
import Derived.Test.YtjnhghplfdiijaaRows
import Derived.WalkKit
import Derived.ProofKit
import Derived.OpenShut
import Derived.ShutString
import Derived.ChangeOld
import Derived.Below
import Derived.SizedLaws
import Derived.Carry
namespace Go.Proofs.Ytjnhghplfdiijaa.Q
open Go.RowKit Go.Proofs.YtjnhghplfdiijaaW.PrintWords Go.Proofs.YtjnhghplfdiijaaW.PrintLast Go.Proofs.YtjnhghplfdiijaaW.PrintMore
attribute [local go_sem] max2_int min2_int max_two min_two max_three min_three max_four min_four
set_option linter.unusedVariables false
set_option linter.unusedSimpArgs false
def abutmentlaw21_CacheBack.f (k : Nat) (a0 : ByteArray) : Option (Bool) := if 0 ≤ (mn (a0.size : Int) 1000) then (if (mn (a0.size : Int) 1000) ≤ (a0.size : Int) then ((cache_Parse.f k (a0.extract 0 ((mn (a0.size : Int) 1000) : Int).toNat)).bind fun bt101 => (if bt101.2 = true then ((cache_Text.f k bt101.1).bind fun bt106 => ((cache_Parse.f k bt106.1).bind fun bt108 => (if bt106.2 = true then (if bt108.2 = true then ((abutmentref21_Same.f k bt101.1 bt108.1).bind fun t112 => (if t112 = true then ((abutmentlaw21_lives.f k).bind fun t113 => (some t113)) else (some false))) else (some false)) else (some false)))) else (if (bt101.1.length : Int) = 0 then ((abutmentlaw21_lives.f k).bind fun t105 => (some t105)) else (some false)))) else (none)) else (none)
set_option maxHeartbeats 8000000 in
set_option maxRecDepth 100000 in
theorem abutmentlaw21_CacheBack.calls (k : Nat) (a0 : ByteArray) (r : Bool) (w : World) (h : abutmentlaw21_CacheBack.f k a0 = some r) :
    Calls Try.prog 9 #[.string a0] w fun e w' => e = .returned (.bool r) ∧ Below w.heap.size w w' := by
  have HB := Aside0.mk (Below.refl w.heap.size w)
  have H : (if 0 ≤ (mn (a0.size : Int) 1000) then (if (mn (a0.size : Int) 1000) ≤ (a0.size : Int) then ((cache_Parse.f k (a0.extract 0 ((mn (a0.size : Int) 1000) : Int).toNat)).bind fun bt101 => (if bt101.2 = true then ((cache_Text.f k bt101.1).bind fun bt106 => ((cache_Parse.f k bt106.1).bind fun bt108 => (if bt106.2 = true then (if bt108.2 = true then ((abutmentref21_Same.f k bt101.1 bt108.1).bind fun t112 => (if t112 = true then ((abutmentlaw21_lives.f k).bind fun t113 => (some t113)) else (some false))) else (some false)) else (some false)))) else (if (bt101.1.length : Int) = 0 then ((abutmentlaw21_lives.f k).bind fun t105 => (some t105)) else (some false)))) else (none)) else (none)) = some r := h
  clear h
  obtain ⟨ji2, hji2⟩ : ∃ j_ : Int, (mn (a0.size : Int) 1000) = j_ := ⟨_, rfl⟩
  replace H : (if 0 ≤ (ji2) then (if (ji2) ≤ (a0.size : Int) then ((cache_Parse.f k (a0.extract 0 ((ji2) : Int).toNat)).bind fun bt101 => (if bt101.2 = true then ((cache_Text.f k bt101.1).bind fun bt106 => ((cache_Parse.f k bt106.1).bind fun bt108 => (if bt106.2 = true then (if bt108.2 = true then ((abutmentref21_Same.f k bt101.1 bt108.1).bind fun t112 => (if t112 = true then ((abutmentlaw21_lives.f k).bind fun t113 => (some t113)) else (some false))) else (some false)) else (some false)))) else (if (bt101.1.length : Int) = 0 then ((abutmentlaw21_lives.f k).bind fun t105 => (some t105)) else (some false)))) else (none)) else (none)) = some r := by first | (rw [hji2] at H; exact H) | (simp only [hji2] at H ⊢; exact H)
  (try (have hji2h : ji2 ≤ 1000 := by (rw [← hji2]; unfold mn; (repeat' split) <;> omega)))
  (try (have hji2g : ji2 ≤ 64 := by omega))
  (try (have hji2l : 0 ≤ ji2 := by (rw [← hji2]; unfold mn; (repeat' split) <;> omega)))
  (try (have hji2m : 0 ≤ ji2 := by omega))
  have hji2_ : (if 1000 < (a0.size : Int) then 1000 else (a0.size : Int)) = ji2 := hji2
  by_cases c3 : 0 ≤ (ji2)
  · rw [if_pos c3] at H
    have c3b0 := eq_true c3
    have c3b1 : decide (0 ≤ (ji2)) = true := decide_eq_true c3
    clear c3
    by_cases c4 : (ji2) ≤ (a0.size : Int)
    · rw [if_pos c4] at H
      have c4b0 := eq_true c4
      have c4b1 : decide ((ji2) ≤ (a0.size : Int)) = true := decide_eq_true c4
      clear c4
      replace H := Option.bind_eq_some_iff.mp H
      obtain ⟨⟨t101, t102⟩, A50, H⟩ := H
      (try dsimp only at H)
      have A5 := Aside0.mk A50
      clear A50
      by_cases c6 : t102 = true
      · subst c6
        have H1 : ((cache_Text.f k t101).bind fun bt106 => ((cache_Parse.f k bt106.1).bind fun bt108 => (if bt106.2 = true then (if bt108.2 = true then ((abutmentref21_Same.f k t101 bt108.1).bind fun t112 => (if t112 = true then ((abutmentlaw21_lives.f k).bind fun t113 => (some t113)) else (some false))) else (some false)) else (some false)))) = some r := by rw [if_pos rfl] at H; exact H
        clear H
        have H := H1
        clear H1
        replace H := Option.bind_eq_some_iff.mp H
        obtain ⟨⟨t106, t107⟩, A70, H⟩ := H
        (try dsimp only at H)
        have A7 := Aside0.mk A70
        clear A70
        replace H := Option.bind_eq_some_iff.mp H
        obtain ⟨⟨t108, t109⟩, A80, H⟩ := H
        (try dsimp only at H)
        have A8 := Aside0.mk A80
        clear A80
        by_cases c9 : t107 = true
        · subst c9
          have H1 : (if t109 = true then ((abutmentref21_Same.f k t101 t108).bind fun t112 => (if t112 = true then ((abutmentlaw21_lives.f k).bind fun t113 => (some t113)) else (some false))) else (some false)) = some r := by rw [if_pos rfl] at H; exact H
          clear H
          have H := H1
          clear H1
          by_cases c10 : t109 = true
          · subst c10
            have H1 : ((abutmentref21_Same.f k t101 t108).bind fun t112 => (if t112 = true then ((abutmentlaw21_lives.f k).bind fun t113 => (some t113)) else (some false))) = some r := by rw [if_pos rfl] at H; exact H
            clear H
            have H := H1
            clear H1
            replace H := Option.bind_eq_some_iff.mp H
            obtain ⟨t112, A110, H⟩ := H
            (try dsimp only at H)
            have A11 := Aside0.mk A110
            clear A110
            by_cases c12 : t112 = true
            · subst c12
              have H1 : ((abutmentlaw21_lives.f k).bind fun t113 => (some t113)) = some r := by rw [if_pos rfl] at H; exact H
              clear H
              have H := H1
              clear H1
              replace H := Option.bind_eq_some_iff.mp H
              obtain ⟨t113, A130, H⟩ := H
              (try dsimp only at H)
              have A13 := Aside0.mk A130
              clear A130
              obtain rfl := Option.some.inj H
              go_enter Try.func9, Try.ntmps9
              go_wp2_with (first | ((with_reducible refine gate_callee (f := 43) rfl ?_); refine goesL_ (some 16) rfl rfl Try.func43 (by kernel_rfl) rfl #[.string (a0.extract 0 ((ji2) : Int).toNat)] rfl (by (try simp only [List.map_toArray, List.map_cons, List.map_nil]); first | done | (simp only [hji2]; rfl) | rfl | (simp only [List.length_drop, List.length_take]; rfl)) ?_; (with_reducible refine (cache_Parse.calls k (a0.extract 0 ((ji2) : Int).toNat) t101 true _ A5.out).mono ?_); rintro e w14 ⟨v103, rfl, ho0, hb⟩; refine ⟨_, rfl, ?_⟩; have n0_ := Aside0.mk (Kd.R_lower ho0 (below_size (by repeat (first | (with_reducible first | exact HB.out | apply below_alloc | apply pw_below_drewN | apply below_drew1) | exact HB.out)))); have n1_ := Aside0.mk (below_step (by repeat (first | (with_reducible first | exact HB.out | apply below_alloc | apply pw_below_drewN | apply below_drew1) | exact HB.out)) hb); clear HB; have HO104 := n0_; have HB := n1_; clear n0_ n1_; (try clear hb); (try clear hb2); (try clear hk); (try clear hi); (try clear ho0); obtain ⟨Ao15, co15, eo15⟩ := Kd.R_slice HO104.out; subst eo15) | ((with_reducible refine gate_callee (f := 45) rfl ?_); refine goesL_ (some 29) rfl rfl Try.func45 (by kernel_rfl) rfl #[.slice Ao15 t101.length co15] rfl (by (try simp only [List.map_toArray, List.map_cons, List.map_nil]); first | done | rfl | (simp only [List.length_drop, List.length_take]; rfl)) ?_; (with_reducible refine (cache_Text.calls k _ _ t101 t106 true _ ?side1 ?side2 A7.out).mono ?_); (case side1 => repeat (first | exact (Kd.R_reads' HO104.out).2.2 | (with_reducible refine Kd.C_alloc ?_ _) | (with_reducible refine Kd.C_drewN ?_ _) | (with_reducible refine Kd.C_drew ?_))); (case side2 => exact (Kd.R_reads' HO104.out).2.1); rintro e w16 ⟨rfl, hb⟩; refine ⟨_, rfl, ?_⟩; have n0_ := Aside0.mk (Kd.R_below (by (with_reducible repeat (first | apply Kd.R_alloc | apply Kd.R_drewN | apply Kd.R_drew)); exact HO104.out) hb); have n1_ := Aside0.mk (below_step (by repeat (first | (with_reducible first | exact HB.out | apply below_alloc | apply pw_below_drewN | apply below_drew1) | exact HB.out)) hb); clear HO104; clear HB; have HO104 := n0_; have HB := n1_; clear n0_ n1_; (try clear hb); (try clear hb2); (try clear hk); (try clear hi)) | ((with_reducible refine gate_callee (f := 43) rfl ?_); refine goesL_ (some 34) rfl rfl Try.func43 (by kernel_rfl) rfl #[.string t106] rfl (by (try simp only [List.map_toArray, List.map_cons, List.map_nil]); first | done | rfl | (simp only [List.length_drop, List.length_take]; rfl)) ?_; (with_reducible refine (cache_Parse.calls k t106 t108 true _ A8.out).mono ?_); rintro e w17 ⟨v110, rfl, ho0, hb⟩; refine ⟨_, rfl, ?_⟩; have n0_ := Aside0.mk (Kd.R_elder' (by (with_reducible repeat (first | apply Kd.R_alloc | apply Kd.R_drewN | apply Kd.R_drew)); exact HO104.out) (Kd.R_base ho0) hb); have n1_ := Aside0.mk (Kd.R_lower (Kd.R_new' ho0 (Kd.R_lt (by (with_reducible repeat (first | apply Kd.R_alloc | apply Kd.R_drewN | apply Kd.R_drew)); exact HO104.out))) (below_size (by repeat (first | (with_reducible first | exact HB.out | apply below_alloc | apply pw_below_drewN | apply below_drew1) | exact HB.out)))); have n2_ := Aside0.mk (below_step (by repeat (first | (with_reducible first | exact HB.out | apply below_alloc | apply pw_below_drewN | apply below_drew1) | exact HB.out)) hb); clear HO104; clear HB; have HO104 := n0_; have HO111 := n1_; have HB := n2_; clear n0_ n1_ n2_; (try clear hb); (try clear hb2); (try clear hk); (try clear hi); (try clear ho0); obtain ⟨Ao18, co18, eo18⟩ := Kd.R_slice HO111.out; subst eo18) | (go_at_call 36; (with_reducible refine (abutmentref21_Same.calls k _ _ t101 _ _ t108 true _ ?side1 ?side2 ?side3 ?side4 A11.out).mono ?_); (case side1 => repeat (first | exact (Kd.R_reads' HO104.out).2.2 | (with_reducible refine Kd.C_alloc ?_ _) | (with_reducible refine Kd.C_drewN ?_ _) | (with_reducible refine Kd.C_drew ?_))); (case side2 => exact (Kd.R_reads' HO104.out).2.1); (case side3 => repeat (first | exact (Kd.R_reads' HO111.out).2.2 | (with_reducible refine Kd.C_alloc ?_ _) | (with_reducible refine Kd.C_drewN ?_ _) | (with_reducible refine Kd.C_drew ?_))); (case side4 => exact (Kd.R_reads' HO111.out).2.1); rintro e w' ⟨rfl, ⟨nd, rfl⟩⟩) | (go_at_call 32; (with_reducible refine (abutmentlaw21_lives.calls k  t113 _ A13.out).mono ?_); rintro e w19 ⟨rfl, hb⟩; have n0_ := Aside0.mk (Kd.R_below (by (with_reducible repeat (first | apply Kd.R_alloc | apply Kd.R_drewN | apply Kd.R_drew)); exact HO104.out) hb); have n1_ := Aside0.mk (Kd.R_below (by (with_reducible repeat (first | apply Kd.R_alloc | apply Kd.R_drewN | apply Kd.R_drew)); exact HO111.out) hb); have n2_ := Aside0.mk (below_step (by repeat (first | (with_reducible first | exact HB.out | apply below_alloc | apply pw_below_drewN | apply below_drew1) | exact HB.out)) hb); clear HO104; clear HO111; clear HB; have HO104 := n0_; have HO111 := n1_; have HB := n2_; clear n0_ n1_ n2_; (try clear hb); (try clear hb2); (try clear hk); (try clear hi)))
              go_ret
              exact ⟨by first | rfl | (simp [errW_none, errW_some] <;> rfl) | (simp only [← hji2]; first | rfl | (simp [errW_none, errW_some] <;> rfl)) | (simp [*, errW_none, errW_some] <;> rfl), by repeat (first | (with_reducible first | exact HB.out | apply below_alloc | apply pw_below_drewN | apply below_drew1) | exact HB.out)⟩
            · replace c12 := Bool.eq_false_iff.mpr c12
              subst c12
              have H1 : (some false) = some r := by rw [if_neg (show ¬ (false = true) by decide)] at H; exact H
              clear H
              have H := H1
              clear H1
              obtain rfl := Option.some.inj H
              go_enter Try.func9, Try.ntmps9
              go_wp2_with (first | ((with_reducible refine gate_callee (f := 43) rfl ?_); refine goesL_ (some 16) rfl rfl Try.func43 (by kernel_rfl) rfl #[.string (a0.extract 0 ((ji2) : Int).toNat)] rfl (by (try simp only [List.map_toArray, List.map_cons, List.map_nil]); first | done | (simp only [hji2]; rfl) | rfl | (simp only [List.length_drop, List.length_take]; rfl)) ?_; (with_reducible refine (cache_Parse.calls k (a0.extract 0 ((ji2) : Int).toNat) t101 true _ A5.out).mono ?_); rintro e w20 ⟨v103, rfl, ho0, hb⟩; refine ⟨_, rfl, ?_⟩; have n0_ := Aside0.mk (Kd.R_lower ho0 (below_size (by repeat (first | (with_reducible first | exact HB.out | apply below_alloc | apply pw_below_drewN | apply below_drew1) | exact HB.out)))); have n1_ := Aside0.mk (below_step (by repeat (first | (with_reducible first | exact HB.out | apply below_alloc | apply pw_below_drewN | apply below_drew1) | exact HB.out)) hb); clear HB; have HO104 := n0_; have HB := n1_; clear n0_ n1_; (try clear hb); (try clear hb2); (try clear hk); (try clear hi); (try clear ho0); obtain ⟨Ao21, co21, eo21⟩ := Kd.R_slice HO104.out; subst eo21) | ((with_reducible refine gate_callee (f := 45) rfl ?_); refine goesL_ (some 29) rfl rfl Try.func45 (by kernel_rfl) rfl #[.slice Ao21 t101.length co21] rfl (by (try simp only [List.map_toArray, List.map_cons, List.map_nil]); first | done | rfl | (simp only [List.length_drop, List.length_take]; rfl)) ?_; (with_reducible refine (cache_Text.calls k _ _ t101 t106 true _ ?side1 ?side2 A7.out).mono ?_); (case side1 => repeat (first | exact (Kd.R_reads' HO104.out).2.2 | (with_reducible refine Kd.C_alloc ?_ _) | (with_reducible refine Kd.C_drewN ?_ _) | (with_reducible refine Kd.C_drew ?_))); (case side2 => exact (Kd.R_reads' HO104.out).2.1); rintro e w22 ⟨rfl, hb⟩; refine ⟨_, rfl, ?_⟩; have n0_ := Aside0.mk (Kd.R_below (by (with_reducible repeat (first | apply Kd.R_alloc | apply Kd.R_drewN | apply Kd.R_drew)); exact HO104.out) hb); have n1_ := Aside0.mk (below_step (by repeat (first | (with_reducible first | exact HB.out | apply below_alloc | apply pw_below_drewN | apply below_drew1) | exact HB.out)) hb); clear HO104; clear HB; have HO104 := n0_; have HB := n1_; clear n0_ n1_; (try clear hb); (try clear hb2); (try clear hk); (try clear hi)) | ((with_reducible refine gate_callee (f := 43) rfl ?_); refine goesL_ (some 34) rfl rfl Try.func43 (by kernel_rfl) rfl #[.string t106] rfl (by (try simp only [List.map_toArray, List.map_cons, List.map_nil]); first | done | rfl | (simp only [List.length_drop, List.length_take]; rfl)) ?_; (with_reducible refine (cache_Parse.calls k t106 t108 true _ A8.out).mono ?_); rintro e w23 ⟨v110, rfl, ho0, hb⟩; refine ⟨_, rfl, ?_⟩; have n0_ := Aside0.mk (Kd.R_elder' (by (with_reducible repeat (first | apply Kd.R_alloc | apply Kd.R_drewN | apply Kd.R_drew)); exact HO104.out) (Kd.R_base ho0) hb); have n1_ := Aside0.mk (Kd.R_lower (Kd.R_new' ho0 (Kd.R_lt (by (with_reducible repeat (first | apply Kd.R_alloc | apply Kd.R_drewN | apply Kd.R_drew)); exact HO104.out))) (below_size (by repeat (first | (with_reducible first | exact HB.out | apply below_alloc | apply pw_below_drewN | apply below_drew1) | exact HB.out)))); have n2_ := Aside0.mk (below_step (by repeat (first | (with_reducible first | exact HB.out | apply below_alloc | apply pw_below_drewN | apply below_drew1) | exact HB.out)) hb); clear HO104; clear HB; have HO104 := n0_; have HO111 := n1_; have HB := n2_; clear n0_ n1_ n2_; (try clear hb); (try clear hb2); (try clear hk); (try clear hi); (try clear ho0); obtain ⟨Ao24, co24, eo24⟩ := Kd.R_slice HO111.out; subst eo24) | (go_at_call 36; (with_reducible refine (abutmentref21_Same.calls k _ _ t101 _ _ t108 false _ ?side1 ?side2 ?side3 ?side4 A11.out).mono ?_); (case side1 => repeat (first | exact (Kd.R_reads' HO104.out).2.2 | (with_reducible refine Kd.C_alloc ?_ _) | (with_reducible refine Kd.C_drewN ?_ _) | (with_reducible refine Kd.C_drew ?_))); (case side2 => exact (Kd.R_reads' HO104.out).2.1); (case side3 => repeat (first | exact (Kd.R_reads' HO111.out).2.2 | (with_reducible refine Kd.C_alloc ?_ _) | (with_reducible refine Kd.C_drewN ?_ _) | (with_reducible refine Kd.C_drew ?_))); (case side4 => exact (Kd.R_reads' HO111.out).2.1); rintro e w' ⟨rfl, ⟨nd, rfl⟩⟩))
              go_ret
              exact ⟨by first | rfl | (simp [errW_none, errW_some] <;> rfl) | (simp only [← hji2]; first | rfl | (simp [errW_none, errW_some] <;> rfl)) | (simp [*, errW_none, errW_some] <;> rfl), by repeat (first | (with_reducible first | exact HB.out | apply below_alloc | apply pw_below_drewN | apply below_drew1) | exact HB.out)⟩
          · replace c10 := Bool.eq_false_iff.mpr c10
            subst c10
            have H1 : (some false) = some r := by rw [if_neg (show ¬ (false = true) by decide)] at H; exact H
            clear H
            have H := H1
            clear H1
            obtain rfl := Option.some.inj H
            go_enter Try.func9, Try.ntmps9
            go_wp2_with (first | ((with_reducible refine gate_callee (f := 43) rfl ?_); refine goesL_ (some 16) rfl rfl Try.func43 (by kernel_rfl) rfl #[.string (a0.extract 0 ((ji2) : Int).toNat)] rfl (by (try simp only [List.map_toArray, List.map_cons, List.map_nil]); first | done | (simp only [hji2]; rfl) | rfl | (simp only [List.length_drop, List.length_take]; rfl)) ?_; (with_reducible refine (cache_Parse.calls k (a0.extract 0 ((ji2) : Int).toNat) t101 true _ A5.out).mono ?_); rintro e w25 ⟨v103, rfl, ho0, hb⟩; refine ⟨_, rfl, ?_⟩; have n0_ := Aside0.mk (Kd.R_lower ho0 (below_size (by repeat (first | (with_reducible first | exact HB.out | apply below_alloc | apply pw_below_drewN | apply below_drew1) | exact HB.out)))); have n1_ := Aside0.mk (below_step (by repeat (first | (with_reducible first | exact HB.out | apply below_alloc | apply pw_below_drewN | apply below_drew1) | exact HB.out)) hb); clear HB; have HO104 := n0_; have HB := n1_; clear n0_ n1_; (try clear hb); (try clear hb2); (try clear hk); (try clear hi); (try clear ho0); obtain ⟨Ao26, co26, eo26⟩ := Kd.R_slice HO104.out; subst eo26) | ((with_reducible refine gate_callee (f := 45) rfl ?_); refine goesL_ (some 29) rfl rfl Try.func45 (by kernel_rfl) rfl #[.slice Ao26 t101.length co26] rfl (by (try simp only [List.map_toArray, List.map_cons, List.map_nil]); first | done | rfl | (simp only [List.length_drop, List.length_take]; rfl)) ?_; (with_reducible refine (cache_Text.calls k _ _ t101 t106 true _ ?side1 ?side2 A7.out).mono ?_); (case side1 => repeat (first | exact (Kd.R_reads' HO104.out).2.2 | (with_reducible refine Kd.C_alloc ?_ _) | (with_reducible refine Kd.C_drewN ?_ _) | (with_reducible refine Kd.C_drew ?_))); (case side2 => exact (Kd.R_reads' HO104.out).2.1); rintro e w27 ⟨rfl, hb⟩; refine ⟨_, rfl, ?_⟩; have n0_ := Aside0.mk (Kd.R_below (by (with_reducible repeat (first | apply Kd.R_alloc | apply Kd.R_drewN | apply Kd.R_drew)); exact HO104.out) hb); have n1_ := Aside0.mk (below_step (by repeat (first | (with_reducible first | exact HB.out | apply below_alloc | apply pw_below_drewN | apply below_drew1) | exact HB.out)) hb); clear HO104; clear HB; have HO104 := n0_; have HB := n1_; clear n0_ n1_; (try clear hb); (try clear hb2); (try clear hk); (try clear hi)) | ((with_reducible refine gate_callee (f := 43) rfl ?_); refine goesL_ (some 34) rfl rfl Try.func43 (by kernel_rfl) rfl #[.string t106] rfl (by (try simp only [List.map_toArray, List.map_cons, List.map_nil]); first | done | rfl | (simp only [List.length_drop, List.length_take]; rfl)) ?_; (with_reducible refine (cache_Parse.calls k t106 t108 false _ A8.out).mono ?_); rintro e w28 ⟨v110, rfl, ho0, hb⟩; refine ⟨_, rfl, ?_⟩; have n0_ := Aside0.mk (Kd.R_elder' (by (with_reducible repeat (first | apply Kd.R_alloc | apply Kd.R_drewN | apply Kd.R_drew)); exact HO104.out) (Kd.R_base ho0) hb); have n1_ := Aside0.mk (Kd.R_lower (Kd.R_new' ho0 (Kd.R_lt (by (with_reducible repeat (first | apply Kd.R_alloc | apply Kd.R_drewN | apply Kd.R_drew)); exact HO104.out))) (below_size (by repeat (first | (with_reducible first | exact HB.out | apply below_alloc | apply pw_below_drewN | apply below_drew1) | exact HB.out)))); have n2_ := Aside0.mk (below_step (by repeat (first | (with_reducible first | exact HB.out | apply below_alloc | apply pw_below_drewN | apply below_drew1) | exact HB.out)) hb); clear HO104; clear HB; have HO104 := n0_; have HO111 := n1_; have HB := n2_; clear n0_ n1_ n2_; (try clear hb); (try clear hb2); (try clear hk); (try clear hi); (try clear ho0)))
            go_ret
            exact ⟨by first | rfl | (simp [errW_none, errW_some] <;> rfl) | (simp only [← hji2]; first | rfl | (simp [errW_none, errW_some] <;> rfl)) | (simp [*, errW_none, errW_some] <;> rfl), by repeat (first | (with_reducible first | exact HB.out | apply below_alloc | apply pw_below_drewN | apply below_drew1) | exact HB.out)⟩
        · replace c9 := Bool.eq_false_iff.mpr c9
          subst c9
          have H1 : (some false) = some r := by rw [if_neg (show ¬ (false = true) by decide)] at H; exact H
          clear H
          have H := H1
          clear H1
          obtain rfl := Option.some.inj H
          go_enter Try.func9, Try.ntmps9
          go_wp2_with (first | ((with_reducible refine gate_callee (f := 43) rfl ?_); refine goesL_ (some 16) rfl rfl Try.func43 (by kernel_rfl) rfl #[.string (a0.extract 0 ((ji2) : Int).toNat)] rfl (by (try simp only [List.map_toArray, List.map_cons, List.map_nil]); first | done | (simp only [hji2]; rfl) | rfl | (simp only [List.length_drop, List.length_take]; rfl)) ?_; (with_reducible refine (cache_Parse.calls k (a0.extract 0 ((ji2) : Int).toNat) t101 true _ A5.out).mono ?_); rintro e w29 ⟨v103, rfl, ho0, hb⟩; refine ⟨_, rfl, ?_⟩; have n0_ := Aside0.mk (Kd.R_lower ho0 (below_size (by repeat (first | (with_reducible first | exact HB.out | apply below_alloc | apply pw_below_drewN | apply below_drew1) | exact HB.out)))); have n1_ := Aside0.mk (below_step (by repeat (first | (with_reducible first | exact HB.out | apply below_alloc | apply pw_below_drewN | apply below_drew1) | exact HB.out)) hb); clear HB; have HO104 := n0_; have HB := n1_; clear n0_ n1_; (try clear hb); (try clear hb2); (try clear hk); (try clear hi); (try clear ho0); obtain ⟨Ao30, co30, eo30⟩ := Kd.R_slice HO104.out; subst eo30) | ((with_reducible refine gate_callee (f := 45) rfl ?_); refine goesL_ (some 29) rfl rfl Try.func45 (by kernel_rfl) rfl #[.slice Ao30 t101.length co30] rfl (by (try simp only [List.map_toArray, List.map_cons, List.map_nil]); first | done | rfl | (simp only [List.length_drop, List.length_take]; rfl)) ?_; (with_reducible refine (cache_Text.calls k _ _ t101 t106 false _ ?side1 ?side2 A7.out).mono ?_); (case side1 => repeat (first | exact (Kd.R_reads' HO104.out).2.2 | (with_reducible refine Kd.C_alloc ?_ _) | (with_reducible refine Kd.C_drewN ?_ _) | (with_reducible refine Kd.C_drew ?_))); (case side2 => exact (Kd.R_reads' HO104.out).2.1); rintro e w31 ⟨rfl, hb⟩; refine ⟨_, rfl, ?_⟩; have n0_ := Aside0.mk (Kd.R_below (by (with_reducible repeat (first | apply Kd.R_alloc | apply Kd.R_drewN | apply Kd.R_drew)); exact HO104.out) hb); have n1_ := Aside0.mk (below_step (by repeat (first | (with_reducible first | exact HB.out | apply below_alloc | apply pw_below_drewN | apply below_drew1) | exact HB.out)) hb); clear HO104; clear HB; have HO104 := n0_; have HB := n1_; clear n0_ n1_; (try clear hb); (try clear hb2); (try clear hk); (try clear hi)) | ((with_reducible refine gate_callee (f := 43) rfl ?_); refine goesL_ (some 34) rfl rfl Try.func43 (by kernel_rfl) rfl #[.string t106] rfl (by (try simp only [List.map_toArray, List.map_cons, List.map_nil]); first | done | rfl | (simp only [List.length_drop, List.length_take]; rfl)) ?_; (with_reducible refine (cache_Parse.calls k t106 t108 t109 _ A8.out).mono ?_); rintro e w32 ⟨v110, rfl, ho0, hb⟩; refine ⟨_, rfl, ?_⟩; have n0_ := Aside0.mk (Kd.R_elder' (by (with_reducible repeat (first | apply Kd.R_alloc | apply Kd.R_drewN | apply Kd.R_drew)); exact HO104.out) (Kd.R_base ho0) hb); have n1_ := Aside0.mk (Kd.R_lower (Kd.R_new' ho0 (Kd.R_lt (by (with_reducible repeat (first | apply Kd.R_alloc | apply Kd.R_drewN | apply Kd.R_drew)); exact HO104.out))) (below_size (by repeat (first | (with_reducible first | exact HB.out | apply below_alloc | apply pw_below_drewN | apply below_drew1) | exact HB.out)))); have n2_ := Aside0.mk (below_step (by repeat (first | (with_reducible first | exact HB.out | apply below_alloc | apply pw_below_drewN | apply below_drew1) | exact HB.out)) hb); clear HO104; clear HB; have HO104 := n0_; have HO111 := n1_; have HB := n2_; clear n0_ n1_ n2_; (try clear hb); (try clear hb2); (try clear hk); (try clear hi); (try clear ho0)))
          go_ret
          exact ⟨by first | rfl | (simp [errW_none, errW_some] <;> rfl) | (simp only [← hji2]; first | rfl | (simp [errW_none, errW_some] <;> rfl)) | (simp [*, errW_none, errW_some] <;> rfl), by repeat (first | (with_reducible first | exact HB.out | apply below_alloc | apply pw_below_drewN | apply below_drew1) | exact HB.out)⟩
      · replace c6 := Bool.eq_false_iff.mpr c6
        subst c6
        have H1 : (if (t101.length : Int) = 0 then ((abutmentlaw21_lives.f k).bind fun t105 => (some t105)) else (some false)) = some r := by rw [if_neg (show ¬ (false = true) by decide)] at H; exact H
        clear H
        have H := H1
        clear H1
        by_cases c33 : (t101.length : Int) = 0
        · rw [if_pos c33] at H
          have c33b0 : ((t101.length : Int) == 0) = true := beq_iff_eq.mpr c33
          have c33b1 : ((t101.length : Int) != 0) = false := bne_eq_false_iff_eq.mpr c33
          clear c33
          replace H := Option.bind_eq_some_iff.mp H
          obtain ⟨t105, A340, H⟩ := H
          (try dsimp only at H)
          have A34 := Aside0.mk A340
          clear A340
          obtain rfl := Option.some.inj H
          go_enter Try.func9, Try.ntmps9
          go_wp2_with (first | ((with_reducible refine gate_callee (f := 43) rfl ?_); refine goesL_ (some 16) rfl rfl Try.func43 (by kernel_rfl) rfl #[.string (a0.extract 0 ((ji2) : Int).toNat)] rfl (by (try simp only [List.map_toArray, List.map_cons, List.map_nil]); first | done | (simp only [hji2]; rfl) | rfl | (simp only [List.length_drop, List.length_take]; rfl)) ?_; (with_reducible refine (cache_Parse.calls k (a0.extract 0 ((ji2) : Int).toNat) t101 false _ A5.out).mono ?_); rintro e w35 ⟨v103, rfl, ho0, hb⟩; refine ⟨_, rfl, ?_⟩; have n0_ := Aside0.mk (Kd.R_lower ho0 (below_size (by repeat (first | (with_reducible first | exact HB.out | apply below_alloc | apply pw_below_drewN | apply below_drew1) | exact HB.out)))); have n1_ := Aside0.mk (below_step (by repeat (first | (with_reducible first | exact HB.out | apply below_alloc | apply pw_below_drewN | apply below_drew1) | exact HB.out)) hb); clear HB; have HO104 := n0_; have HB := n1_; clear n0_ n1_; (try clear hb); (try clear hb2); (try clear hk); (try clear hi); (try clear ho0); obtain ⟨Ao36, co36, eo36⟩ := Kd.R_slice HO104.out; subst eo36) | (go_at_call 32; (with_reducible refine (abutmentlaw21_lives.calls k  t105 _ A34.out).mono ?_); rintro e w37 ⟨rfl, hb⟩; have n0_ := Aside0.mk (Kd.R_below (by (with_reducible repeat (first | apply Kd.R_alloc | apply Kd.R_drewN | apply Kd.R_drew)); exact HO104.out) hb); have n1_ := Aside0.mk (below_step (by repeat (first | (with_reducible first | exact HB.out | apply below_alloc | apply pw_below_drewN | apply below_drew1) | exact HB.out)) hb); clear HO104; clear HB; have HO104 := n0_; have HB := n1_; clear n0_ n1_; (try clear hb); (try clear hb2); (try clear hk); (try clear hi)))
          go_ret
          exact ⟨by first | rfl | (simp [errW_none, errW_some] <;> rfl) | (simp only [← hji2]; first | rfl | (simp [errW_none, errW_some] <;> rfl)) | (simp [*, errW_none, errW_some] <;> rfl), by repeat (first | (with_reducible first | exact HB.out | apply below_alloc | apply pw_below_drewN | apply below_drew1) | exact HB.out)⟩
        · rw [if_neg c33] at H
          have c33b0 : ((t101.length : Int) == 0) = false := beq_eq_false_iff_ne.mpr c33
          have c33b1 : ((t101.length : Int) != 0) = true := bne_iff_ne.mpr c33
          have c33b2 : ¬ (t101 = []) := fun h_ => c33 (by rw [h_]; rfl)
          obtain rfl := Option.some.inj H
          go_enter Try.func9, Try.ntmps9
          go_wp2_with (first | ((with_reducible refine gate_callee (f := 43) rfl ?_); refine goesL_ (some 16) rfl rfl Try.func43 (by kernel_rfl) rfl #[.string (a0.extract 0 ((ji2) : Int).toNat)] rfl (by (try simp only [List.map_toArray, List.map_cons, List.map_nil]); first | done | (simp only [hji2]; rfl) | rfl | (simp only [List.length_drop, List.length_take]; rfl)) ?_; (with_reducible refine (cache_Parse.calls k (a0.extract 0 ((ji2) : Int).toNat) t101 false _ A5.out).mono ?_); rintro e w38 ⟨v103, rfl, ho0, hb⟩; refine ⟨_, rfl, ?_⟩; have n0_ := Aside0.mk (Kd.R_lower ho0 (below_size (by repeat (first | (with_reducible first | exact HB.out | apply below_alloc | apply pw_below_drewN | apply below_drew1) | exact HB.out)))); have n1_ := Aside0.mk (below_step (by repeat (first | (with_reducible first | exact HB.out | apply below_alloc | apply pw_below_drewN | apply below_drew1) | exact HB.out)) hb); clear HB; have HO104 := n0_; have HB := n1_; clear n0_ n1_; (try clear hb); (try clear hb2); (try clear hk); (try clear hi); (try clear ho0); obtain ⟨Ao39, co39, eo39⟩ := Kd.R_slice HO104.out; subst eo39))
          go_ret
          exact ⟨by first | rfl | (simp [errW_none, errW_some] <;> rfl) | (simp only [← hji2]; first | rfl | (simp [errW_none, errW_some] <;> rfl)) | (simp [*, errW_none, errW_some] <;> rfl), by repeat (first | (with_reducible first | exact HB.out | apply below_alloc | apply pw_below_drewN | apply below_drew1) | exact HB.out)⟩
    · rw [if_neg c4] at H
      exact absurd H (by simp)
  · rw [if_neg c3] at H
    exact absurd H (by simp)
end Go.Proofs.Ytjnhghplfdiijaa.Q

namespace Go.Proofs.Ytjnhghplfdiijaa.Q
open Go.RowKit Go.Proofs.YtjnhghplfdiijaaW.PrintWords Go.Proofs.YtjnhghplfdiijaaW.PrintLast Go.Proofs.YtjnhghplfdiijaaW.PrintMore
set_option linter.unusedVariables false
set_option linter.unusedSimpArgs false
theorem ext_all (s : ByteArray) : s.extract 0 s.size = s := by
  apply tl_inj
  rw [tl_extract, List.drop_zero, Nat.sub_zero, ← tl_length, List.take_length]
theorem size_ne {s : ByteArray} (h : tl s ≠ []) : s.size ≠ 0 := by
  rw [← tl_length]
  exact fun e => h (List.length_eq_zero_iff.1 e)
theorem span_all {s : ByteArray} (h : (tl s).all tc = true) : spanN tcharI s = s.size := by
  rw [span_list, take_all h, tl_length]
theorem one_bare {s : ByteArray} (h0 : tl s ≠ []) (ha : (tl s).all tc = true) : oneR s = (lowerS s, ⟨#[]⟩, false, true) := by
  have hs := size_ne h0
  unfold oneR
  rw [span_all ha, if_pos (.inr rfl), ext_all, decide_eq_true (by omega)]
theorem one_set {w n t : ByteArray} (h0 : tl n ≠ []) (ha : (tl n).all tc = true) (hw : w = (n ++ (⟨#[61]⟩ : ByteArray)) ++ t) :
    oneR w = if 0 < spanN tcharI t then (lowerS n, t.extract 0 (spanN tcharI t), true, decide (spanN tcharI t = t.size)) else (lowerS n, (quotedR t).1, true, decide (0 < (quotedR t).2 ∧ (quotedR t).2 = (t.size : Int))) := by
  have hn := size_ne h0
  have e : tl w = tl n ++ 61 :: tl t := by rw [hw, tl_append, tl_append, List.append_assoc]; rfl
  have hz : w.size = n.size + 1 + t.size := by rw [← tl_length, e, List.length_append, List.length_cons, tl_length, tl_length]; omega
  have hsp : spanN tcharI w = n.size := by rw [span_list, e, take_stop ha (by decide), tl_length]
  have hd : (tl w).drop n.size = 61 :: tl t := by rw [e, ← tl_length n, List.drop_left' rfl]
  obtain ⟨_, h2, h3, _⟩ := at_cons hd
  have h2 : bt w (n.size : Int) = 61 := h2
  have hx : w.extract (n.size + 1) w.size = t := by
    apply tl_inj
    rw [show w.extract (n.size + 1) w.size = restS w (n.size + 1) from rfl, tl_restS, h3]
  have hy : w.extract 0 n.size = n := by
    apply tl_inj
    rw [tl_extract, List.drop_zero, Nat.sub_zero, e, ← tl_length n, List.take_left' rfl]
  unfold oneR
  rw [hsp, if_neg (by omega), if_neg (fun g => g h2), hx, hy]
theorem tokB_of {s : ByteArray} : tokB s = true ↔ tl s ≠ [] ∧ (tl s).all tc = true := by
  unfold tokB
  rw [Bool.and_eq_true, all8_tl]
  simp only [byteP_tchar, decide_eq_true_eq]
  constructor
  · rintro ⟨a, b⟩
    exact ⟨fun e => a (by rw [← tl_length, e]; rfl), b⟩
  · rintro ⟨a, b⟩
    exact ⟨size_ne a, b⟩
theorem good_back {d : S51} (h : GoodD d) : okT d = true ∧ Neut (tl (wT d)) ∧ isO (wT d) = true ∧ dirO (wT d) = d := by
  obtain ⟨f0, f1, f2⟩ := d
  obtain ⟨h1, h2, h3, h4, h5⟩ := h
  simp only at h1 h2 h3 h4 h5
  have htok : tokB f0 = true := tokB_of.2 ⟨h1, h2⟩
  unfold okT wT isO dirO
  cases f2 with
  | false =>
    have e := h4 rfl
    subst e
    simp only [Bool.false_eq_true, if_false]
    rw [one_bare h1 h2, h3]
    refine ⟨by rw [htok]; decide +kernel, neut_token h1 h2, rfl, rfl⟩
  | true =>
    simp only [if_true]
    by_cases c : tokB f1 = true
    · obtain ⟨c1, c2⟩ := tokB_of.1 c
      have eq : quoteO f1 = (f1, true) := by unfold quoteO; rw [if_pos c]
      rw [eq, one_set h1 h2 rfl]
      have hz := size_ne c1
      rw [span_all c2, if_pos (by omega), ext_all, h3, decide_eq_true rfl]
      refine ⟨by rw [htok]; rfl, ?_, rfl, rfl⟩
      rw [tl_append, tl_append, List.append_assoc]
      exact neut_pair h1 h2 (.inl ⟨c1, c2⟩)
    · have hv : valB f1 = true := by
        rcases h5 rfl with g | g
        · exact absurd (tokB_of.2 g) c
        · exact g
      have eq : quoteO f1 = (quoteS f1, true) := by unfold quoteO; rw [if_neg c, if_pos hv]
      have et : tl (quoteS f1) = 34 :: (quoteL (tl f1) ++ [34]) := by rw [quoteS_tl, tl_ofl]; rfl
      have hs0 : spanN tcharI (quoteS f1) = 0 := by
        rw [span_list, et, List.takeWhile_cons, if_neg (by decide)]
        rfl
      have hz : (quoteS f1).size ≠ 0 := size_ne (by rw [et]; simp)
      rw [eq, one_set h1 h2 rfl, hs0, if_neg (by omega), quotedR_quoteS f1 hv, h3, decide_eq_true ⟨by omega, rfl⟩]
      refine ⟨by rw [htok]; rfl, ?_, rfl, rfl⟩
      rw [tl_append, tl_append, List.append_assoc]
      exact neut_pair h1 h2 (.inr ⟨tl f1, et⟩)
theorem split_join (ws : List ByteArray) (hl : ws.length ≤ 2000) (hx : ∀ w ∈ ws, w.size ≤ 4000) (hn : ∀ w ∈ ws, Neut (tl w)) : lists_Split.f (joinS ws) = some (ws, true) := by
  have e : tl (joinS ws) = joinL ws := tl_ofl _
  have hz : (joinS ws).size ≤ 2000 * 4002 := by
    rw [← tl_length, e]
    exact Nat.le_trans (joinL_len 4000 ws hx) (Nat.mul_le_mul_right _ hl)
  obtain ⟨j1, j2⟩ := join_back ws hn
  have j3 : packL trimB ((allP (runT (joinL ws))).map ofl) = ws := j2
  unfold lists_Split.f
  rw [if_pos (by omega), ends_run, elems_run, e, j1, if_pos (by decide), j3]
theorem cacheBack_main (s : ByteArray) (hs : s.size ≤ 1000) (L : List ByteArray) (h1 : lists_Split.f s = some (L, true)) (ha : L.all isO = true) :
    Ev (fun k => cache_Text.f k (L.map dirO)) (joinS ((L.map dirO).map wT), true) ∧ Ev (fun k => cache_Parse.f k (joinS ((L.map dirO).map wT))) (L.map dirO, true) ∧ L.length ≤ 2000 := by
  obtain ⟨_, z1, z2⟩ := split_sizes h1
  have hall := List.all_eq_true.1 ha
  have hg : ∀ d ∈ L.map dirO, GoodD d ∧ d.f0.size ≤ 1000 ∧ d.f1.size ≤ 1000 := fun d hd => by
    obtain ⟨x, hx, rfl⟩ := List.mem_map.1 hd
    obtain ⟨g1, g2, g3⟩ := dir_good x (hall x hx)
    have := z2 x hx
    exact ⟨g1, by omega, by omega⟩
  have hlen : (L.map dirO).length ≤ 2000 := by rw [List.length_map]; omega
  have hsm : SmallD (L.map dirO) := ⟨hlen, fun d hd => (hg d hd).2⟩
  have ht : textO (L.map dirO) = (joinS ((L.map dirO).map wT), true) := by
    unfold textO
    rw [if_pos (List.all_eq_true.2 fun d hd => (good_back (hg d hd).1).1)]
  have hT := (ev_text _ hsm).1
  rw [ht] at hT
  refine ⟨hT, ?_, by omega⟩
  have hws : ∀ w ∈ (L.map dirO).map wT, w.size ≤ 4000 ∧ Neut (tl w) ∧ isO w = true := fun w hw => by
    obtain ⟨d, hd, rfl⟩ := List.mem_map.1 hw
    obtain ⟨g1, g2⟩ := hg d hd
    obtain ⟨b1, b2, b3, b4⟩ := good_back g1
    exact ⟨wT_size g2, b2, b3⟩
  have hwl : ((L.map dirO).map wT).length ≤ 2000 := by rw [List.length_map]; exact hlen
  have hsp := split_join _ hwl (fun w hw => (hws w hw).1) (fun w hw => (hws w hw).2.1)
  have hback : ((L.map dirO).map wT).map dirO = L.map dirO := by
    rw [List.map_map]
    conv => rhs; rw [← List.map_id (L.map dirO)]
    exact List.map_congr_left fun d hd => (good_back (hg d hd).1).2.2.2
  unfold cache_Parse.f
  rw [hsp]
  simp only [Option.bind_some]
  have hp := pparse_loop _ (by omega) (fun w hw => by have := (hws w hw).1; omega) ((L.map dirO).map wT) 0 [] rfl (Nat.le_refl _)
  rw [if_pos (List.all_eq_true.2 fun w hw => (hws w hw).2.2), List.nil_append, hback] at hp
  exact hp
theorem cacheBack_pure (s : ByteArray) : ∃ k, abutmentlaw21_CacheBack.f k s = some true := by
  have hm : mn (s.size : Int) 1000 ≤ (s.size : Int) ∧ mn (s.size : Int) 1000 ≤ 1000 ∧ 0 ≤ mn (s.size : Int) 1000 := by unfold mn; split <;> omega
  refine Ev.rounds (g := fun k => abutmentlaw21_CacheBack.f k s) ?_
  unfold abutmentlaw21_CacheBack.f
  simp only [if_pos hm.1, if_pos hm.2.2]
  have hz : (s.extract 0 ((mn (s.size : Int) 1000) : Int).toNat).size ≤ 1000 := by rw [ByteArray.size_extract]; omega
  generalize s.extract 0 ((mn (s.size : Int) 1000) : Int).toNat = t at hz
  obtain ⟨L, ok, h1, h2, h3, p1, _⟩ := ev_cparse t (by omega)
  refine Ev.bind p1 ?_
  have lv : Ev (fun k => (abutmentlaw21_lives.f k).bind fun t => some t) true := Ev.bind ev_lives21 (Ev.now _)
  unfold parseO
  by_cases c : ok = true ∧ L.all isO = true
  · rw [if_pos c]
    obtain ⟨c1, c2⟩ := c
    subst c1
    obtain ⟨m1, m2, m3⟩ := cacheBack_main t hz L h1 c2
    simp only [if_true]
    refine Ev.bind m1 (Ev.bind m2 ?_)
    simp only [if_true]
    refine Ev.bind (ev_same (L.map dirO) (by rw [List.length_map]; omega)) ?_
    simp only [if_true]
    exact lv
  · rw [if_neg c]
    simp only [Bool.false_eq_true, if_false, List.length_nil]
    exact lv
theorem cacheBack_walk (s : ByteArray) (w : World) :
    Calls Try.prog 9 #[.string s] w fun e w' => e = .returned (.bool true) ∧ Below w.heap.size w w' := by
  obtain ⟨k, hk⟩ := cacheBack_pure s
  exact abutmentlaw21_CacheBack.calls k s true w hk
end Go.Proofs.Ytjnhghplfdiijaa.Q

namespace Go.Proofs.Ytjnhghplfdiijaa.cacheBack
open Go.ChangeShapes Go.WideShapes Go.ChangeAt Go.RowKit
open Go.ChangeMaps (open_string shut_string)
set_option linter.unusedVariables false
theorem own : ownKnob Try.prog.godebug = none := by kernel_rfl
theorem laidOut : laidOutB Try.prog = true := by kernel_rfl
set_option maxRecDepth 100000 in
theorem lifted (os : Os) (started : os.Started) (H : Type) (enc : TypeId × Value → H) :
    ReturnsInHanded {} Try.checked os 9 .any (Rows.cacheBackSpec.pre6 enc Try.prog Try.f9 Rows.cacheBackRow.domain false) (Rows.cacheBackSpec.post enc Try.prog Try.f9 false true false false) := by
  refine returnsInHanded_of_change_sized (C := Try.checked) own started (by kernel_rfl) Try.func9
    (ChangeSpec.witness6 (enc := enc) (C := Try.checked) false ⟨#[], #[.string ByteArray.empty], []⟩ 8 (by kernel_rfl) (by kernel_rfl) (by kernel_rfl) (by kernel_rfl)) ?_
  intro W base args ds gs before hval0 hW hcnd hsz0 _
  have hsz : (DataW.weightsEach Try.prog (Try.f9.params.toList ++ Rows.cacheBackSpec.plain.varTypes Try.prog) (ds ++ gs)).all (· ≤ reachBytes) = true := hsz0
  have hval : ∀ (j : Nat) t v, Try.f9.params[j]? = some t → args[j]? = some v → Value.okWide Try.prog W .any base t v := hval0
  have hW' := hW
  obtain ⟨p, q, hA0, hV, rfl, hfz, hnd⟩ := hW
  have hA : DataW.TrodAll enc Try.prog W 0 (fun _ => true) true Try.f9.params.toList args.toList ds p := hA0
  rw [Try.params9] at hA hval hsz
  obtain ⟨v0, vs0, d0, ds0, p0, q0, hargs, rfl, rfl, h0, r0⟩ := trodAll_cons hA
  obtain ⟨rfl, rfl, rfl⟩ := trodAll_nil r0
  obtain rfl : args = #[v0] := by cases args; simp_all
  obtain ⟨rfl, rfl⟩ := trodVars_none hV
  obtain ⟨a0, rfl, rfl, rfl, y0⟩ := open_string Try.underlying9 (hval 0 9 v0 rfl rfl) h0
  have w0 : a0.size ≤ 140737488351232 := by
    have z := sized_string hsz (j := 0) (t := 9) rfl rfl
    rw [Array.length_toList] at z
    exact z
  clear hA0 hval0 hsz0 hsz
  refine (Q.cacheBack_walk a0 W ).mono fun e W' ⟨he, bel⟩ => ?_
  subst he
  exact ⟨_, rfl, _, _, _, [], _, [], hW', trodAll_mk1 (shut_bool Try.underlying4 _), (trodAll_cons_mk (shut_string Try.underlying9 y0) trodAll_mk0), rfl, bel.frame _, fun h => by cases h⟩
theorem over : Rows.cacheBackRow.holds Try.pinned (OpenSpec.ofChange Rows.cacheBackSpec) :=
  OpenClaim.holds_of_wide 9 Try.f9 rfl rfl rfl rfl rfl rfl rfl ⟨rfl, rfl, rfl, rfl, rfl⟩ rfl rfl rfl rfl rfl (by kernel_rfl) Try.func9 (by kernel_rfl)
    (of_decide_eq_true (by kernel_rfl)) (by unfold Func.isWrapper; first | (rw [if_pos (by decide +kernel)]; kernel_rfl) | (rw [if_neg (by decide +kernel)]; exact ⟨rfl, rfl⟩))
    (fun os started H enc _ => lifted os started H enc)
theorem proved : Rows.CacheBackSaid := over
#print axioms proved
end Go.Proofs.Ytjnhghplfdiijaa.cacheBack
namespace Go.Proofs.Ytjnhghplfdiijaa
/-- The row, under a short name, for the claim. -/
theorem cacheBack_holds : Rows.CacheBackSaid := cacheBack.proved
end Go.Proofs.Ytjnhghplfdiijaa
