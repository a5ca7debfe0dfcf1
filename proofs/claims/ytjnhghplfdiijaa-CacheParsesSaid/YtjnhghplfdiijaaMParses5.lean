/- Parses, part 5: contracts of functions and plain laws, one behind the other (joined by wip/merge.py out of: Q43 Q44 QE51 Q36 Hcache2 Hquote Q45 Q91 Q46 Hcache3 Q37 Q81 Q33 Q39 Q40). -/
import Derived.Test.YtjnhghplfdiijaaMParses0
import Derived.Test.YtjnhghplfdiijaaMParses1
import Derived.Test.YtjnhghplfdiijaaMParses2
import Derived.Test.YtjnhghplfdiijaaMParses3
import Derived.Test.YtjnhghplfdiijaaMParses4
namespace Go.Proofs.Ytjnhghplfdiijaa.Q
open Go.RowKit Go.Proofs.YtjnhghplfdiijaaW.PrintWords Go.Proofs.YtjnhghplfdiijaaW.PrintLast Go.Proofs.YtjnhghplfdiijaaW.PrintMore
attribute [local go_sem] max2_int min2_int max_two min_two max_three min_three max_four min_four
set_option linter.unusedVariables false
set_option linter.unusedSimpArgs false
def cache_Parse.l0 : Nat → Bool → List (S51) → List ByteArray → Int → Int → Option ((List (S51)) × Bool)
  | 0, _, _, _, _, _ => none
  | k + 1, x5, x6, x16, x17, x18 => if x18 < x17 then (if 0 ≤ x18 then (if x18 < (x16.length : Int) then ((cache_one.f k (rdOf ByteArray.empty x16 x18)).bind fun bt106 => (if x5 = true then (if x6.length < 3518437208883 then (cache_Parse.l0 k bt106.2.2.2 (x6 ++ [(⟨bt106.1, bt106.2.1, bt106.2.2.1⟩ : S51)]) x16 x17 (wrap64 (x18 + 1))) else (none)) else (if x6.length < 3518437208883 then (cache_Parse.l0 k false (x6 ++ [(⟨bt106.1, bt106.2.1, bt106.2.2.1⟩ : S51)]) x16 x17 (wrap64 (x18 + 1))) else (none)))) else (none)) else (none)) else (if x5 = true then (some (x6, true)) else (some (([] : List (S51)), false)))
def cache_Parse.f (k : Nat) (a0 : ByteArray) : Option ((List (S51)) × Bool) := (lists_Split.f a0).bind fun bt101 => (cache_Parse.l0 k bt101.2 ([] : List (S51)) bt101.1 (bt101.1.length : Int) 0)
theorem cache_Parse.mono_l : ∀ k, (∀ y0 y1 y2 y3 y4, LeO (cache_Parse.l0 k y0 y1 y2 y3 y4) (cache_Parse.l0 (k + 1) y0 y1 y2 y3 y4))
  | 0 => fun _ _ _ _ _ r h => by simp [cache_Parse.l0] at h
  | k + 1 => by
    have ih0 := cache_Parse.mono_l k
    · intro y0 y1 y2 y3 y4
      unfold cache_Parse.l0
      repeat' first
      | (with_reducible exact ih0 _ _ _ _ _)
      | (with_reducible exact cache_one.mono _ _)
      | (with_reducible exact LeO.refl _)
      | (with_reducible exact LeO.none _)
      | (with_reducible refine LeO.ite ?_ ?_)
      | (with_reducible refine LeO.bind ?_ (fun _ => ?_))
      | exact ih0 _ _ _ _ _
      | exact cache_one.mono _ _
      | exact LeO.none _
      | refine LeO.ite ?_ ?_
      | refine LeO.bind ?_ (fun _ => ?_)
theorem cache_Parse.mono : ∀ a0 k, LeO (cache_Parse.f k a0) (cache_Parse.f (k + 1) a0) := by
  intro a0 k
  have ih0 := cache_Parse.mono_l k
  unfold cache_Parse.f
  repeat' first
      | (with_reducible exact ih0 _ _ _ _ _)
      | (with_reducible exact cache_one.mono _ _)
      | (with_reducible exact LeO.refl _)
      | (with_reducible exact LeO.none _)
      | (with_reducible refine LeO.ite ?_ ?_)
      | (with_reducible refine LeO.bind ?_ (fun _ => ?_))
      | exact ih0 _ _ _ _ _
      | exact cache_one.mono _ _
      | exact LeO.none _
      | refine LeO.ite ?_ ?_
      | refine LeO.bind ?_ (fun _ => ?_)
set_option maxHeartbeats 8000000 in
set_option maxRecDepth 100000 in
theorem cache_Parse.calls (k : Nat) (a0 : ByteArray) (r1 : List (S51)) (r2 : Bool) (w : World) (h : cache_Parse.f k a0 = some (r1, r2)) :
    Calls Try.prog 43 #[.string a0] w fun e w' => ∃ v0_ : Value, e = .returned (.tuple #[v0_, .bool r2]) ∧ Kd.R k51 51 w' w.heap.size (fun _ => True) v0_ r1 ∧ Below w.heap.size w w' := by
  have hu51 := Try.underlying51
  have HB := Aside0.mk (Below.refl w.heap.size w)
  have H : ((lists_Split.f a0).bind fun bt101 => (cache_Parse.l0 k bt101.2 ([] : List (S51)) bt101.1 (bt101.1.length : Int) 0)) = some (r1, r2) := h
  clear h
  replace H := Option.bind_eq_some_iff.mp H
  obtain ⟨⟨t101, t102⟩, A20, H⟩ := H
  (try dsimp only at H)
  have A2 := Aside0.mk A20
  clear A20
  have H' := Aside0.mk H
  clear H
  go_enter Try.func43, Try.ntmps43
  go_wp2_with (first | ((with_reducible refine gate_callee (f := 73) rfl ?_); refine goesL_ (some 13) rfl rfl Try.func73 (by kernel_rfl) rfl #[.string a0] rfl (by (try simp only [List.map_toArray, List.map_cons, List.map_nil]); first | done | rfl | (simp only [List.length_drop, List.length_take]; rfl)) ?_; (with_reducible refine (lists_Split.calls a0 t101 t102 _ A2.out).mono ?_); rintro e w3 ⟨v103, rfl, ho0, hb⟩; refine ⟨_, rfl, ?_⟩; have n0_ := Aside0.mk (Kd.R_lower ho0 (below_size (by repeat (first | (with_reducible first | exact HB.out | apply below_alloc | apply pw_below_drewN | apply below_drew1) | exact HB.out)))); have n1_ := Aside0.mk (below_step (by repeat (first | (with_reducible first | exact HB.out | apply below_alloc | apply pw_below_drewN | apply below_drew1) | exact HB.out)) hb); clear HB; have HO104 := n0_; have HB := n1_; clear n0_ n1_; (try clear hb); (try clear hb2); (try clear hk); (try clear hi); (try clear ho0); obtain ⟨Ao4, co4, eo4⟩ := Kd.R_slice HO104.out; subst eo4))
  go_loopg [5, 6, 18] k (fun kq v5 v6 v18 w' => ∃ (x5_1 : Bool) (x6_1 : List (S51)) (x18_1 : Int), v5 = .bool x5_1 ∧ v18 = .int .i64 x18_1 ∧ Aside0 (cache_Parse.l0 kq x5_1 x6_1 t101 (t101.length : Int) x18_1 = some (r1, r2)) ∧ Aside0 (kq ≤ k) ∧ Aside0 (Kd.R k51 51 w' w.heap.size (fun _ => True) v6 x6_1) ∧ Aside0 (Kd.R Kd.string 9 w' w.heap.size (fun _ => True) (.slice Ao4 t101.length co4) t101) ∧ Aside0 (Below w.heap.size w w'))
  case atStart => exact ⟨(t102), (([] : List (S51))), (0), (by first | rfl | (simp; done) | (simp [*]; done)), (by first | rfl | (simp; done) | (simp [*]; done)), H', ⟨Nat.le_refl _⟩, ⟨by first | exact Kd.R_nil _ _ _ _ _ | exact Kd.N_nil _ _ _ _ _ | exact Kd.V_nil _ _ _ _ _ | exact Kd.Q_nil _ _ _ _ _ | exact Kd.S_nil _ _ _ _ _⟩, ⟨by (with_reducible repeat (first | apply Kd.R_alloc | apply Kd.R_drewN | apply Kd.R_drew)); exact HO104.out⟩, ⟨by repeat (first | (with_reducible first | exact HB.out | apply below_alloc | apply pw_below_drewN | apply below_drew1) | exact HB.out)⟩⟩
  case round =>
    clear H'
    try clear p2
    try clear c4
    obtain ⟨x5_1, x6_1, x18_1, rfl, rfl, HA, HK1, HO_6, HO_16, HB⟩ := hrel
    cases gk with
    | zero => exact absurd HA.out (by simp [cache_Parse.l0])
    | succ k1 =>
      have H := HA.out
      clear HA
      simp only [cache_Parse.l0] at H
      by_cases c5 : x18_1 < (t101.length : Int)
      · rw [if_pos c5] at H
        have c5b0 : decide (x18_1 < (t101.length : Int)) = true := decide_eq_true c5
        clear c5
        by_cases c6 : 0 ≤ x18_1
        · rw [if_pos c6] at H
          have c6b0 : decide (0 ≤ x18_1) = true := decide_eq_true c6
          clear c6
          by_cases c7 : x18_1 < (t101.length : Int)
          · rw [if_pos c7] at H
            have c7b0 : decide (x18_1 < (t101.length : Int)) = true := decide_eq_true c7
            clear c7
            replace H := Option.bind_eq_some_iff.mp H
            obtain ⟨⟨t106, t107, t108, t109⟩, A80, H⟩ := H
            (try dsimp only at H)
            have A8 := Aside0.mk A80
            clear A80
            by_cases c9 : x5_1 = true
            · subst c9
              have H1 : (if x6_1.length < 3518437208883 then (cache_Parse.l0 k1 t109 (x6_1 ++ [(⟨t106, t107, t108⟩ : S51)]) t101 (t101.length : Int) (wrap64 (x18_1 + 1))) else (none)) = some (r1, r2) := by rw [if_pos rfl] at H; exact H
              clear H
              have H := H1
              clear H1
              by_cases c10 : x6_1.length < 3518437208883
              · rw [if_pos c10] at H
                have LMc10 := Aside0.mk c10
                clear c10
                obtain ⟨y111, hy111⟩ : ∃ y_ : List (S51), y_ = (x6_1 ++ [(⟨t106, t107, t108⟩ : S51)]) := ⟨_, rfl⟩
                replace H : (cache_Parse.l0 k1 t109 y111 t101 (t101.length : Int) (wrap64 (x18_1 + 1))) = some (r1, r2) := by first | (rw [hy111]; with_reducible exact H) | (have H2_ := (Option.bind_some _ _).symm.trans H; rw [hy111]; with_reducible exact H2_) | (have H2_ := (Option.bind_some _ _).symm.trans H; with_reducible exact H2_) | with_reducible exact H | (rw [hy111]; exact H) | exact H
                have Ny111 := Aside0.mk hy111
                clear hy111
                have H' := Aside0.mk H
                clear H
                have p105 : 0 ≤ (x18_1 : Int) := of_decide_eq_true (by first | (with_reducible assumption) | assumption)
                have q105 : x18_1 < (t101.length : Int) := of_decide_eq_true (by first | (with_reducible assumption) | assumption)
                obtain ⟨ad105, e105, hx105_0⟩ := Kd.at_string (Kd.R_reads' HO_16.out).2.2 x18_1 p105 q105
                cases e105
                replace p105 := eq_true p105
                replace q105 := eq_true q105
                go_wp2_with (first | ((with_reducible refine gate_callee (f := 86) rfl ?_); refine goesL_ (some 24) rfl rfl Try.func86 (by kernel_rfl) rfl #[.string (rdOf ByteArray.empty t101 x18_1)] rfl (by (try simp only [List.map_toArray, List.map_cons, List.map_nil]); first | done | rfl | (simp only [List.length_drop, List.length_take]; rfl)) ?_; (with_reducible refine (cache_one.calls k1 (rdOf ByteArray.empty t101 x18_1) t106 t107 t108 t109 _ A8.out).mono ?_); rintro e w11 ⟨rfl, hb⟩; refine ⟨_, rfl, ?_⟩; have n0_ := Aside0.mk (Kd.R_below (by (with_reducible repeat (first | apply Kd.R_alloc | apply Kd.R_drewN | apply Kd.R_drew)); exact HO_6.out) hb); have n1_ := Aside0.mk (Kd.R_below (by (with_reducible repeat (first | apply Kd.R_alloc | apply Kd.R_drewN | apply Kd.R_drew)); exact HO_16.out) hb); have n2_ := Aside0.mk (below_step (by repeat (first | (with_reducible first | exact HB.out | apply below_alloc | apply pw_below_drewN | apply below_drew1) | exact HB.out)) hb); clear HO_6; clear HO_16; clear HB; have HO_6 := n0_; have HO_16 := n1_; have HB := n2_; clear n0_ n1_ n2_; (try clear hb); (try clear hb2); (try clear hk); (try clear hi)) | ((with_reducible refine gate_dst (N := 9) rfl ?_); refine box_event ?hg (N := 9) ?hd (cs := #[.string (⟨#[]⟩ : ByteArray), .string (⟨#[]⟩ : ByteArray), .bool false]) (t := 51) ?hr ?_; (case hd => rfl); (case hg => rfl); (case hr => first | (go_simp; done) | (go_simp; rfl)); intro gb110 hg w12 hbox hb; have n0_ := Aside0.mk (Kd.R_below (Kd.R_elderB (by (with_reducible repeat (first | apply Kd.R_alloc | apply Kd.R_drewN | apply Kd.R_drew)); exact HO_6.out) gb110 (Nat.le_of_eq hg.symm)) hb); have n1_ := Aside0.mk (Kd.R_below (by (with_reducible repeat (first | apply Kd.R_alloc | apply Kd.R_drewN | apply Kd.R_drew)); exact HO_16.out) hb); have n2_ := Aside0.mk (below_step (by repeat (first | (with_reducible first | exact HB.out | apply below_alloc | apply pw_below_drewN | apply below_drew1) | exact HB.out)) hb); have n3_ := Aside0.mk (hbox); have n4_ := Aside0.mk ((by rw [hg]; exact (below_size (by repeat (first | (with_reducible first | exact HB.out | apply below_alloc | apply pw_below_drewN | apply below_drew1) | exact HB.out))) : w.heap.size ≤ gb110)); have n5_ := Aside0.mk ((by rw [hg]; exact (below_size (by repeat (first | (with_reducible first | exact HB.out | apply below_alloc | apply pw_below_drewN | apply below_drew1) | exact HB.out))) : w.heap.size ≤ gb110)); clear HO_6; clear HO_16; clear HB; have HO_6 := n0_; have HO_16 := n1_; have HB := n2_; have BK110 := n3_; have GW110 := n4_; have GE110 := n5_; clear n0_ n1_ n2_ n3_ n4_ n5_; clear hb hbox hg; have hcz13_0 : w12.cell? ⟨gb110, 0, none⟩ = some (.string (⟨#[]⟩ : ByteArray)) := (blk_cell BK110.out 0).trans rfl; have hcz13_1 : w12.cell? ⟨gb110, 1, none⟩ = some (.string (⟨#[]⟩ : ByteArray)) := (blk_cell BK110.out 1).trans rfl; have hcz13_2 : w12.cell? ⟨gb110, 2, none⟩ = some (.bool false) := (blk_cell BK110.out 2).trans rfl; have hfz13_0 := blk_frozen BK110.out 0; have hfz13_1 := blk_frozen BK110.out 1; have hfz13_2 := blk_frozen BK110.out 2) | ((with_reducible refine gate_builtin (b := .append) (xs := #[.tmp 31, .tmp 33]) rfl ?_); at_builtin; refine Kd.R_append k51 (w0 := w) w.heap.size rfl (.tmp 31) (.tmp 33) 55 51 (.agg #[(.string ⟨#[]⟩), (.string ⟨#[]⟩), (.bool false)]) 40 rfl Try.underlying55 info51 rfl (by decide) (by omega) u6 x6_1 (⟨t106, t107, t108⟩ : S51) [.string t106, .string t107, .bool t108] (fun k_ => k_ ≠ gb110) (fun _ => False) rfl (by first | (go_simp; done) | (go_simp; rfl)) ?aP (fun _ hk => hk.elim) ?aF ?aO ?aB ?aS ?aL ?_; (case aP => exact k51_mkM _ _ _ (⟨t106, t107, t108⟩ : S51)); (case aB => exact (by repeat (first | (with_reducible first | exact HB.out | apply below_alloc | apply pw_below_drewN | apply below_drew1 | refine below_set ?_ GE110.out) | exact HB.out))); (case aF => exact (fun k_ hk => Kd.freshB (g := gb110) (o := .cells #[.string t106, .string t107, .bool t108] 51 (0, 0)) (by (with_reducible repeat (first | refine blk_drewN ?_ _ | refine blk_drew ?_ | refine blk_alloc ?_ _)); refine blk_put (cs := #[.string t106, .string t107, .bool false]) ?_ 2 _ rfl; (with_reducible repeat (first | refine blk_drewN ?_ _ | refine blk_drew ?_ | refine blk_alloc ?_ _)); refine blk_put (cs := #[.string t106, .string (⟨#[]⟩ : ByteArray), .bool false]) ?_ 1 _ rfl; (with_reducible repeat (first | refine blk_drewN ?_ _ | refine blk_drew ?_ | refine blk_alloc ?_ _)); refine blk_put (cs := #[.string (⟨#[]⟩ : ByteArray), .string (⟨#[]⟩ : ByteArray), .bool false]) ?_ 0 _ rfl; (with_reducible repeat (first | refine blk_drewN ?_ _ | refine blk_drew ?_ | refine blk_alloc ?_ _)); exact BK110.out) k_ hk)); (case aO => exact (by (with_reducible repeat (first | apply Kd.R_alloc | apply Kd.R_drewN | apply Kd.R_drew)); exact Kd.R_mono (Kd.R_far (p := ⟨gb110, 2, none⟩) (Kd.R_far (p := ⟨gb110, 1, none⟩) (Kd.R_far (p := ⟨gb110, 0, none⟩) (Kd.R_mono HO_6.out (fun k_ hk => (⟨hk, hk.2⟩ : _ ∧ k_ ≠ gb110))) (fun _ hk => hk.2) (.string t106)) (fun _ hk => hk.2) (.string t107)) (fun _ hk => hk.2) (.bool t108)) (fun _ hk => hk.1.2))); (case aS => exact (below_size (by repeat (first | (with_reducible first | exact HB.out | apply below_alloc | apply pw_below_drewN | apply below_drew1 | refine below_set ?_ GE110.out) | exact HB.out)))); (case aL => have := LMc10.out; omega); intro v112 w14 ho hb hg hat; rw [← Ny111.out] at ho; have n0_ := Aside0.mk (Kd.R_over' (by (with_reducible repeat (first | apply Kd.R_alloc | apply Kd.R_drewN | apply Kd.R_drew)); exact (Kd.R_mono (Kd.R_far (p := ⟨gb110, 2, none⟩) (Kd.R_far (p := ⟨gb110, 1, none⟩) (Kd.R_far (p := ⟨gb110, 0, none⟩) (Kd.R_types HO_16.out BK110.out (by decide)) (fun _ hk => hk.2) (.string t106)) (fun _ hk => hk.2) (.string t107)) (fun _ hk => hk.2) (.bool t108)) (fun _ h_ => h_.1))) (Kd.R_typed (by (with_reducible repeat (first | apply Kd.R_alloc | apply Kd.R_drewN | apply Kd.R_drew)); exact (Kd.R_mono (Kd.R_far (p := ⟨gb110, 2, none⟩) (Kd.R_far (p := ⟨gb110, 1, none⟩) (Kd.R_far (p := ⟨gb110, 0, none⟩) (Kd.R_mono HO_6.out (fun k_ hk => (⟨hk, hk.2⟩ : _ ∧ k_ ≠ gb110))) (fun _ hk => hk.2) (.string t106)) (fun _ hk => hk.2) (.string t107)) (fun _ hk => hk.2) (.bool t108)) (fun _ h_ => h_.1)))) (by decide) hg); have n1_ := Aside0.mk (blk_grown (g := gb110) (o := .cells #[.string t106, .string t107, .bool t108] 51 (0, 0)) (by (with_reducible repeat (first | refine blk_drewN ?_ _ | refine blk_drew ?_ | refine blk_alloc ?_ _)); refine blk_put (cs := #[.string t106, .string t107, .bool false]) ?_ 2 _ rfl; (with_reducible repeat (first | refine blk_drewN ?_ _ | refine blk_drew ?_ | refine blk_alloc ?_ _)); refine blk_put (cs := #[.string t106, .string (⟨#[]⟩ : ByteArray), .bool false]) ?_ 1 _ rfl; (with_reducible repeat (first | refine blk_drewN ?_ _ | refine blk_drew ?_ | refine blk_alloc ?_ _)); refine blk_put (cs := #[.string (⟨#[]⟩ : ByteArray), .string (⟨#[]⟩ : ByteArray), .bool false]) ?_ 0 _ rfl; (with_reducible repeat (first | refine blk_drewN ?_ _ | refine blk_drew ?_ | refine blk_alloc ?_ _)); exact BK110.out) hg (Kd.R_away HO_6.out (fun _ hk => hk.2))); have n2_ := Aside0.mk (hb); have n3_ := Aside0.mk (ho); clear HO_16; clear BK110; clear HB; clear HO_6; have HO_16 := n0_; have BK110 := n1_; have HB := n2_; have HO113 := n3_; clear n0_ n1_ n2_ n3_; clear ho hb hg hat))
                go_roundg k1
                case measure => have := HK1.out; omega
                case rel => exact ⟨(t109), (y111), (wrap64 (x18_1 + 1)), (by first | rfl | (simp; done) | (simp [*]; done)), (by first | rfl | (simp; done) | (simp [*]; done)), H', ⟨by have := HK1.out; omega⟩, ⟨by (with_reducible repeat (first | apply Kd.R_alloc | apply Kd.R_drewN | apply Kd.R_drew)); exact Kd.R_mono HO113.out (fun _ hk => trivial)⟩, ⟨by (with_reducible repeat (first | apply Kd.R_alloc | apply Kd.R_drewN | apply Kd.R_drew)); exact HO_16.out⟩, ⟨by repeat (first | (with_reducible first | exact HB.out | apply below_alloc | apply pw_below_drewN | apply below_drew1 | refine below_set ?_ GE110.out) | exact HB.out)⟩⟩
              · rw [if_neg c10] at H
                exact absurd H (by simp)
            · replace c9 := Bool.eq_false_iff.mpr c9
              subst c9
              have H1 : (if x6_1.length < 3518437208883 then (cache_Parse.l0 k1 false (x6_1 ++ [(⟨t106, t107, t108⟩ : S51)]) t101 (t101.length : Int) (wrap64 (x18_1 + 1))) else (none)) = some (r1, r2) := by rw [if_neg (show ¬ (false = true) by decide)] at H; exact H
              clear H
              have H := H1
              clear H1
              by_cases c15 : x6_1.length < 3518437208883
              · rw [if_pos c15] at H
                have LMc15 := Aside0.mk c15
                clear c15
                obtain ⟨y114, hy114⟩ : ∃ y_ : List (S51), y_ = (x6_1 ++ [(⟨t106, t107, t108⟩ : S51)]) := ⟨_, rfl⟩
                replace H : (cache_Parse.l0 k1 false y114 t101 (t101.length : Int) (wrap64 (x18_1 + 1))) = some (r1, r2) := by first | (rw [hy114]; with_reducible exact H) | (have H2_ := (Option.bind_some _ _).symm.trans H; rw [hy114]; with_reducible exact H2_) | (have H2_ := (Option.bind_some _ _).symm.trans H; with_reducible exact H2_) | with_reducible exact H | (rw [hy114]; exact H) | exact H
                have Ny114 := Aside0.mk hy114
                clear hy114
                have H' := Aside0.mk H
                clear H
                have p105 : 0 ≤ (x18_1 : Int) := of_decide_eq_true (by first | (with_reducible assumption) | assumption)
                have q105 : x18_1 < (t101.length : Int) := of_decide_eq_true (by first | (with_reducible assumption) | assumption)
                obtain ⟨ad105, e105, hx105_0⟩ := Kd.at_string (Kd.R_reads' HO_16.out).2.2 x18_1 p105 q105
                cases e105
                replace p105 := eq_true p105
                replace q105 := eq_true q105
                go_wp2_with (first | ((with_reducible refine gate_callee (f := 86) rfl ?_); refine goesL_ (some 24) rfl rfl Try.func86 (by kernel_rfl) rfl #[.string (rdOf ByteArray.empty t101 x18_1)] rfl (by (try simp only [List.map_toArray, List.map_cons, List.map_nil]); first | done | rfl | (simp only [List.length_drop, List.length_take]; rfl)) ?_; (with_reducible refine (cache_one.calls k1 (rdOf ByteArray.empty t101 x18_1) t106 t107 t108 t109 _ A8.out).mono ?_); rintro e w16 ⟨rfl, hb⟩; refine ⟨_, rfl, ?_⟩; have n0_ := Aside0.mk (Kd.R_below (by (with_reducible repeat (first | apply Kd.R_alloc | apply Kd.R_drewN | apply Kd.R_drew)); exact HO_6.out) hb); have n1_ := Aside0.mk (Kd.R_below (by (with_reducible repeat (first | apply Kd.R_alloc | apply Kd.R_drewN | apply Kd.R_drew)); exact HO_16.out) hb); have n2_ := Aside0.mk (below_step (by repeat (first | (with_reducible first | exact HB.out | apply below_alloc | apply pw_below_drewN | apply below_drew1) | exact HB.out)) hb); clear HO_6; clear HO_16; clear HB; have HO_6 := n0_; have HO_16 := n1_; have HB := n2_; clear n0_ n1_ n2_; (try clear hb); (try clear hb2); (try clear hk); (try clear hi)) | ((with_reducible refine gate_dst (N := 9) rfl ?_); refine box_event ?hg (N := 9) ?hd (cs := #[.string (⟨#[]⟩ : ByteArray), .string (⟨#[]⟩ : ByteArray), .bool false]) (t := 51) ?hr ?_; (case hd => rfl); (case hg => rfl); (case hr => first | (go_simp; done) | (go_simp; rfl)); intro gb110 hg w17 hbox hb; have n0_ := Aside0.mk (Kd.R_below (Kd.R_elderB (by (with_reducible repeat (first | apply Kd.R_alloc | apply Kd.R_drewN | apply Kd.R_drew)); exact HO_6.out) gb110 (Nat.le_of_eq hg.symm)) hb); have n1_ := Aside0.mk (Kd.R_below (by (with_reducible repeat (first | apply Kd.R_alloc | apply Kd.R_drewN | apply Kd.R_drew)); exact HO_16.out) hb); have n2_ := Aside0.mk (below_step (by repeat (first | (with_reducible first | exact HB.out | apply below_alloc | apply pw_below_drewN | apply below_drew1) | exact HB.out)) hb); have n3_ := Aside0.mk (hbox); have n4_ := Aside0.mk ((by rw [hg]; exact (below_size (by repeat (first | (with_reducible first | exact HB.out | apply below_alloc | apply pw_below_drewN | apply below_drew1) | exact HB.out))) : w.heap.size ≤ gb110)); have n5_ := Aside0.mk ((by rw [hg]; exact (below_size (by repeat (first | (with_reducible first | exact HB.out | apply below_alloc | apply pw_below_drewN | apply below_drew1) | exact HB.out))) : w.heap.size ≤ gb110)); clear HO_6; clear HO_16; clear HB; have HO_6 := n0_; have HO_16 := n1_; have HB := n2_; have BK110 := n3_; have GW110 := n4_; have GE110 := n5_; clear n0_ n1_ n2_ n3_ n4_ n5_; clear hb hbox hg; have hcz18_0 : w17.cell? ⟨gb110, 0, none⟩ = some (.string (⟨#[]⟩ : ByteArray)) := (blk_cell BK110.out 0).trans rfl; have hcz18_1 : w17.cell? ⟨gb110, 1, none⟩ = some (.string (⟨#[]⟩ : ByteArray)) := (blk_cell BK110.out 1).trans rfl; have hcz18_2 : w17.cell? ⟨gb110, 2, none⟩ = some (.bool false) := (blk_cell BK110.out 2).trans rfl; have hfz18_0 := blk_frozen BK110.out 0; have hfz18_1 := blk_frozen BK110.out 1; have hfz18_2 := blk_frozen BK110.out 2) | ((with_reducible refine gate_builtin (b := .append) (xs := #[.tmp 31, .tmp 33]) rfl ?_); at_builtin; refine Kd.R_append k51 (w0 := w) w.heap.size rfl (.tmp 31) (.tmp 33) 55 51 (.agg #[(.string ⟨#[]⟩), (.string ⟨#[]⟩), (.bool false)]) 40 rfl Try.underlying55 info51 rfl (by decide) (by omega) u6 x6_1 (⟨t106, t107, t108⟩ : S51) [.string t106, .string t107, .bool t108] (fun k_ => k_ ≠ gb110) (fun _ => False) rfl (by first | (go_simp; done) | (go_simp; rfl)) ?aP (fun _ hk => hk.elim) ?aF ?aO ?aB ?aS ?aL ?_; (case aP => exact k51_mkM _ _ _ (⟨t106, t107, t108⟩ : S51)); (case aB => exact (by repeat (first | (with_reducible first | exact HB.out | apply below_alloc | apply pw_below_drewN | apply below_drew1 | refine below_set ?_ GE110.out) | exact HB.out))); (case aF => exact (fun k_ hk => Kd.freshB (g := gb110) (o := .cells #[.string t106, .string t107, .bool t108] 51 (0, 0)) (by (with_reducible repeat (first | refine blk_drewN ?_ _ | refine blk_drew ?_ | refine blk_alloc ?_ _)); refine blk_put (cs := #[.string t106, .string t107, .bool false]) ?_ 2 _ rfl; (with_reducible repeat (first | refine blk_drewN ?_ _ | refine blk_drew ?_ | refine blk_alloc ?_ _)); refine blk_put (cs := #[.string t106, .string (⟨#[]⟩ : ByteArray), .bool false]) ?_ 1 _ rfl; (with_reducible repeat (first | refine blk_drewN ?_ _ | refine blk_drew ?_ | refine blk_alloc ?_ _)); refine blk_put (cs := #[.string (⟨#[]⟩ : ByteArray), .string (⟨#[]⟩ : ByteArray), .bool false]) ?_ 0 _ rfl; (with_reducible repeat (first | refine blk_drewN ?_ _ | refine blk_drew ?_ | refine blk_alloc ?_ _)); exact BK110.out) k_ hk)); (case aO => exact (by (with_reducible repeat (first | apply Kd.R_alloc | apply Kd.R_drewN | apply Kd.R_drew)); exact Kd.R_mono (Kd.R_far (p := ⟨gb110, 2, none⟩) (Kd.R_far (p := ⟨gb110, 1, none⟩) (Kd.R_far (p := ⟨gb110, 0, none⟩) (Kd.R_mono HO_6.out (fun k_ hk => (⟨hk, hk.2⟩ : _ ∧ k_ ≠ gb110))) (fun _ hk => hk.2) (.string t106)) (fun _ hk => hk.2) (.string t107)) (fun _ hk => hk.2) (.bool t108)) (fun _ hk => hk.1.2))); (case aS => exact (below_size (by repeat (first | (with_reducible first | exact HB.out | apply below_alloc | apply pw_below_drewN | apply below_drew1 | refine below_set ?_ GE110.out) | exact HB.out)))); (case aL => have := LMc15.out; omega); intro v115 w19 ho hb hg hat; rw [← Ny114.out] at ho; have n0_ := Aside0.mk (Kd.R_over' (by (with_reducible repeat (first | apply Kd.R_alloc | apply Kd.R_drewN | apply Kd.R_drew)); exact (Kd.R_mono (Kd.R_far (p := ⟨gb110, 2, none⟩) (Kd.R_far (p := ⟨gb110, 1, none⟩) (Kd.R_far (p := ⟨gb110, 0, none⟩) (Kd.R_types HO_16.out BK110.out (by decide)) (fun _ hk => hk.2) (.string t106)) (fun _ hk => hk.2) (.string t107)) (fun _ hk => hk.2) (.bool t108)) (fun _ h_ => h_.1))) (Kd.R_typed (by (with_reducible repeat (first | apply Kd.R_alloc | apply Kd.R_drewN | apply Kd.R_drew)); exact (Kd.R_mono (Kd.R_far (p := ⟨gb110, 2, none⟩) (Kd.R_far (p := ⟨gb110, 1, none⟩) (Kd.R_far (p := ⟨gb110, 0, none⟩) (Kd.R_mono HO_6.out (fun k_ hk => (⟨hk, hk.2⟩ : _ ∧ k_ ≠ gb110))) (fun _ hk => hk.2) (.string t106)) (fun _ hk => hk.2) (.string t107)) (fun _ hk => hk.2) (.bool t108)) (fun _ h_ => h_.1)))) (by decide) hg); have n1_ := Aside0.mk (blk_grown (g := gb110) (o := .cells #[.string t106, .string t107, .bool t108] 51 (0, 0)) (by (with_reducible repeat (first | refine blk_drewN ?_ _ | refine blk_drew ?_ | refine blk_alloc ?_ _)); refine blk_put (cs := #[.string t106, .string t107, .bool false]) ?_ 2 _ rfl; (with_reducible repeat (first | refine blk_drewN ?_ _ | refine blk_drew ?_ | refine blk_alloc ?_ _)); refine blk_put (cs := #[.string t106, .string (⟨#[]⟩ : ByteArray), .bool false]) ?_ 1 _ rfl; (with_reducible repeat (first | refine blk_drewN ?_ _ | refine blk_drew ?_ | refine blk_alloc ?_ _)); refine blk_put (cs := #[.string (⟨#[]⟩ : ByteArray), .string (⟨#[]⟩ : ByteArray), .bool false]) ?_ 0 _ rfl; (with_reducible repeat (first | refine blk_drewN ?_ _ | refine blk_drew ?_ | refine blk_alloc ?_ _)); exact BK110.out) hg (Kd.R_away HO_6.out (fun _ hk => hk.2))); have n2_ := Aside0.mk (hb); have n3_ := Aside0.mk (ho); clear HO_16; clear BK110; clear HB; clear HO_6; have HO_16 := n0_; have BK110 := n1_; have HB := n2_; have HO116 := n3_; clear n0_ n1_ n2_ n3_; clear ho hb hg hat))
                go_roundg k1
                case measure => have := HK1.out; omega
                case rel => exact ⟨(false), (y114), (wrap64 (x18_1 + 1)), (by first | rfl | (simp; done) | (simp [*]; done)), (by first | rfl | (simp; done) | (simp [*]; done)), H', ⟨by have := HK1.out; omega⟩, ⟨by (with_reducible repeat (first | apply Kd.R_alloc | apply Kd.R_drewN | apply Kd.R_drew)); exact Kd.R_mono HO116.out (fun _ hk => trivial)⟩, ⟨by (with_reducible repeat (first | apply Kd.R_alloc | apply Kd.R_drewN | apply Kd.R_drew)); exact HO_16.out⟩, ⟨by repeat (first | (with_reducible first | exact HB.out | apply below_alloc | apply pw_below_drewN | apply below_drew1 | refine below_set ?_ GE110.out) | exact HB.out)⟩⟩
              · rw [if_neg c15] at H
                exact absurd H (by simp)
          · rw [if_neg c7] at H
            exact absurd H (by simp)
        · rw [if_neg c6] at H
          exact absurd H (by simp)
      · rw [if_neg c5] at H
        have c5b0 : decide (x18_1 < (t101.length : Int)) = false := decide_eq_false c5
        clear c5
        by_cases c20 : x5_1 = true
        · subst c20
          have H1 : (some (x6_1, true)) = some (r1, r2) := by rw [if_pos rfl] at H; exact H
          clear H
          have H := H1
          clear H1
          simp only [Option.some.injEq, Prod.mk.injEq] at H
          obtain ⟨rfl, rfl⟩ := H
          go_wp2
          go_ret2
          exact ⟨_, by first | rfl | (simp [errW_none, errW_some] <;> rfl) | (simp [*, errW_none, errW_some] <;> rfl), by (with_reducible repeat (first | apply Kd.R_alloc | apply Kd.R_drewN | apply Kd.R_drew)); exact HO_6.out, by repeat (first | (with_reducible first | exact HB.out | apply below_alloc | apply pw_below_drewN | apply below_drew1) | exact HB.out)⟩
        · replace c20 := Bool.eq_false_iff.mpr c20
          subst c20
          have H1 : (some (([] : List (S51)), false)) = some (r1, r2) := by rw [if_neg (show ¬ (false = true) by decide)] at H; exact H
          clear H
          have H := H1
          clear H1
          simp only [Option.some.injEq, Prod.mk.injEq] at H
          obtain ⟨rfl, rfl⟩ := H
          go_wp2
          go_ret2
          exact ⟨_, by first | rfl | (simp [errW_none, errW_some] <;> rfl) | (simp [*, errW_none, errW_some] <;> rfl), by first | exact Kd.R_nil _ _ _ _ _ | exact Kd.N_nil _ _ _ _ _ | exact Kd.V_nil _ _ _ _ _ | exact Kd.Q_nil _ _ _ _ _ | exact Kd.S_nil _ _ _ _ _, by repeat (first | (with_reducible first | exact HB.out | apply below_alloc | apply pw_below_drewN | apply below_drew1) | exact HB.out)⟩
end Go.Proofs.Ytjnhghplfdiijaa.Q

namespace Go.Proofs.Ytjnhghplfdiijaa.Q
open Go.RowKit Go.Proofs.YtjnhghplfdiijaaW.PrintWords Go.Proofs.YtjnhghplfdiijaaW.PrintLast Go.Proofs.YtjnhghplfdiijaaW.PrintMore
attribute [local go_sem] max2_int min2_int max_two min_two max_three min_three max_four min_four
set_option linter.unusedVariables false
set_option linter.unusedSimpArgs false
def abutmentref21_Parse.l0 : Nat → List ByteArray → Bool → List (S51) → Int → Option ((List (S51)) × Bool)
  | 0, _, _, _, _ => none
  | k + 1, x4, x5, x6, x7 => if x7 < (x4.length : Int) then (if 0 ≤ x7 then ((abutmentref21_One.f (rdOf ByteArray.empty x4 x7)).bind fun bt109 => (if bt109.2.2.2 = true then (if x6.length < 3518437208883 then (abutmentref21_Parse.l0 k x4 x5 (x6 ++ [(⟨bt109.1, bt109.2.1, bt109.2.2.1⟩ : S51)]) (wrap64 (x7 + 1))) else (none)) else (some (([] : List (S51)), false)))) else (none)) else (some (x6, x5))
def abutmentref21_Parse.f (k : Nat) (a0 : ByteArray) : Option ((List (S51)) × Bool) := (abutmentref07_Split.f k a0).bind fun bt101 => (abutmentref21_Parse.l0 k bt101.1 bt101.2 (([] : List (S51))) 0)
set_option maxHeartbeats 8000000 in
set_option maxRecDepth 100000 in
theorem abutmentref21_Parse.calls (k : Nat) (a0 : ByteArray) (r1 : List (S51)) (r2 : Bool) (w : World) (h : abutmentref21_Parse.f k a0 = some (r1, r2)) :
    Calls Try.prog 44 #[.string a0] w fun e w' => ∃ v0_ : Value, e = .returned (.tuple #[v0_, .bool r2]) ∧ Kd.R k51 51 w' w.heap.size (fun _ => True) v0_ r1 ∧ Below w.heap.size w w' := by
  have hu51 := Try.underlying51
  have HB := Aside0.mk (Below.refl w.heap.size w)
  have H : ((abutmentref07_Split.f k a0).bind fun bt101 => (abutmentref21_Parse.l0 k bt101.1 bt101.2 (([] : List (S51))) 0)) = some (r1, r2) := h
  clear h
  replace H := Option.bind_eq_some_iff.mp H
  obtain ⟨⟨t101, t102⟩, A20, H⟩ := H
  (try dsimp only at H)
  have A2 := Aside0.mk A20
  clear A20
  obtain ⟨y105, hy105⟩ : ∃ y_ : List (S51), y_ = (([] : List (S51))) := ⟨_, rfl⟩
  replace H : (abutmentref21_Parse.l0 k t101 t102 y105 0) = some (r1, r2) := by first | (rw [hy105]; with_reducible exact H) | (have H2_ := (Option.bind_some _ _).symm.trans H; rw [hy105]; with_reducible exact H2_) | (have H2_ := (Option.bind_some _ _).symm.trans H; with_reducible exact H2_) | with_reducible exact H | (rw [hy105]; exact H) | exact H
  have Ny105 := Aside0.mk hy105
  clear hy105
  have H' := Aside0.mk H
  clear H
  go_enter Try.func44, Try.ntmps44
  go_wp2_with (first | ((with_reducible refine gate_callee (f := 76) rfl ?_); refine goesL_ (some 12) rfl rfl Try.func76 (by kernel_rfl) rfl #[.string a0] rfl (by (try simp only [List.map_toArray, List.map_cons, List.map_nil]); first | done | rfl | (simp only [List.length_drop, List.length_take]; rfl)) ?_; (with_reducible refine (abutmentref07_Split.calls k a0 t101 t102 _ A2.out).mono ?_); rintro e w3 ⟨v103, rfl, ho0, hb⟩; refine ⟨_, rfl, ?_⟩; have n0_ := Aside0.mk (Kd.R_lower ho0 (below_size (by repeat (first | (with_reducible first | exact HB.out | apply below_alloc | apply pw_below_drewN | apply below_drew1) | exact HB.out)))); have n1_ := Aside0.mk (below_step (by repeat (first | (with_reducible first | exact HB.out | apply below_alloc | apply pw_below_drewN | apply below_drew1) | exact HB.out)) hb); clear HB; have HO104 := n0_; have HB := n1_; clear n0_ n1_; (try clear hb); (try clear hb2); (try clear hk); (try clear hi); (try clear ho0)) | ((with_reducible refine gate_dst (N := 15) rfl ?_); refine Kd.R_lit k51 _ 51 ?hg (N := 15) ?hd (xs := ([] : List (S51))) (inner := []) (ok := fun _ => True) (okp := fun _ => True) ?hr ?hp (fun _ hk => hk) trivial (Below.refl _ _) (Nat.le_refl _) (by simp) ?_; (case hd => rfl); (case hg => rfl); (case hr => first | (go_simp; done) | (go_simp; rfl)); (case hp => exact (Reps.none _ _)); intro v106 w4 ho5 hb hg_ hnew_; clear hg_ hnew_; (first | rw [← Ny105.out] at ho5 | (simp only [Int.reduceToNat] at ho5; rw [← Ny105.out] at ho5)); have n0_ := Aside0.mk (Kd.R_below (by (with_reducible repeat (first | apply Kd.R_alloc | apply Kd.R_drewN | apply Kd.R_drew)); exact HO104.out) hb); have n1_ := Aside0.mk (Kd.R_lower ho5 (below_size (by repeat (first | (with_reducible first | exact HB.out | apply below_alloc | apply pw_below_drewN | apply below_drew1) | exact HB.out)))); have n2_ := Aside0.mk (below_step (by repeat (first | (with_reducible first | exact HB.out | apply below_alloc | apply pw_below_drewN | apply below_drew1) | exact HB.out)) hb); clear HO104; clear HB; have HO104 := n0_; have HO107 := n1_; have HB := n2_; clear n0_ n1_ n2_; clear hb ho5))
  go_loopg [6, 7] k (fun kq v6 v7 w' => ∃ (x6_1 : List (S51)) (x7_1 : Int), v7 = .int .i64 x7_1 ∧ Aside0 (abutmentref21_Parse.l0 kq t101 t102 x6_1 x7_1 = some (r1, r2)) ∧ Aside0 (kq ≤ k) ∧ Aside0 (Kd.R Kd.string 9 w' w.heap.size (fun _ => True) v103 t101) ∧ Aside0 (Kd.R k51 51 w' w.heap.size (fun _ => True) v6 x6_1) ∧ Aside0 (Below w.heap.size w w'))
  case atStart => exact ⟨(y105), (0), (by first | rfl | (simp; done) | (simp [*]; done)), H', ⟨Nat.le_refl _⟩, ⟨by (with_reducible repeat (first | apply Kd.R_alloc | apply Kd.R_drewN | apply Kd.R_drew)); exact HO104.out⟩, ⟨by (with_reducible repeat (first | apply Kd.R_alloc | apply Kd.R_drewN | apply Kd.R_drew)); exact HO107.out⟩, ⟨by repeat (first | (with_reducible first | exact HB.out | apply below_alloc | apply pw_below_drewN | apply below_drew1) | exact HB.out)⟩⟩
  case round =>
    clear H'
    try clear p2
    try clear c4
    obtain ⟨x6_1, x7_1, rfl, HA, HK1, HO_4, HO_6, HB⟩ := hrel
    cases gk with
    | zero => exact absurd HA.out (by simp [abutmentref21_Parse.l0])
    | succ k1 =>
      have H := HA.out
      clear HA
      simp only [abutmentref21_Parse.l0] at H
      by_cases c6 : x7_1 < (t101.length : Int)
      · rw [if_pos c6] at H
        have c6b0 : decide (x7_1 < (t101.length : Int)) = true := decide_eq_true c6
        clear c6
        by_cases c7 : 0 ≤ x7_1
        · rw [if_pos c7] at H
          have c7b0 : decide (0 ≤ x7_1) = true := decide_eq_true c7
          clear c7
          replace H := Option.bind_eq_some_iff.mp H
          obtain ⟨⟨t109, t110, t111, t112⟩, A80, H⟩ := H
          (try dsimp only at H)
          have A8 := Aside0.mk A80
          clear A80
          by_cases c9 : t112 = true
          · subst c9
            have H1 : (if x6_1.length < 3518437208883 then (abutmentref21_Parse.l0 k1 t101 t102 (x6_1 ++ [(⟨t109, t110, t111⟩ : S51)]) (wrap64 (x7_1 + 1))) else (none)) = some (r1, r2) := by rw [if_pos rfl] at H; exact H
            clear H
            have H := H1
            clear H1
            by_cases c10 : x6_1.length < 3518437208883
            · rw [if_pos c10] at H
              have LMc10 := Aside0.mk c10
              clear c10
              obtain ⟨y114, hy114⟩ : ∃ y_ : List (S51), y_ = (x6_1 ++ [(⟨t109, t110, t111⟩ : S51)]) := ⟨_, rfl⟩
              replace H : (abutmentref21_Parse.l0 k1 t101 t102 y114 (wrap64 (x7_1 + 1))) = some (r1, r2) := by first | (rw [hy114]; with_reducible exact H) | (have H2_ := (Option.bind_some _ _).symm.trans H; rw [hy114]; with_reducible exact H2_) | (have H2_ := (Option.bind_some _ _).symm.trans H; with_reducible exact H2_) | with_reducible exact H | (rw [hy114]; exact H) | exact H
              have Ny114 := Aside0.mk hy114
              clear hy114
              have H' := Aside0.mk H
              clear H
              obtain ⟨Ao11, co11, eo11⟩ := Kd.R_slice HO_4.out
              subst eo11
              have p108 : 0 ≤ (x7_1 : Int) := of_decide_eq_true (by first | (with_reducible assumption) | assumption)
              have q108 : x7_1 < (t101.length : Int) := of_decide_eq_true (by first | (with_reducible assumption) | assumption)
              obtain ⟨ad108, e108, hx108_0⟩ := Kd.at_string (Kd.R_reads' HO_4.out).2.2 x7_1 p108 q108
              cases e108
              replace p108 := eq_true p108
              replace q108 := eq_true q108
              go_wp2_with (first | ((with_reducible refine gate_callee (f := 87) rfl ?_); refine goesL_ (some 27) rfl rfl Try.func87 (by kernel_rfl) rfl #[.string (rdOf ByteArray.empty t101 x7_1)] rfl (by (try simp only [List.map_toArray, List.map_cons, List.map_nil]); first | done | rfl | (simp only [List.length_drop, List.length_take]; rfl)) ?_; (with_reducible refine (abutmentref21_One.calls (rdOf ByteArray.empty t101 x7_1) t109 t110 t111 true _ A8.out).mono ?_); rintro e w12 ⟨rfl, hb⟩; refine ⟨_, rfl, ?_⟩; have n0_ := Aside0.mk (Kd.R_below (by (with_reducible repeat (first | apply Kd.R_alloc | apply Kd.R_drewN | apply Kd.R_drew)); exact HO_4.out) hb); have n1_ := Aside0.mk (Kd.R_below (by (with_reducible repeat (first | apply Kd.R_alloc | apply Kd.R_drewN | apply Kd.R_drew)); exact HO_6.out) hb); have n2_ := Aside0.mk (below_step (by repeat (first | (with_reducible first | exact HB.out | apply below_alloc | apply pw_below_drewN | apply below_drew1) | exact HB.out)) hb); clear HO_4; clear HO_6; clear HB; have HO_4 := n0_; have HO_6 := n1_; have HB := n2_; clear n0_ n1_ n2_; (try clear hb); (try clear hb2); (try clear hk); (try clear hi)) | ((with_reducible refine gate_dst (N := 8) rfl ?_); refine box_event ?hg (N := 8) ?hd (cs := #[.string (⟨#[]⟩ : ByteArray), .string (⟨#[]⟩ : ByteArray), .bool false]) (t := 51) ?hr ?_; (case hd => rfl); (case hg => rfl); (case hr => first | (go_simp; done) | (go_simp; rfl)); intro gb113 hg w13 hbox hb; have n0_ := Aside0.mk (Kd.R_below (by (with_reducible repeat (first | apply Kd.R_alloc | apply Kd.R_drewN | apply Kd.R_drew)); exact HO_4.out) hb); have n1_ := Aside0.mk (Kd.R_below (Kd.R_elderB (by (with_reducible repeat (first | apply Kd.R_alloc | apply Kd.R_drewN | apply Kd.R_drew)); exact HO_6.out) gb113 (Nat.le_of_eq hg.symm)) hb); have n2_ := Aside0.mk (below_step (by repeat (first | (with_reducible first | exact HB.out | apply below_alloc | apply pw_below_drewN | apply below_drew1) | exact HB.out)) hb); have n3_ := Aside0.mk (hbox); have n4_ := Aside0.mk ((by rw [hg]; exact (below_size (by repeat (first | (with_reducible first | exact HB.out | apply below_alloc | apply pw_below_drewN | apply below_drew1) | exact HB.out))) : w.heap.size ≤ gb113)); have n5_ := Aside0.mk ((by rw [hg]; exact (below_size (by repeat (first | (with_reducible first | exact HB.out | apply below_alloc | apply pw_below_drewN | apply below_drew1) | exact HB.out))) : w.heap.size ≤ gb113)); clear HO_4; clear HO_6; clear HB; have HO_4 := n0_; have HO_6 := n1_; have HB := n2_; have BK113 := n3_; have GW113 := n4_; have GE113 := n5_; clear n0_ n1_ n2_ n3_ n4_ n5_; clear hb hbox hg; have hcz14_0 : w13.cell? ⟨gb113, 0, none⟩ = some (.string (⟨#[]⟩ : ByteArray)) := (blk_cell BK113.out 0).trans rfl; have hcz14_1 : w13.cell? ⟨gb113, 1, none⟩ = some (.string (⟨#[]⟩ : ByteArray)) := (blk_cell BK113.out 1).trans rfl; have hcz14_2 : w13.cell? ⟨gb113, 2, none⟩ = some (.bool false) := (blk_cell BK113.out 2).trans rfl; have hfz14_0 := blk_frozen BK113.out 0; have hfz14_1 := blk_frozen BK113.out 1; have hfz14_2 := blk_frozen BK113.out 2) | ((with_reducible refine gate_builtin (b := .append) (xs := #[.tmp 32, .tmp 34]) rfl ?_); at_builtin; refine Kd.R_append k51 (w0 := w) w.heap.size rfl (.tmp 32) (.tmp 34) 55 51 (.agg #[(.string ⟨#[]⟩), (.string ⟨#[]⟩), (.bool false)]) 40 rfl Try.underlying55 info51 rfl (by decide) (by omega) u6 x6_1 (⟨t109, t110, t111⟩ : S51) [.string t109, .string t110, .bool t111] (fun k_ => k_ ≠ gb113) (fun _ => False) rfl (by first | (go_simp; done) | (go_simp; rfl)) ?aP (fun _ hk => hk.elim) ?aF ?aO ?aB ?aS ?aL ?_; (case aP => exact k51_mkM _ _ _ (⟨t109, t110, t111⟩ : S51)); (case aB => exact (by repeat (first | (with_reducible first | exact HB.out | apply below_alloc | apply pw_below_drewN | apply below_drew1 | refine below_set ?_ GE113.out) | exact HB.out))); (case aF => exact (fun k_ hk => Kd.freshB (g := gb113) (o := .cells #[.string t109, .string t110, .bool t111] 51 (0, 0)) (by (with_reducible repeat (first | refine blk_drewN ?_ _ | refine blk_drew ?_ | refine blk_alloc ?_ _)); refine blk_put (cs := #[.string t109, .string t110, .bool false]) ?_ 2 _ rfl; (with_reducible repeat (first | refine blk_drewN ?_ _ | refine blk_drew ?_ | refine blk_alloc ?_ _)); refine blk_put (cs := #[.string t109, .string (⟨#[]⟩ : ByteArray), .bool false]) ?_ 1 _ rfl; (with_reducible repeat (first | refine blk_drewN ?_ _ | refine blk_drew ?_ | refine blk_alloc ?_ _)); refine blk_put (cs := #[.string (⟨#[]⟩ : ByteArray), .string (⟨#[]⟩ : ByteArray), .bool false]) ?_ 0 _ rfl; (with_reducible repeat (first | refine blk_drewN ?_ _ | refine blk_drew ?_ | refine blk_alloc ?_ _)); exact BK113.out) k_ hk)); (case aO => exact (by (with_reducible repeat (first | apply Kd.R_alloc | apply Kd.R_drewN | apply Kd.R_drew)); exact Kd.R_mono (Kd.R_far (p := ⟨gb113, 2, none⟩) (Kd.R_far (p := ⟨gb113, 1, none⟩) (Kd.R_far (p := ⟨gb113, 0, none⟩) (Kd.R_mono HO_6.out (fun k_ hk => (⟨hk, hk.2⟩ : _ ∧ k_ ≠ gb113))) (fun _ hk => hk.2) (.string t109)) (fun _ hk => hk.2) (.string t110)) (fun _ hk => hk.2) (.bool t111)) (fun _ hk => hk.1.2))); (case aS => exact (below_size (by repeat (first | (with_reducible first | exact HB.out | apply below_alloc | apply pw_below_drewN | apply below_drew1 | refine below_set ?_ GE113.out) | exact HB.out)))); (case aL => have := LMc10.out; omega); intro v115 w15 ho hb hg hat; rw [← Ny114.out] at ho; have n0_ := Aside0.mk (Kd.R_over' (by (with_reducible repeat (first | apply Kd.R_alloc | apply Kd.R_drewN | apply Kd.R_drew)); exact (Kd.R_mono (Kd.R_far (p := ⟨gb113, 2, none⟩) (Kd.R_far (p := ⟨gb113, 1, none⟩) (Kd.R_far (p := ⟨gb113, 0, none⟩) (Kd.R_types HO_4.out BK113.out (by decide)) (fun _ hk => hk.2) (.string t109)) (fun _ hk => hk.2) (.string t110)) (fun _ hk => hk.2) (.bool t111)) (fun _ h_ => h_.1))) (Kd.R_typed (by (with_reducible repeat (first | apply Kd.R_alloc | apply Kd.R_drewN | apply Kd.R_drew)); exact (Kd.R_mono (Kd.R_far (p := ⟨gb113, 2, none⟩) (Kd.R_far (p := ⟨gb113, 1, none⟩) (Kd.R_far (p := ⟨gb113, 0, none⟩) (Kd.R_mono HO_6.out (fun k_ hk => (⟨hk, hk.2⟩ : _ ∧ k_ ≠ gb113))) (fun _ hk => hk.2) (.string t109)) (fun _ hk => hk.2) (.string t110)) (fun _ hk => hk.2) (.bool t111)) (fun _ h_ => h_.1)))) (by decide) hg); have n1_ := Aside0.mk (blk_grown (g := gb113) (o := .cells #[.string t109, .string t110, .bool t111] 51 (0, 0)) (by (with_reducible repeat (first | refine blk_drewN ?_ _ | refine blk_drew ?_ | refine blk_alloc ?_ _)); refine blk_put (cs := #[.string t109, .string t110, .bool false]) ?_ 2 _ rfl; (with_reducible repeat (first | refine blk_drewN ?_ _ | refine blk_drew ?_ | refine blk_alloc ?_ _)); refine blk_put (cs := #[.string t109, .string (⟨#[]⟩ : ByteArray), .bool false]) ?_ 1 _ rfl; (with_reducible repeat (first | refine blk_drewN ?_ _ | refine blk_drew ?_ | refine blk_alloc ?_ _)); refine blk_put (cs := #[.string (⟨#[]⟩ : ByteArray), .string (⟨#[]⟩ : ByteArray), .bool false]) ?_ 0 _ rfl; (with_reducible repeat (first | refine blk_drewN ?_ _ | refine blk_drew ?_ | refine blk_alloc ?_ _)); exact BK113.out) hg (Kd.R_away HO_6.out (fun _ hk => hk.2))); have n2_ := Aside0.mk (hb); have n3_ := Aside0.mk (ho); clear HO_4; clear BK113; clear HB; clear HO_6; have HO_4 := n0_; have BK113 := n1_; have HB := n2_; have HO116 := n3_; clear n0_ n1_ n2_ n3_; clear ho hb hg hat))
              go_roundg k1
              case measure => have := HK1.out; omega
              case rel => exact ⟨(y114), (wrap64 (x7_1 + 1)), (by first | rfl | (simp; done) | (simp [*]; done)), H', ⟨by have := HK1.out; omega⟩, ⟨by (with_reducible repeat (first | apply Kd.R_alloc | apply Kd.R_drewN | apply Kd.R_drew)); exact HO_4.out⟩, ⟨by (with_reducible repeat (first | apply Kd.R_alloc | apply Kd.R_drewN | apply Kd.R_drew)); exact Kd.R_mono HO116.out (fun _ hk => trivial)⟩, ⟨by repeat (first | (with_reducible first | exact HB.out | apply below_alloc | apply pw_below_drewN | apply below_drew1 | refine below_set ?_ GE113.out) | exact HB.out)⟩⟩
            · rw [if_neg c10] at H
              exact absurd H (by simp)
          · replace c9 := Bool.eq_false_iff.mpr c9
            subst c9
            have H1 : (some (([] : List (S51)), false)) = some (r1, r2) := by rw [if_neg (show ¬ (false = true) by decide)] at H; exact H
            clear H
            have H := H1
            clear H1
            simp only [Option.some.injEq, Prod.mk.injEq] at H
            obtain ⟨rfl, rfl⟩ := H
            obtain ⟨Ao16, co16, eo16⟩ := Kd.R_slice HO_4.out
            subst eo16
            have p108 : 0 ≤ (x7_1 : Int) := of_decide_eq_true (by first | (with_reducible assumption) | assumption)
            have q108 : x7_1 < (t101.length : Int) := of_decide_eq_true (by first | (with_reducible assumption) | assumption)
            obtain ⟨ad108, e108, hx108_0⟩ := Kd.at_string (Kd.R_reads' HO_4.out).2.2 x7_1 p108 q108
            cases e108
            replace p108 := eq_true p108
            replace q108 := eq_true q108
            go_wp2_with (first | ((with_reducible refine gate_callee (f := 87) rfl ?_); refine goesL_ (some 27) rfl rfl Try.func87 (by kernel_rfl) rfl #[.string (rdOf ByteArray.empty t101 x7_1)] rfl (by (try simp only [List.map_toArray, List.map_cons, List.map_nil]); first | done | rfl | (simp only [List.length_drop, List.length_take]; rfl)) ?_; (with_reducible refine (abutmentref21_One.calls (rdOf ByteArray.empty t101 x7_1) t109 t110 t111 false _ A8.out).mono ?_); rintro e w17 ⟨rfl, hb⟩; refine ⟨_, rfl, ?_⟩; have n0_ := Aside0.mk (Kd.R_below (by (with_reducible repeat (first | apply Kd.R_alloc | apply Kd.R_drewN | apply Kd.R_drew)); exact HO_4.out) hb); have n1_ := Aside0.mk (Kd.R_below (by (with_reducible repeat (first | apply Kd.R_alloc | apply Kd.R_drewN | apply Kd.R_drew)); exact HO_6.out) hb); have n2_ := Aside0.mk (below_step (by repeat (first | (with_reducible first | exact HB.out | apply below_alloc | apply pw_below_drewN | apply below_drew1) | exact HB.out)) hb); clear HO_4; clear HO_6; clear HB; have HO_4 := n0_; have HO_6 := n1_; have HB := n2_; clear n0_ n1_ n2_; (try clear hb); (try clear hb2); (try clear hk); (try clear hi)) | ((with_reducible refine gate_dst (N := 8) rfl ?_); refine box_event ?hg (N := 8) ?hd (cs := #[.string (⟨#[]⟩ : ByteArray), .string (⟨#[]⟩ : ByteArray), .bool false]) (t := 51) ?hr ?_; (case hd => rfl); (case hg => rfl); (case hr => first | (go_simp; done) | (go_simp; rfl)); intro gb113 hg w18 hbox hb; have n0_ := Aside0.mk (Kd.R_below (by (with_reducible repeat (first | apply Kd.R_alloc | apply Kd.R_drewN | apply Kd.R_drew)); exact HO_4.out) hb); have n1_ := Aside0.mk (Kd.R_below (Kd.R_elderB (by (with_reducible repeat (first | apply Kd.R_alloc | apply Kd.R_drewN | apply Kd.R_drew)); exact HO_6.out) gb113 (Nat.le_of_eq hg.symm)) hb); have n2_ := Aside0.mk (below_step (by repeat (first | (with_reducible first | exact HB.out | apply below_alloc | apply pw_below_drewN | apply below_drew1) | exact HB.out)) hb); have n3_ := Aside0.mk (hbox); have n4_ := Aside0.mk ((by rw [hg]; exact (below_size (by repeat (first | (with_reducible first | exact HB.out | apply below_alloc | apply pw_below_drewN | apply below_drew1) | exact HB.out))) : w.heap.size ≤ gb113)); have n5_ := Aside0.mk ((by rw [hg]; exact (below_size (by repeat (first | (with_reducible first | exact HB.out | apply below_alloc | apply pw_below_drewN | apply below_drew1) | exact HB.out))) : w.heap.size ≤ gb113)); clear HO_4; clear HO_6; clear HB; have HO_4 := n0_; have HO_6 := n1_; have HB := n2_; have BK113 := n3_; have GW113 := n4_; have GE113 := n5_; clear n0_ n1_ n2_ n3_ n4_ n5_; clear hb hbox hg; have hcz19_0 : w18.cell? ⟨gb113, 0, none⟩ = some (.string (⟨#[]⟩ : ByteArray)) := (blk_cell BK113.out 0).trans rfl; have hcz19_1 : w18.cell? ⟨gb113, 1, none⟩ = some (.string (⟨#[]⟩ : ByteArray)) := (blk_cell BK113.out 1).trans rfl; have hcz19_2 : w18.cell? ⟨gb113, 2, none⟩ = some (.bool false) := (blk_cell BK113.out 2).trans rfl; have hfz19_0 := blk_frozen BK113.out 0; have hfz19_1 := blk_frozen BK113.out 1; have hfz19_2 := blk_frozen BK113.out 2))
            go_ret2
            exact ⟨_, by first | rfl | (simp [errW_none, errW_some] <;> rfl) | (simp [*, errW_none, errW_some] <;> rfl), by first | exact Kd.R_nil _ _ _ _ _ | exact Kd.N_nil _ _ _ _ _ | exact Kd.V_nil _ _ _ _ _ | exact Kd.Q_nil _ _ _ _ _ | exact Kd.S_nil _ _ _ _ _, by repeat (first | (with_reducible first | exact HB.out | apply below_alloc | apply pw_below_drewN | apply below_drew1 | refine below_set ?_ GE113.out) | exact HB.out)⟩
        · rw [if_neg c7] at H
          exact absurd H (by simp)
      · rw [if_neg c6] at H
        have c6b0 : decide (x7_1 < (t101.length : Int)) = false := decide_eq_false c6
        clear c6
        simp only [Option.some.injEq, Prod.mk.injEq] at H
        obtain ⟨rfl, rfl⟩ := H
        obtain ⟨Ao20, co20, eo20⟩ := Kd.R_slice HO_4.out
        subst eo20
        go_wp2
        go_ret2
        exact ⟨_, by first | rfl | (simp [errW_none, errW_some] <;> rfl) | (simp [*, errW_none, errW_some] <;> rfl), by (with_reducible repeat (first | apply Kd.R_alloc | apply Kd.R_drewN | apply Kd.R_drew)); exact HO_6.out, by repeat (first | (with_reducible first | exact HB.out | apply below_alloc | apply pw_below_drewN | apply below_drew1) | exact HB.out)⟩
end Go.Proofs.Ytjnhghplfdiijaa.Q

namespace Go.Proofs.Ytjnhghplfdiijaa.Q
open Go.RowKit Go.Proofs.YtjnhghplfdiijaaW.PrintWords Go.Proofs.YtjnhghplfdiijaaW.PrintLast Go.Proofs.YtjnhghplfdiijaaW.PrintMore
attribute [local go_sem] max2_int min2_int max_two min_two max_three min_three max_four min_four
set_option linter.unusedVariables false
set_option linter.unusedSimpArgs false
theorem eqA51 (d : Nat) (w : World) (x0 y0 : ByteArray) (x1 y1 : ByteArray) (x2 y2 : Bool) :
    (Op.equalIn (d + 2) 51 (.agg #[.string x0, .string x1, .bool x2]) (.agg #[.string y0, .string y1, .bool y2])).run Try.prog w = .ok (x0.toList == y0.toList && (x1.toList == y1.toList && (x2 == y2))) w := by
  refine eqA_of Try.underlying51 (by kernel_rfl) ?_
  refine eqf_cons (by rfl) (by go_simp; rfl) (by go_simp; rfl) (by go_simp) ?_
  refine eqf_cons (by rfl) (by go_simp; rfl) (by go_simp; rfl) (by go_simp) ?_
  exact eqf_last (by rfl) (by go_simp; rfl) (by go_simp; rfl) (by go_simp)
end Go.Proofs.Ytjnhghplfdiijaa.Q

namespace Go.Proofs.Ytjnhghplfdiijaa.Q
open Go.RowKit Go.Proofs.YtjnhghplfdiijaaW.PrintWords Go.Proofs.YtjnhghplfdiijaaW.PrintLast Go.Proofs.YtjnhghplfdiijaaW.PrintMore
attribute [local go_sem] max2_int min2_int max_two min_two max_three min_three max_four min_four
set_option linter.unusedVariables false
set_option linter.unusedSimpArgs false
attribute [local go_sem high] eqA51
def abutmentref21_Same.l0 : Nat → List (S51) → List (S51) → Int → Option (Bool)
  | 0, _, _, _ => none
  | k + 1, x0, x1, x5 => if x5 < (x0.length : Int) then (if 0 ≤ x5 then (if x5 < (x1.length : Int) then (if (!((((rd_T51 x0 x5).f0).toList) == (((rd_T51 x1 x5).f0).toList)) || (!((((rd_T51 x0 x5).f1).toList) == (((rd_T51 x1 x5).f1).toList)) || (!(((rd_T51 x0 x5).f2) == ((rd_T51 x1 x5).f2))))) = true then (some false) else (abutmentref21_Same.l0 k x0 x1 (wrap64 (x5 + 1)))) else (none)) else (none)) else (some true)
def abutmentref21_Same.f (k : Nat) (l0 : List (S51)) (l1 : List (S51)) : Option (Bool) := if (l0.length : Int) = (l1.length : Int) then (abutmentref21_Same.l0 k l0 l1 0) else (some false)
set_option maxHeartbeats 8000000 in
set_option maxRecDepth 100000 in
theorem abutmentref21_Same.calls (k : Nat) (A0 : Option Addr) (c0 : Nat) (l0 : List (S51)) (A1 : Option Addr) (c1 : Nat) (l1 : List (S51)) (r : Bool) (w : World) (hr0 : Kd.C k51 w A0 l0.length l0) (hc0 : l0.length ≤ c0) (hr1 : Kd.C k51 w A1 l1.length l1) (hc1 : l1.length ≤ c1) (h : abutmentref21_Same.f k l0 l1 = some r) :
    Calls Try.prog 36 #[.slice A0 l0.length c0, .slice A1 l1.length c1] w fun e w' => e = .returned (.bool r) ∧ Drawn0 w w' := by
  have hu51 := Try.underlying51
  have HR0 := Aside0.mk hr0
  have HC0 := Aside0.mk hc0
  clear hr0 hc0
  have HR1 := Aside0.mk hr1
  have HC1 := Aside0.mk hc1
  clear hr1 hc1
  have H : (if (l0.length : Int) = (l1.length : Int) then (abutmentref21_Same.l0 k l0 l1 0) else (some false)) = some r := h
  clear h
  by_cases c3 : (l0.length : Int) = (l1.length : Int)
  · rw [if_pos c3] at H
    have c3b0 : ((l0.length : Int) == (l1.length : Int)) = true := beq_iff_eq.mpr c3
    have c3b1 : ((l0.length : Int) != (l1.length : Int)) = false := bne_eq_false_iff_eq.mpr c3
    have c3b2 : (l0.length == l1.length) = true := by first | simpa using c3 | (simp at c3 ⊢; omega)
    clear c3
    have H' := Aside0.mk H
    clear H
    go_enter Try.func36, Try.ntmps36
    go_wp2
    repeat (go_quiet (fail); try go_wp2)
    go_loopg [5] k (fun kq v5 w' => ∃ (x5_1 : Int), v5 = .int .i64 x5_1 ∧ Aside0 (abutmentref21_Same.l0 kq l0 l1 x5_1 = some r) ∧ Aside0 (kq ≤ k) ∧ Drawn0 w w')
    case atStart => exact ⟨(0), (by first | rfl | (simp; done) | (simp [*]; done)), H', ⟨Nat.le_refl _⟩, by repeat (first | exact Drawn0.refl _ | apply Drawn0.step)⟩
    case round =>
      clear H'
      try clear c1
      try clear p2
      try clear c3
      try clear c3b0
      try clear c3b1
      try clear c3b2
      obtain ⟨x5_1, rfl, HA, HK1, ⟨m1, rfl⟩⟩ := hrel
      cases gk with
      | zero => exact absurd HA.out (by simp [abutmentref21_Same.l0])
      | succ k1 =>
        have H := HA.out
        clear HA
        simp only [abutmentref21_Same.l0] at H
        by_cases c4 : x5_1 < (l0.length : Int)
        · rw [if_pos c4] at H
          have c4b0 : decide (x5_1 < (l0.length : Int)) = true := decide_eq_true c4
          clear c4
          by_cases c5 : 0 ≤ x5_1
          · rw [if_pos c5] at H
            have c5b0 : decide (0 ≤ x5_1) = true := decide_eq_true c5
            clear c5
            by_cases c6 : x5_1 < (l1.length : Int)
            · rw [if_pos c6] at H
              have c6b0 : decide (x5_1 < (l1.length : Int)) = true := decide_eq_true c6
              clear c6
              by_cases c7 : (!((((rd_T51 l0 x5_1).f0).toList) == (((rd_T51 l1 x5_1).f0).toList)) || (!((((rd_T51 l0 x5_1).f1).toList) == (((rd_T51 l1 x5_1).f1).toList)) || (!(((rd_T51 l0 x5_1).f2) == ((rd_T51 l1 x5_1).f2))))) = true
              · rw [if_pos c7] at H
                have c7b0 : (!((((rd_T51 l0 x5_1).f0).toList) == (((rd_T51 l1 x5_1).f0).toList)) || (!((((rd_T51 l0 x5_1).f1).toList) == (((rd_T51 l1 x5_1).f1).toList)) || (!(((rd_T51 l0 x5_1).f2) == ((rd_T51 l1 x5_1).f2))))) = true := c7
                clear c7
                obtain rfl := Option.some.inj H
                have p101 : 0 ≤ (x5_1 : Int) := of_decide_eq_true (by first | (with_reducible assumption) | assumption)
                have q101 : x5_1 < (l0.length : Int) := of_decide_eq_true (by first | (with_reducible assumption) | assumption)
                obtain ⟨ad101, e101, hx101_0, hx101_1, hx101_2⟩ := at_T51 HR0.out x5_1 p101 q101
                cases e101
                replace p101 := eq_true p101
                replace q101 := eq_true q101
                have p102 : 0 ≤ (x5_1 : Int) := of_decide_eq_true (by first | (with_reducible assumption) | assumption)
                have q102 : x5_1 < (l1.length : Int) := of_decide_eq_true (by first | (with_reducible assumption) | assumption)
                obtain ⟨ad102, e102, hx102_0, hx102_1, hx102_2⟩ := at_T51 HR1.out x5_1 p102 q102
                cases e102
                replace p102 := eq_true p102
                replace q102 := eq_true q102
                go_wp2
                repeat (go_quiet (fail); try go_wp2)
                go_ret
                exact ⟨by first | rfl | (simp; done) | (simp [*]; done), by repeat (first | exact Drawn0.refl _ | apply Drawn0.step)⟩
              · rw [if_neg c7] at H
                have c7b0 : (!((((rd_T51 l0 x5_1).f0).toList) == (((rd_T51 l1 x5_1).f0).toList)) || (!((((rd_T51 l0 x5_1).f1).toList) == (((rd_T51 l1 x5_1).f1).toList)) || (!(((rd_T51 l0 x5_1).f2) == ((rd_T51 l1 x5_1).f2))))) = false := by simpa using c7
                clear c7
                have H' := Aside0.mk H
                clear H
                have p101 : 0 ≤ (x5_1 : Int) := of_decide_eq_true (by first | (with_reducible assumption) | assumption)
                have q101 : x5_1 < (l0.length : Int) := of_decide_eq_true (by first | (with_reducible assumption) | assumption)
                obtain ⟨ad101, e101, hx101_0, hx101_1, hx101_2⟩ := at_T51 HR0.out x5_1 p101 q101
                cases e101
                replace p101 := eq_true p101
                replace q101 := eq_true q101
                have p102 : 0 ≤ (x5_1 : Int) := of_decide_eq_true (by first | (with_reducible assumption) | assumption)
                have q102 : x5_1 < (l1.length : Int) := of_decide_eq_true (by first | (with_reducible assumption) | assumption)
                obtain ⟨ad102, e102, hx102_0, hx102_1, hx102_2⟩ := at_T51 HR1.out x5_1 p102 q102
                cases e102
                replace p102 := eq_true p102
                replace q102 := eq_true q102
                go_wp2
                repeat (go_quiet (fail); try go_wp2)
                go_roundg k1
                case measure => have := HK1.out; omega
                case rel => exact ⟨(wrap64 (x5_1 + 1)), (by first | rfl | (simp; done) | (simp [*]; done)), H', ⟨by have := HK1.out; omega⟩, by repeat (first | exact Drawn0.refl _ | apply Drawn0.step)⟩
            · rw [if_neg c6] at H
              exact absurd H (by simp)
          · rw [if_neg c5] at H
            exact absurd H (by simp)
        · rw [if_neg c4] at H
          have c4b0 : decide (x5_1 < (l0.length : Int)) = false := decide_eq_false c4
          clear c4
          obtain rfl := Option.some.inj H
          go_wp2
          repeat (go_quiet (fail); try go_wp2)
          go_ret
          exact ⟨by first | rfl | (simp; done) | (simp [*]; done), by repeat (first | exact Drawn0.refl _ | apply Drawn0.step)⟩
  · rw [if_neg c3] at H
    have c3b0 : ((l0.length : Int) == (l1.length : Int)) = false := beq_eq_false_iff_ne.mpr c3
    have c3b1 : ((l0.length : Int) != (l1.length : Int)) = true := bne_iff_ne.mpr c3
    have c3b2 : (l0.length == l1.length) = false := by first | simpa using c3 | (simp at c3 ⊢; omega)
    obtain rfl := Option.some.inj H
    go_enter Try.func36, Try.ntmps36
    go_wp2
    repeat (go_quiet (fail); try go_wp2)
    go_ret
    exact ⟨by first | rfl | (simp; done) | (simp [*]; done), by repeat (first | exact Drawn0.refl _ | apply Drawn0.step)⟩
end Go.Proofs.Ytjnhghplfdiijaa.Q

namespace Go.Proofs.Ytjnhghplfdiijaa.Q
open Go.RowKit Go.Proofs.YtjnhghplfdiijaaW.PrintWords Go.Proofs.YtjnhghplfdiijaaW.PrintLast Go.Proofs.YtjnhghplfdiijaaW.PrintMore
set_option linter.unusedVariables false
set_option linter.unusedSimpArgs false
theorem at_dir {L : List S51} {j : Nat} {x : S51} {r : List S51} (h : L.drop j = x :: r) : j < L.length ∧ rd_T51 L (j : Int) = x ∧ L.drop (j + 1) = r ∧ x ∈ L := by
  have h1 : j < L.length := by
    rcases Nat.lt_or_ge j L.length with h1 | h1
    · exact h1
    · rw [List.drop_eq_nil_of_le h1] at h; cases h
  have e := List.drop_eq_getElem_cons h1
  rw [h] at e
  injection e with e1 e2
  exact ⟨h1, by simp [rd_T51, h1, e1], e2.symm, by rw [e1]; exact List.getElem_mem h1⟩
theorem at_dir_nil {L : List S51} {j : Nat} (h : L.drop j = []) : L.length ≤ j := by
  rcases Nat.lt_or_ge j L.length with h1 | h1
  · rw [List.drop_eq_getElem_cons h1] at h; cases h
  · exact h1
theorem same_loop (l : List S51) (hl : l.length ≤ 9000000000) : ∀ (r : List S51) (j : Nat), l.drop j = r → Ev (fun k => abutmentref21_Same.l0 k l l (j : Int)) true
  | [], j, h => by
    have h1 := at_dir_nil h
    refine Ev.step (fun k => ?_) (Ev.now _)
    simp only [abutmentref21_Same.l0]
    rw [if_neg (by omega)]
  | x :: r, j, h => by
    obtain ⟨h1, h2, h3, h4⟩ := at_dir h
    have hw : Aside0 (wrap64 ((j : Int) + 1) = ((j + 1 : Nat) : Int)) := ⟨by rw [wrap_small (by omega) (by omega)]; omega⟩
    refine Ev.step (fun k => ?_) (same_loop l hl r (j + 1) h3)
    simp only [abutmentref21_Same.l0]
    rw [if_pos (by omega), if_pos (by omega), if_pos (by omega), hw.out, if_neg (by simp)]
theorem ev_same (l : List S51) (hl : l.length ≤ 9000000000) : Ev (fun k => abutmentref21_Same.f k l l) true := by
  unfold abutmentref21_Same.f
  simp only [if_true]
  exact same_loop l hl l 0 rfl
def isO (e : ByteArray) : Bool := (oneR e).2.2.2
def dirO (e : ByteArray) : S51 := ⟨(oneR e).1, (oneR e).2.1, (oneR e).2.2.1⟩
theorem ev_one (s : ByteArray) (hs : s.size ≤ 100000000) : ∃ r, Ev (fun k => cache_one.f k s) r ∧ r.2.2.2 = isO s ∧ (isO s = true → (⟨r.1, r.2.1, r.2.2.1⟩ : S51) = dirO s) := by
  obtain ⟨r, h1, h2, h3⟩ := one_plain s hs (2 * s.size + 6) (by omega)
  refine ⟨r, Ev.of (fun k => cache_one.mono s k) h1, h2, fun h => ?_⟩
  rw [h3 (by rw [h2]; exact h)]
  rfl
theorem pparse_bad (L : List ByteArray) (hL : L.length ≤ 1000000) (hx : ∀ x ∈ L, x.size ≤ 100000000) : ∀ (r : List ByteArray) (j : Nat) (acc : List S51), L.drop j = r → acc.length ≤ j →
    Ev (fun k => cache_Parse.l0 k false acc L (L.length : Int) (j : Int)) (([] : List S51), false)
  | [], j, acc, h, ha => by
    have h1 := at_list_nil h
    refine Ev.step (fun k => ?_) (Ev.now _)
    simp only [cache_Parse.l0]
    rw [if_neg (by omega), if_neg (by simp)]
  | x :: r, j, acc, h, ha => by
    obtain ⟨h1, h2, h3, h4⟩ := at_list h
    have hw : Aside0 (wrap64 ((j : Int) + 1) = ((j + 1 : Nat) : Int)) := ⟨by rw [wrap_small (by omega) (by omega)]; omega⟩
    obtain ⟨o, ho, _, _⟩ := ev_one x (hx x h4)
    refine Ev.step (f := fun k => (cache_one.f k x).bind fun bt => cache_Parse.l0 k false (acc ++ [⟨bt.1, bt.2.1, bt.2.2.1⟩]) L (L.length : Int) ((j + 1 : Nat) : Int)) (fun k => ?_) (Ev.bind ho (pparse_bad L hL hx r (j + 1) _ h3 (by simp; omega)))
    simp only [cache_Parse.l0]
    rw [if_pos (by omega), if_pos (by omega), if_pos (by omega), h2, hw.out]
    simp only [Bool.false_eq_true, if_false]
    have hlt : acc.length < 3518437208883 := by omega
    simp only [if_pos hlt]
theorem pparse_loop (L : List ByteArray) (hL : L.length ≤ 1000000) (hx : ∀ x ∈ L, x.size ≤ 100000000) : ∀ (r : List ByteArray) (j : Nat) (acc : List S51), L.drop j = r → acc.length ≤ j →
    Ev (fun k => cache_Parse.l0 k true acc L (L.length : Int) (j : Int)) (if r.all isO = true then (acc ++ r.map dirO, true) else ([], false))
  | [], j, acc, h, ha => by
    have h1 := at_list_nil h
    refine Ev.step (fun k => ?_) (Ev.now _)
    simp only [cache_Parse.l0]
    rw [if_neg (by omega), if_pos trivial]
    simp
  | x :: r, j, acc, h, ha => by
    obtain ⟨h1, h2, h3, h4⟩ := at_list h
    have hw : Aside0 (wrap64 ((j : Int) + 1) = ((j + 1 : Nat) : Int)) := ⟨by rw [wrap_small (by omega) (by omega)]; omega⟩
    obtain ⟨o, ho, ho2, ho3⟩ := ev_one x (hx x h4)
    refine Ev.step (f := fun k => (cache_one.f k x).bind fun bt => cache_Parse.l0 k bt.2.2.2 (acc ++ [⟨bt.1, bt.2.1, bt.2.2.1⟩]) L (L.length : Int) ((j + 1 : Nat) : Int)) (fun k => ?_) (Ev.bind ho ?_)
    · simp only [cache_Parse.l0]
      rw [if_pos (by omega), if_pos (by omega), if_pos (by omega), h2, hw.out]
      have hlt : acc.length < 3518437208883 := by omega
      simp only [if_pos hlt, if_true]
    · rw [ho2, List.all_cons]
      cases hb : isO x with
      | false =>
        simp only [Bool.false_and, Bool.false_eq_true, if_false]
        exact pparse_bad L hL hx r (j + 1) _ h3 (by simp; omega)
      | true =>
        rw [ho3 hb]
        have := pparse_loop L hL hx r (j + 1) (acc ++ [dirO x]) h3 (by simp; omega)
        rw [Bool.true_and, List.map_cons]
        rw [List.append_assoc] at this
        exact this
theorem rparse_loop (L : List ByteArray) (hL : L.length ≤ 1000000) (hx : ∀ x ∈ L, x.size ≤ 100000000) (ok : Bool) : ∀ (r : List ByteArray) (j : Nat) (acc : List S51), L.drop j = r → acc.length ≤ j →
    Ev (fun k => abutmentref21_Parse.l0 k L ok acc (j : Int)) (if r.all isO = true then (acc ++ r.map dirO, ok) else ([], false))
  | [], j, acc, h, ha => by
    have h1 := at_list_nil h
    refine Ev.step (fun k => ?_) (Ev.now _)
    simp only [abutmentref21_Parse.l0]
    rw [if_neg (by omega)]
    simp
  | x :: r, j, acc, h, ha => by
    obtain ⟨h1, h2, h3, h4⟩ := at_list h
    have hw : Aside0 (wrap64 ((j : Int) + 1) = ((j + 1 : Nat) : Int)) := ⟨by rw [wrap_small (by omega) (by omega)]; omega⟩
    have hlt : acc.length < 3518437208883 := by omega
    have hone : abutmentref21_One.f x = some (oneR x) := by unfold abutmentref21_One.f; rw [if_pos (by have := hx x h4; omega)]
    rw [List.all_cons]
    cases hb : isO x with
    | false =>
      simp only [Bool.false_and, Bool.false_eq_true, if_false]
      refine Ev.step (fun k => ?_) (Ev.now _)
      simp only [abutmentref21_Parse.l0]
      rw [if_pos (by omega), if_pos (by omega), h2, hone]
      simp only [Option.bind_some]
      rw [if_neg (by show ¬ isO x = true; rw [hb]; simp)]
    | true =>
      have := rparse_loop L hL hx ok r (j + 1) (acc ++ [dirO x]) h3 (by simp; omega)
      rw [Bool.true_and, List.map_cons]
      rw [List.append_assoc] at this
      refine Ev.step (fun k => ?_) this
      simp only [abutmentref21_Parse.l0]
      rw [if_pos (by omega), if_pos (by omega), h2, hone, hw.out]
      simp only [Option.bind_some]
      rw [if_pos (show (oneR x).2.2.2 = true from hb), if_pos hlt]
      rfl
def parseO (L : List ByteArray) (ok : Bool) : List S51 × Bool := if ok = true ∧ L.all isO = true then (L.map dirO, true) else ([], false)
/-- Both parse alike. -/
theorem ev_cparse (s : ByteArray) (hs : s.size ≤ 900000) : ∃ L ok, lists_Split.f s = some (L, ok) ∧ L.length ≤ 1000000 ∧ (∀ x ∈ L, x.size ≤ 100000000) ∧ Ev (fun k => cache_Parse.f k s) (parseO L ok) ∧ Ev (fun k => abutmentref21_Parse.f k s) (parseO L ok) := by
  obtain ⟨L, ok, h1, h2, h3, h4⟩ := split_both s hs
  have hnil : ok = false → L = [] := by
    intro e
    subst e
    unfold lists_Split.f at h1
    split at h1
    · simp only [Option.some.injEq] at h1
      split at h1
      · cases h1
      · injection h1 with h1 _; exact h1.symm
    · cases h1
  refine ⟨L, ok, h1, h3, h4, ?_, ?_⟩
  · unfold cache_Parse.f
    rw [h1]
    simp only [Option.bind_some]
    cases ok with
    | false => exact pparse_bad L h3 h4 L 0 [] rfl (Nat.le_refl _)
    | true =>
      have := pparse_loop L h3 h4 L 0 [] rfl (Nat.le_refl _)
      simp only [List.nil_append] at this
      unfold parseO
      simp only [true_and]
      exact this
  · unfold abutmentref21_Parse.f
    refine Ev.bind h2 ?_
    have := rparse_loop L h3 h4 ok L 0 [] rfl (Nat.le_refl _)
    simp only [List.nil_append] at this
    unfold parseO
    cases ok with
    | true => simp only [true_and]; exact this
    | false =>
      rw [hnil rfl] at this ⊢
      simpa using this
end Go.Proofs.Ytjnhghplfdiijaa.Q

namespace Go.Proofs.Ytjnhghplfdiijaa.Q
open Go.RowKit Go.Proofs.YtjnhghplfdiijaaW.PrintWords Go.Proofs.YtjnhghplfdiijaaW.PrintLast Go.Proofs.YtjnhghplfdiijaaW.PrintMore Go.Lib Go.Shelf
set_option linter.unusedVariables false
set_option linter.unusedSimpArgs false
theorem getb_cut (s : ByteArray) (pos k : Nat) (hp : pos ≤ s.size) : ((s.extract pos s.size).get! (0 + k)).toNat = (s.get! (pos + k)).toNat := by
  by_cases h : pos + k < s.size
  · have h2 : 0 + k < (s.extract pos s.size).size := by simp; omega
    rw [getb_lt _ _ h2, getb_lt _ _ h]
    congr 1
    rw [bt_nat, bt_nat, tl_extract, List.getElem?_take, if_pos (by omega), List.getElem?_drop, Nat.zero_add]
  · rw [getb_out _ _ h, getb_out _ _ (by simp; omega)]
theorem decode_cut (s : ByteArray) (pos : Nat) (hp : pos ≤ s.size) : Utf8.decode (s.extract pos s.size) 0 = Utf8.decode s pos := by
  have hz : (s.extract pos s.size).size = s.size - pos := by simp
  unfold Utf8.decode
  simp only [getb_cut s pos _ hp, hz]
  have e : ∀ k, decide (0 + k < s.size - pos) = decide (pos + k < s.size) := fun k => by
    rw [decide_eq_decide]; omega
  simp only [e]
theorem decode_pos (s : ByteArray) (pos : Nat) (hlt : pos < s.size) : 1 ≤ (Utf8.decode s pos).2 := by
  by_cases ha : (s.get! pos).toNat < 128
  · have hd := decode_ascii s pos hlt (by have := getb_lt s pos hlt; simp [bt, hlt] at this; omega)
    rw [hd]; exact Nat.le_refl _
  · exact (decode_high s pos hlt (by have := getb_lt s pos hlt; simp [bt, hlt] at this; omega)).2
/-- A backslash ahead of each quotation mark and backslash. -/
def quoteI (l : List Int) : List Int := l.flatMap fun c => if c = 34 ∨ c = 92 then [92, c] else [c]
theorem quoteI_append (a b : List Int) : quoteI (a ++ b) = quoteI a ++ quoteI b := by simp [quoteI]
theorem quoteI_high (l : List Int) (h : ∀ c ∈ l, 128 ≤ c) : quoteI l = l := by
  induction l with
  | nil => rfl
  | cons c l ih =>
    have hc := h c (by simp)
    have := ih (fun x hx => h x (by simp [hx]))
    unfold quoteI at this ⊢
    rw [List.flatMap_cons, this, if_neg (by omega)]
    rfl
theorem quoteI_length (l : List Int) : (quoteI l).length ≤ 2 * l.length := by
  induction l with
  | nil => simp [quoteI]
  | cons c l ih =>
    unfold quoteI at ih ⊢
    rw [List.flatMap_cons, List.length_append]
    split <;> simp only [List.length_cons, List.length_nil] <;> omega
theorem bytesOf_extract (s : ByteArray) (a b : Nat) : bytesOf (s.extract a b) = ((bytesOf s).drop a).take (b - a) := by
  have := tl_extract s a b
  unfold tl at this
  unfold bytesOf
  rw [this, List.map_take, List.map_drop]
theorem drop_take_one {α : Type} {l : List α} {i : Nat} {c : α} (h : l[i]? = some c) : (l.drop i).take 1 = [c] := by
  obtain ⟨hlt, rfl⟩ := List.getElem?_eq_some_iff.1 h
  rw [List.drop_eq_getElem_cons hlt]
  rfl
theorem quote_step (s : ByteArray) (pos : Nat) (hlt : pos < s.size) :
    quoteI ((bytesOf s).take (pos + (Utf8.decode s pos).2)) = quoteI ((bytesOf s).take pos) ++ ((if (Utf8.decode s pos).1 = 34 ∨ (Utf8.decode s pos).1 = 92 then [92] else []) ++ bytesOf (s.extract pos (pos + (Utf8.decode s pos).2))) := by
  rw [bytesOf_extract, List.take_add, quoteI_append, show pos + (Utf8.decode s pos).2 - pos = (Utf8.decode s pos).2 by omega]
  congr 1
  by_cases ha : (s.get! pos).toNat < 128
  · have hd := decode_ascii s pos hlt (by have := getb_lt s pos hlt; simp [bt, hlt] at this; omega)
    have hr := bt_range s (pos : Int)
    have hb : ((s[pos]'hlt).toNat : Int) = bt s (pos : Int) := bt_at s (pos : Int) hlt
    have hg := bytesOf_get s pos hlt
    rw [hd]
    obtain ⟨c, hc⟩ : ∃ c, (bytesOf s)[pos]? = some c ∧ c = bt s (pos : Int) := ⟨_, hg, rfl⟩
    have e : ((bytesOf s).drop pos).take 1 = [c] := by
      rw [drop_take_one hc.1]
    rw [e]
    simp only [quoteI, List.flatMap_cons, List.flatMap_nil, List.append_nil]
    by_cases hq : c = 34 ∨ c = 92
    · rw [if_pos hq, if_pos (by omega)]; rfl
    · rw [if_neg hq, if_neg (by omega)]; rfl
  · have hd := decode_high s pos hlt (by have := getb_lt s pos hlt; simp [bt, hlt] at this; omega)
    have hf := decode_fits s pos hlt
    rw [if_neg (by omega), List.nil_append]
    refine quoteI_high _ (fun c hc => ?_)
    obtain ⟨j, hj, e⟩ := List.getElem_of_mem hc
    have hj2 : j < (Utf8.decode s pos).2 := by rw [List.length_take] at hj; omega
    have hw := decode_wide s pos (by omega) j hj2
    have hjs : pos + j < s.size := by omega
    have e2 := getb_lt s (pos + j) hjs
    have hg := bytesOf_get s (pos + j) hjs
    rw [List.getElem_take, List.getElem_drop] at e
    have e3 : (bytesOf s)[pos + j]? = some c := by rw [← e]; exact List.getElem?_eq_getElem _
    rw [hg] at e3
    have e4 := Option.some.inj e3
    have hr := bt_range s ((pos + j : Nat) : Int)
    omega
set_option maxHeartbeats 1000000 in
/-- cursor.size: how many octets a text's first rune takes. -/
theorem cursor_size_any (s : ByteArray) (w : World) (hs : 0 < s.size) :
    Calls Try.prog 140 #[.string s] w fun e w' => e = .returned (.int .i64 ((Utf8.decode s 0).2 : Nat)) ∧ Below w.heap.size w w' := by
  have hD1 := decode_pos s 0 hs
  have hD2 := decode_fits s 0 hs
  rw [Nat.zero_add] at hD2
  obtain ⟨D, hD⟩ : ∃ D : Nat, (Utf8.decode s 0).2 = D := ⟨_, rfl⟩
  have HD := Aside0.mk hD
  rw [hD] at hD1 hD2 ⊢
  clear hD
  go_enter Try.func140, Try.ntmps140
  go_wp2
  go_loopg [3, 6, 7, 8, 9, 10] 2 (fun gg _ _ _ _ _ _ wr => ∃ pos : Nat, Aside0 (pos = 0 ∧ 2 ≤ gg ∨ pos = D ∧ 1 ≤ gg) ∧ Aside0 (wr.heap[w.heap.size]? = some (.stringIter s pos)) ∧ Below w.heap.size w wr)
  case atStart => exact ⟨0, ⟨.inl ⟨rfl, Nat.le_refl _⟩⟩, ⟨World.iter_heap w s 0⟩, by unfold World.iter; exact (Below.refl _ _).alloc (Nat.le_refl _) _⟩
  case round =>
    obtain ⟨pos, HP, HI, HB⟩ := hrel
    by_cases hlt : pos < s.size
    · have hnx : ∀ ty, (Instr.next (.pointer (some ⟨w.heap.size, 0, none⟩)) true ty).run Try.prog wr = _ := fun ty => run_next_any_at wr w.heap.size s pos ty HI.out hlt
      have hbi : Below w.heap.size w (wr.iterAt w.heap.size s (pos + (Utf8.decode s pos).2)) := below_iterAt HB (Nat.le_refl _) s _
      have hit : (wr.iterAt w.heap.size s (pos + (Utf8.decode s pos).2)).heap[w.heap.size]? = some (.stringIter s (pos + (Utf8.decode s pos).2)) := iterAt_heap wr w.heap.size s pos _ HI.out
      have HIT := Aside0.mk hit
      have HBI := Aside0.mk hbi
      clear hit hbi
      obtain ⟨W1, hW⟩ : ∃ W1, wr.iterAt w.heap.size s (pos + (Utf8.decode s pos).2) = W1 := ⟨_, rfl⟩
      rw [hW] at hnx HIT HBI
      clear hW HI HB
      rcases HP.out with ⟨rfl, hg⟩ | ⟨h, hg⟩
      · rw [HD.out, Nat.zero_add] at HIT
        clear HP
        go_wp2
        go_roundg (gk - 1)
        case measure => omega
        case rel => exact ⟨D, ⟨.inr ⟨rfl, by omega⟩⟩, HIT, HBI.out⟩
      · subst h
        have hp0 : decide (0 < (pos : Int)) = true := decide_eq_true (by omega)
        clear HP
        go_wp2
        go_ret
        exact ⟨rfl, HBI.out⟩
    · have hnx : ∀ ty, (Instr.next (.pointer (some ⟨w.heap.size, 0, none⟩)) true ty).run Try.prog wr = _ := fun ty => run_next_end_at wr w.heap.size s pos ty HI.out hlt
      have he : pos = D := by rcases HP.out with ⟨h, _⟩ | ⟨h, _⟩ <;> omega
      have hz : D = s.size := by omega
      clear HP
      subst hz
      go_wp2
      go_ret
      exact ⟨rfl, HB⟩
theorem own_convert {w : World} {base : Nat} {v : Value} {xs : List Int} {c : Int} (ho : w.ownsRow base 5 1 v (xs.length + 1) (nums .u8 xs ++ [.int .u8 c])) :
    ∃ A n cp, v = .slice A n cp ∧ (convert 149 9 (.slice A n cp)).run Try.prog w = .ok (.string (strOfNums (xs ++ [c]))) w := by
  have ho2 : w.ownsRow base 5 1 v (xs ++ [c]).length (encs (Value.int .u8) (xs ++ [c])) := by
    have e : encs (Value.int .u8) (xs ++ [c]) = nums .u8 xs ++ [.int .u8 c] := by
      show nums .u8 (xs ++ [c]) = _
      rw [nums_append]; rfl
    rw [e, List.length_append]
    exact ho
  have hR2 := Kd.R_of_own (ok := fun _ => True) (h1 := fun _ => rfl) (enc := Value.int .u8) ho2 (fun _ _ => trivial)
  obtain ⟨A5, c5, e5, -, hC5⟩ := Kd.R_reads hR2
  exact ⟨A5, _, c5, e5, Kd.C_string Try.underlying149 Try.underlying5 Try.underlying9 hC5⟩
theorem quote_len {s : ByteArray} {xs : List Int} {pos : Nat} (h : xs = 34 :: quoteI ((bytesOf s).take pos)) : xs.length ≤ 2 * s.size + 1 := by
  rw [h, List.length_cons]
  have h1 := quoteI_length ((bytesOf s).take pos)
  have h2 : ((bytesOf s).take pos).length ≤ s.size := by rw [List.length_take, bytesOf_length]; omega
  omega
def quoteS (s : ByteArray) : ByteArray := strOfNums ((34 : Int) :: quoteI (bytesOf s) ++ [34])
theorem own_iter_ne {w : World} {base n b pos : Nat} {e : TypeId} {v : Value} {xs : List Value} {s : ByteArray} (h : w.ownsRow base e 1 v n xs) (hb : w.heap[b]? = some (.stringIter s pos)) : some b ≠ v.ownBlock := by
  intro he
  obtain ⟨cells, hc⟩ := own_typed h b he.symm
  rw [hb] at hc
  cases hc
set_option maxRecDepth 100000 in
set_option maxHeartbeats 4000000 in
theorem quote_main (s : ByteArray) (w : World) (hs : s.size ≤ 1000000000) (ht : octet_Token.f s = some false) (hv : octet_Value.f s = some true) :
    Calls Try.prog 88 #[.string s] w fun e w' => e = .returned (.tuple #[.string (quoteS s), .bool true]) ∧ Below w.heap.size w w' := by
  have HT := Aside0.mk (octet_Token.calls s false w ht)
  have HV := Aside0.mk (fun W => octet_Value.calls s true W hv)
  clear ht hv
  go_enter Try.func88, Try.ntmps88
  go_wp2_with fail
  refine HT.out.mono ?_
  rintro e w1 ⟨rfl, hb⟩
  have HB1 := Aside0.mk hb
  clear hb HT
  go_wp2_with fail
  refine (HV.out _).mono ?_
  rintro e w2 ⟨rfl, hb⟩
  have HB2 := Aside0.mk (HB1.out.trans (hb.mono HB1.out.size))
  clear hb HV HB1
  go_wp2
  go_loopg [4, 5, 6] s.size (fun gg v _ _ wr => ∃ (pos : Nat) (xs : List Int), pos ≤ s.size ∧ s.size - pos ≤ gg ∧ Aside0 (wr.heap[w2.heap.size + 1]? = some (.stringIter s pos)) ∧ Aside0 (wr.ownsRow w.heap.size 5 1 v xs.length (nums .u8 xs)) ∧ Aside0 (xs = 34 :: quoteI ((bytesOf s).take pos)) ∧ Aside0 (Below w.heap.size w wr))
  case atStart =>
    refine ⟨0, [34], Nat.zero_le _, by omega, ⟨by simpa using World.iter_heap (w2.alloc (Obj.cells #[Value.int .u8 34] 5)) s 0⟩, ?_, ⟨rfl⟩, ⟨?_⟩⟩
    · have ho := World.ownsRow_lit (base := w.heap.size) (e := 5) (size := 1) w2 #[Value.int .u8 34] 1 HB2.out.size (by decide) rfl
      exact ⟨own_alloc ho _⟩
    · unfold World.iter; exact (HB2.out.alloc HB2.out.size _).alloc (by simp; have := HB2.out.size; omega) _
  case round =>
    obtain ⟨pos, xs, hpos, hgg, HI, HO, HX, HB⟩ := hrel
    by_cases hlt : pos < s.size
    · have hnx : ∀ ty, (Instr.next (.pointer (some ⟨w2.heap.size + 1, 0, none⟩)) true ty).run Try.prog wr = _ := fun ty => run_next_any_at wr (w2.heap.size + 1) s pos ty HI.out hlt
      have HBi : Aside0 (Below w.heap.size w (wr.iterAt (w2.heap.size + 1) s (pos + (Utf8.decode s pos).2))) := ⟨below_iterAt HB.out (by have := HB2.out.size; omega) s _⟩
      have HIT : Aside0 ((wr.iterAt (w2.heap.size + 1) s (pos + (Utf8.decode s pos).2)).heap[w2.heap.size + 1]? = some (.stringIter s (pos + (Utf8.decode s pos).2))) := ⟨iterAt_heap wr (w2.heap.size + 1) s pos _ HI.out⟩
      have HOW : Aside0 ((wr.iterAt (w2.heap.size + 1) s (pos + (Utf8.decode s pos).2)).ownsRow w.heap.size 5 1 u4 xs.length (nums .u8 xs)) := ⟨own_move HO.out (fun k hk => iterAt_other _ _ _ _ _ (fun e => own_iter_ne HO.out HI.out (by rw [hk, e])))⟩
      have HST := Aside0.mk (quote_step s pos hlt)
      have HDC := Aside0.mk (decode_cut s pos hpos)
      have hd1 := decode_pos s pos hlt
      have hd2 := decode_fits s pos hlt
      obtain ⟨W1, hW⟩ : ∃ W1, wr.iterAt (w2.heap.size + 1) s (pos + (Utf8.decode s pos).2) = W1 := ⟨_, rfl⟩
      obtain ⟨R, hR⟩ : ∃ R : Nat, (Utf8.decode s pos).1 = R := ⟨_, rfl⟩
      obtain ⟨D, hD⟩ : ∃ D : Nat, (Utf8.decode s pos).2 = D := ⟨_, rfl⟩
      have HDE : Aside0 ((Utf8.decode (s.extract pos s.size) 0).2 = D) := ⟨by rw [HDC.out]; exact hD⟩
      rw [hW, hR] at hnx
      rw [hW, hD] at HIT
      rw [hW] at HBi HOW
      rw [hR, hD] at HST
      rw [hD] at hd1 hd2
      have HC : Aside0 (∀ W, Calls Try.prog 140 #[.string (s.extract pos s.size)] W fun e w' => e = .returned (.int .i64 (D : Nat)) ∧ Below W.heap.size W w') := ⟨fun W => by have := cursor_size_any (s.extract pos s.size) W (by simp; omega); rw [HDE.out] at this; exact this⟩
      clear hW hR hD HI HB HDC HDE
      have HXL : Aside0 (xs.length ≤ 2 * s.size + 1) := ⟨quote_len HX.out⟩
      have hes : (s.extract pos (pos + D)).size ≤ s.size := by simp; omega
      by_cases hq : R = 34 ∨ R = 92
      · have HQ := Aside0.mk hq
        have hr : (((R : Int) == 34) = true) ∨ (((R : Int) == 34) = false ∧ ((R : Int) == 92) = true) := by
          by_cases e : R = 34
          · left; subst e; rfl
          · right; exact ⟨beq_eq_false_iff_ne.mpr (by omega), beq_iff_eq.mpr (by omega)⟩
        clear hq
        have HLE : Aside0 ((xs ++ [92]).length + (s.extract pos (pos + D)).size ≤ 140737488355328) := ⟨by have := HXL.out; rw [List.length_append, List.length_singleton]; omega⟩
        have HLA : Aside0 ((xs.length + 1) * 1 ≤ 140737488355328) := ⟨by have := HXL.out; omega⟩
        rcases hr with hq1 | ⟨hq1, hq2⟩
        all_goals
          go_wp2_with ((with_reducible refine gate_builtin (b := .append) (xs := #[.tmp 28, .tmp 29]) rfl ?_); at_builtin; refine print_append_cells (w0 := w) w.heap.size rfl (.tmp 28) (.tmp 29) 149 5 (.int .u8 0) 1 1 rfl Try.underlying149 info5 rfl (by decide) (by decide) u4 xs.length (nums .u8 xs) [.int .u8 92] rfl rfl rfl (by simp [Value.oneCell']) HOW.out HBi.out ?aS HLA.out ?_; (case aS => exact HBi.out.size); intro v5 w5 ho hb hg hat; have HOW5 := Aside0.mk ho; have HB5 := Aside0.mk hb; have HIT5 := Aside0.mk (blk_grown HIT.out hg (own_iter_ne HOW.out HIT.out)); clear ho hb hg hat HOW HBi HIT)
          refine (HC.out _).mono ?_
          rintro e w3 ⟨rfl, hb⟩
          have HB3 := Aside0.mk (HB5.out.trans (hb.mono HB5.out.size))
          have HOW3 : Aside0 (w3.ownsRow w.heap.size 5 1 v5 (xs ++ [92]).length (nums .u8 (xs ++ [92]))) := ⟨by have := pw_own_below HOW5.out hb; rw [nums_append, List.length_append]; exact this⟩
          have HIT3 := Aside0.mk (blk_below HIT5.out hb)
          clear hb HB5 HOW5 HIT5 HC hnx
          have b1 : (pos : Int) + (D : Int) ≤ (s.size : Int) := by omega
          have b2 : (pos : Int) ≤ (pos : Int) + (D : Int) := by omega
          have b3 : ((pos : Int) + (D : Int)).toNat = pos + D := by omega
          have b4 : (0 : Int) ≤ (pos : Int) + (D : Int) := by omega
          go_wp2_with (at_builtin; refine print_append_str (w0 := w) w.heap.size rfl (.tmp 31) (.tmp 40) 149 9 5 rfl Try.underlying149 Try.underlying9 info5 v5 (xs ++ [92]) (s.extract pos (pos + D)) rfl rfl HOW3.out HB3.out ?aS ?aL ?_; (case aS => exact HB3.out.size); (case aL => exact HLE.out); intro v4 w4 ho hb hg; have HOW4 := Aside0.mk ho; have HB4 := Aside0.mk hb; have HIT4 := Aside0.mk (blk_grown HIT3.out hg (own_iter_ne HOW3.out HIT3.out)); clear ho hb hg)
          go_roundg (gk - 1)
          case measure => omega
          case rel =>
            refine ⟨pos + D, _, hd2, by omega, HIT4, HOW4, ⟨?_⟩, HB4⟩
            rw [HST.out, HX.out]
            rw [if_pos HQ.out]
            simp
      · have hq1 : ((R : Int) == 34) = false := beq_eq_false_iff_ne.mpr (by omega)
        have hq2 : ((R : Int) == 92) = false := beq_eq_false_iff_ne.mpr (by omega)
        have HQ := Aside0.mk hq
        clear hq
        have HLE : Aside0 (xs.length + (s.extract pos (pos + D)).size ≤ 140737488355328) := ⟨by have := HXL.out; omega⟩
        go_wp2_with fail
        refine (HC.out _).mono ?_
        rintro e w3 ⟨rfl, hb⟩
        have HB3 := Aside0.mk (HBi.out.trans (hb.mono HBi.out.size))
        have HOW3 := Aside0.mk (pw_own_below HOW.out hb)
        have HIT3 := Aside0.mk (blk_below HIT.out hb)
        clear hb HBi HOW HIT HC hnx
        have b1 : (pos : Int) + (D : Int) ≤ (s.size : Int) := by omega
        have b2 : (pos : Int) ≤ (pos : Int) + (D : Int) := by omega
        have b3 : ((pos : Int) + (D : Int)).toNat = pos + D := by omega
        have b4 : (0 : Int) ≤ (pos : Int) + (D : Int) := by omega
        go_wp2_with (at_builtin; refine print_append_str (w0 := w) w.heap.size rfl (.tmp 31) (.tmp 40) 149 9 5 rfl Try.underlying149 Try.underlying9 info5 u4 xs (s.extract pos (pos + D)) rfl rfl HOW3.out HB3.out ?aS ?aL ?_; (case aS => exact HB3.out.size); (case aL => exact HLE.out); intro v4 w4 ho hb hg; have HOW4 := Aside0.mk ho; have HB4 := Aside0.mk hb; have HIT4 := Aside0.mk (blk_grown HIT3.out hg (own_iter_ne HOW3.out HIT3.out)); clear ho hb hg)
        go_roundg (gk - 1)
        case measure => omega
        case rel =>
          refine ⟨pos + D, _, hd2, by omega, HIT4, HOW4, ⟨?_⟩, HB4⟩
          rw [HST.out, HX.out]
          rw [if_neg HQ.out]
          simp
    · have hnx : ∀ ty, (Instr.next (.pointer (some ⟨w2.heap.size + 1, 0, none⟩)) true ty).run Try.prog wr = _ := fun ty => run_next_end_at wr (w2.heap.size + 1) s pos ty HI.out hlt
      have HE : Aside0 (xs = 34 :: quoteI (bytesOf s)) := ⟨by rw [HX.out, List.take_of_length_le (by rw [bytesOf_length]; omega)]⟩
      have HLA : Aside0 ((xs.length + 1) * 1 ≤ 140737488355328) := ⟨by rw [HE.out, List.length_cons]; have := quoteI_length (bytesOf s); rw [bytesOf_length] at this; omega⟩
      go_wp2_with ((with_reducible refine gate_builtin (b := .append) (xs := #[.tmp 42, .tmp 43]) rfl ?_); at_builtin; refine print_append_cells (w0 := w) w.heap.size rfl (.tmp 42) (.tmp 43) 149 5 (.int .u8 0) 1 1 rfl Try.underlying149 info5 rfl (by decide) (by decide) u4 xs.length (nums .u8 xs) [.int .u8 34] rfl rfl rfl (by simp [Value.oneCell']) HO.out HB.out ?aS HLA.out ?_; (case aS => exact HB.out.size); intro v5 w5 ho hb hg hat; obtain ⟨A5, n5, c5, rfl, hconv⟩ := own_convert ho; have HB5 := Aside0.mk hb; clear ho hb hg hat)
      go_ret2
      rw [HE.out]
      exact ⟨rfl, HB5.out⟩
theorem quote_token (s : ByteArray) (w : World) (ht : octet_Token.f s = some true) :
    Calls Try.prog 88 #[.string s] w fun e w' => e = .returned (.tuple #[.string s, .bool true]) ∧ Below w.heap.size w w' := by
  have HT := Aside0.mk (octet_Token.calls s true w ht)
  clear ht
  go_enter Try.func88, Try.ntmps88
  go_wp2_with fail
  refine HT.out.mono ?_
  rintro e w1 ⟨rfl, hb⟩
  have HB1 := Aside0.mk hb
  clear hb HT
  go_wp2
  go_ret2
  exact ⟨rfl, HB1.out⟩
theorem quote_bad (s : ByteArray) (w : World) (ht : octet_Token.f s = some false) (hv : octet_Value.f s = some false) :
    Calls Try.prog 88 #[.string s] w fun e w' => e = .returned (.tuple #[.string ⟨#[]⟩, .bool false]) ∧ Below w.heap.size w w' := by
  have HT := Aside0.mk (octet_Token.calls s false w ht)
  have HV := Aside0.mk (fun W => octet_Value.calls s false W hv)
  clear ht hv
  go_enter Try.func88, Try.ntmps88
  go_wp2_with fail
  refine HT.out.mono ?_
  rintro e w1 ⟨rfl, hb⟩
  have HB1 := Aside0.mk hb
  clear hb HT
  go_wp2_with fail
  refine (HV.out _).mono ?_
  rintro e w2 ⟨rfl, hb⟩
  have HB2 := Aside0.mk (HB1.out.trans (hb.mono HB1.out.size))
  clear hb HV HB1
  go_wp2
  go_ret2
  exact ⟨rfl, HB2.out⟩
def cursor_Quote.f (s : ByteArray) : Option (ByteArray × Bool) :=
  if s.size ≤ 1000000000 then (octet_Token.f s).bind fun t => if t = true then some (s, true) else (octet_Value.f s).bind fun v => if v = true then some (quoteS s, true) else some (⟨#[]⟩, false) else none
theorem cursor_Quote.calls (a0 : ByteArray) (r1 : ByteArray) (r2 : Bool) (w : World) (h : cursor_Quote.f a0 = some (r1, r2)) :
    Calls Try.prog 88 #[.string a0] w fun e w' => e = .returned (.tuple #[.string r1, .bool r2]) ∧ Below w.heap.size w w' := by
  unfold cursor_Quote.f at h
  split at h
  · rename_i hs
    obtain ⟨t, ht, h⟩ := Option.bind_eq_some_iff.1 h
    cases t with
    | true =>
      rw [if_pos rfl] at h
      simp only [Option.some.injEq, Prod.mk.injEq] at h
      obtain ⟨rfl, rfl⟩ := h
      exact quote_token a0 w ht
    | false =>
      rw [if_neg (by simp)] at h
      obtain ⟨v, hv, h⟩ := Option.bind_eq_some_iff.1 h
      cases v with
      | true =>
        rw [if_pos rfl] at h
        simp only [Option.some.injEq, Prod.mk.injEq] at h
        obtain ⟨rfl, rfl⟩ := h
        exact quote_main a0 w hs ht hv
      | false =>
        rw [if_neg (by simp)] at h
        simp only [Option.some.injEq, Prod.mk.injEq] at h
        obtain ⟨rfl, rfl⟩ := h
        exact quote_bad a0 w ht hv
  · exact absurd h (by simp)
end Go.Proofs.Ytjnhghplfdiijaa.Q

namespace Go.Proofs.Ytjnhghplfdiijaa.Q
open Go.RowKit Go.Proofs.YtjnhghplfdiijaaW.PrintWords Go.Proofs.YtjnhghplfdiijaaW.PrintLast Go.Proofs.YtjnhghplfdiijaaW.PrintMore
attribute [local go_sem] max2_int min2_int max_two min_two max_three min_three max_four min_four
set_option linter.unusedVariables false
set_option linter.unusedSimpArgs false
mutual
def cache_Text.l0 : Nat → List ByteArray → List (S51) → Int → Int → Option (ByteArray × Bool)
  | 0, _, _, _, _ => none
  | k + 1, x4, x9, x10, x11 => if x11 < x10 then (if 0 ≤ x11 then (if x11 < (x9.length : Int) then ((cursor_Quote.f ((rd_T51 x9 x11).f1)).bind fun bt104 => ((octet_Token.f ((rd_T51 x9 x11).f0)).bind fun t106 => (if t106 = true then (if bt104.2 = true then (if ((rd_T51 x9 x11).f2 = true) then (cache_Text.j1 k x4 bt104.1 x9 x10 x11 false ((rd_T51 x9 x11).f0) ((rd_T51 x9 x11).f1) ((rd_T51 x9 x11).f2)) else (cache_Text.j1 k x4 bt104.1 x9 x10 x11 (((rd_T51 x9 x11).f1).toList != ([] : List UInt8)) ((rd_T51 x9 x11).f0) ((rd_T51 x9 x11).f1) ((rd_T51 x9 x11).f2))) else (cache_Text.j1 k x4 bt104.1 x9 x10 x11 true ((rd_T51 x9 x11).f0) ((rd_T51 x9 x11).f1) ((rd_T51 x9 x11).f2))) else (cache_Text.j1 k x4 bt104.1 x9 x10 x11 true ((rd_T51 x9 x11).f0) ((rd_T51 x9 x11).f1) ((rd_T51 x9 x11).f2))))) else (none)) else (none)) else ((lists_Join.f x4).bind fun t101 => (some (t101, true)))
def cache_Text.j1 : Nat → List ByteArray → ByteArray → List (S51) → Int → Int → Bool → ByteArray → ByteArray → Bool → Option (ByteArray × Bool)
  | 0, _, _, _, _, _, _, _, _, _ => none
  | k + 1, x4, x7, x9, x10, x11, x26, x104000, x104001, x104002 => if x26 = true then (some ((⟨#[]⟩ : ByteArray), false)) else (if x104002 = true then (if x104000.size + 1 ≤ 9223372036854775807 then (if (x104000 ++ (⟨#[61]⟩ : ByteArray)).size + x7.size ≤ 9223372036854775807 then (if x4.length < 8796093022208 then (cache_Text.l0 k (x4 ++ [(x104000 ++ (⟨#[61]⟩ : ByteArray)) ++ x7]) x9 x10 (wrap64 (x11 + 1))) else (none)) else (none)) else (none)) else (if x4.length < 8796093022208 then (cache_Text.l0 k (x4 ++ [x104000]) x9 x10 (wrap64 (x11 + 1))) else (none)))
end
def cache_Text.f (k : Nat) (l0 : List (S51)) : Option (ByteArray × Bool) := cache_Text.l0 k ([] : List ByteArray) l0 (l0.length : Int) 0
set_option maxHeartbeats 8000000 in
set_option maxRecDepth 100000 in
theorem cache_Text.calls (k : Nat) (A0 : Option Addr) (c0 : Nat) (l0 : List (S51)) (r1 : ByteArray) (r2 : Bool) (w : World) (hr0 : Kd.C k51 w A0 l0.length l0) (hc0 : l0.length ≤ c0) (h : cache_Text.f k l0 = some (r1, r2)) :
    Calls Try.prog 45 #[.slice A0 l0.length c0] w fun e w' => e = .returned (.tuple #[.string r1, .bool r2]) ∧ Below w.heap.size w w' := by
  have hu51 := Try.underlying51
  have HR0 := Aside0.mk hr0
  have HC0 := Aside0.mk hc0
  clear hr0 hc0
  have HB := Aside0.mk (Below.refl w.heap.size w)
  have H : (cache_Text.l0 k ([] : List ByteArray) l0 (l0.length : Int) 0) = some (r1, r2) := h
  clear h
  have H' := Aside0.mk H
  clear H
  go_enter Try.func45, Try.ntmps45
  go_wp2
  go_loopg [4, 11] k (fun kq v4 v11 w' => ∃ (x4_1 : List ByteArray) (x11_1 : Int), v11 = .int .i64 x11_1 ∧ Aside0 (cache_Text.l0 kq x4_1 l0 (l0.length : Int) x11_1 = some (r1, r2)) ∧ Aside0 (kq ≤ k) ∧ Aside0 (Kd.R Kd.string 9 w' w.heap.size (fun _ => True) v4 x4_1) ∧ Aside0 (Below w.heap.size w w'))
  case atStart => exact ⟨(([] : List ByteArray)), (0), (by first | rfl | (simp; done) | (simp [*]; done)), H', ⟨Nat.le_refl _⟩, ⟨by first | exact Kd.R_nil _ _ _ _ _ | exact Kd.N_nil _ _ _ _ _ | exact Kd.V_nil _ _ _ _ _ | exact Kd.Q_nil _ _ _ _ _ | exact Kd.S_nil _ _ _ _ _⟩, ⟨by repeat (first | (with_reducible first | exact HB.out | apply below_alloc | apply pw_below_drewN | apply below_drew1) | exact HB.out)⟩⟩
  case round =>
    clear H'
    obtain ⟨x4_1, x11_1, rfl, HA, HK1, HO_4, HB⟩ := hrel
    cases gk with
    | zero => exact absurd HA.out (by simp [cache_Text.l0])
    | succ k1 =>
      have H := HA.out
      clear HA
      simp only [cache_Text.l0] at H
      by_cases c2 : x11_1 < (l0.length : Int)
      · rw [if_pos c2] at H
        have c2b0 : decide (x11_1 < (l0.length : Int)) = true := decide_eq_true c2
        clear c2
        by_cases c3 : 0 ≤ x11_1
        · rw [if_pos c3] at H
          have c3b0 : decide (0 ≤ x11_1) = true := decide_eq_true c3
          clear c3
          by_cases c4 : x11_1 < (l0.length : Int)
          · rw [if_pos c4] at H
            have c4b0 : decide (x11_1 < (l0.length : Int)) = true := decide_eq_true c4
            clear c4
            replace H := Option.bind_eq_some_iff.mp H
            obtain ⟨⟨t104, t105⟩, A50, H⟩ := H
            (try dsimp only at H)
            have A5 := Aside0.mk A50
            clear A50
            have HC6 := Aside0.mk H
            clear H
            have p102 : 0 ≤ (x11_1 : Int) := of_decide_eq_true (by first | (with_reducible assumption) | assumption)
            have q102 : x11_1 < (l0.length : Int) := of_decide_eq_true (by first | (with_reducible assumption) | assumption)
            obtain ⟨ad102, e102, hx102_0, hx102_1, hx102_2⟩ := at_T51 HR0.out x11_1 p102 q102
            cases e102
            replace hx102_0 := (HB.out.cell (World.block_lt_of_cell? w _ hx102_0)).trans hx102_0
            replace hx102_1 := (HB.out.cell (World.block_lt_of_cell? w _ hx102_1)).trans hx102_1
            replace hx102_2 := (HB.out.cell (World.block_lt_of_cell? w _ hx102_2)).trans hx102_2
            replace p102 := eq_true p102
            replace q102 := eq_true q102
            go_upto_region 7 with (first | ((with_reducible refine gate_dst (N := 6) rfl ?_); refine box_event ?hg (N := 6) ?hd (cs := #[.string (⟨#[]⟩ : ByteArray), .string (⟨#[]⟩ : ByteArray), .bool false]) (t := 51) ?hr ?_; (case hd => rfl); (case hg => rfl); (case hr => first | (go_simp; done) | (go_simp; rfl)); intro gb103 hg w7 hbox hb; have n0_ := Aside0.mk (Kd.R_below (by (with_reducible repeat (first | apply Kd.R_alloc | apply Kd.R_drewN | apply Kd.R_drew)); exact HO_4.out) hb); have n1_ := Aside0.mk (below_step (by repeat (first | (with_reducible first | exact HB.out | apply below_alloc | apply pw_below_drewN | apply below_drew1) | exact HB.out)) hb); have n2_ := Aside0.mk (hbox); have n3_ := Aside0.mk ((by rw [hg]; exact (below_size (by repeat (first | (with_reducible first | exact HB.out | apply below_alloc | apply pw_below_drewN | apply below_drew1) | exact HB.out))) : w.heap.size ≤ gb103)); have n4_ := Aside0.mk ((by rw [hg]; exact (below_size (by repeat (first | (with_reducible first | exact HB.out | apply below_alloc | apply pw_below_drewN | apply below_drew1) | exact HB.out))) : w.heap.size ≤ gb103)); clear HO_4; clear HB; have HO_4 := n0_; have HB := n1_; have BK103 := n2_; have GW103 := n3_; have GE103 := n4_; clear n0_ n1_ n2_ n3_ n4_; clear hb hbox hg; have hcz8_0 : w7.cell? ⟨gb103, 0, none⟩ = some (.string (⟨#[]⟩ : ByteArray)) := (blk_cell BK103.out 0).trans rfl; have hcz8_1 : w7.cell? ⟨gb103, 1, none⟩ = some (.string (⟨#[]⟩ : ByteArray)) := (blk_cell BK103.out 1).trans rfl; have hcz8_2 : w7.cell? ⟨gb103, 2, none⟩ = some (.bool false) := (blk_cell BK103.out 2).trans rfl; have hfz8_0 := blk_frozen BK103.out 0; have hfz8_1 := blk_frozen BK103.out 1; have hfz8_2 := blk_frozen BK103.out 2) | ((with_reducible refine gate_callee (f := 88) rfl ?_); refine goesL_ (some 18) rfl rfl Try.func88 (by kernel_rfl) rfl #[.string ((rd_T51 l0 x11_1).f1)] rfl (by (try simp only [List.map_toArray, List.map_cons, List.map_nil]); first | done | rfl | (simp only [List.length_drop, List.length_take]; rfl)) ?_; (with_reducible refine (cursor_Quote.calls ((rd_T51 l0 x11_1).f1) t104 t105 _ A5.out).mono ?_); rintro e w9 ⟨rfl, hb⟩; refine ⟨_, rfl, ?_⟩; have n0_ := Aside0.mk (Kd.R_below (by (with_reducible repeat (first | apply Kd.R_alloc | apply Kd.R_drewN | apply Kd.R_drew)); exact (Kd.R_mono (Kd.R_far (p := ⟨gb103, 2, none⟩) (Kd.R_far (p := ⟨gb103, 1, none⟩) (Kd.R_far (p := ⟨gb103, 0, none⟩) (Kd.R_types HO_4.out BK103.out (by decide)) (fun _ hk => hk.2) (.string ((rd_T51 l0 x11_1).f0))) (fun _ hk => hk.2) (.string ((rd_T51 l0 x11_1).f1))) (fun _ hk => hk.2) (.bool ((rd_T51 l0 x11_1).f2))) (fun _ h_ => h_.1))) hb); have n1_ := Aside0.mk (blk_below (g := gb103) (o := .cells #[.string ((rd_T51 l0 x11_1).f0), .string ((rd_T51 l0 x11_1).f1), .bool ((rd_T51 l0 x11_1).f2)] 51 (0, 0)) (by (with_reducible repeat (first | refine blk_drewN ?_ _ | refine blk_drew ?_ | refine blk_alloc ?_ _)); refine blk_put (cs := #[.string ((rd_T51 l0 x11_1).f0), .string ((rd_T51 l0 x11_1).f1), .bool false]) ?_ 2 _ rfl; (with_reducible repeat (first | refine blk_drewN ?_ _ | refine blk_drew ?_ | refine blk_alloc ?_ _)); refine blk_put (cs := #[.string ((rd_T51 l0 x11_1).f0), .string (⟨#[]⟩ : ByteArray), .bool false]) ?_ 1 _ rfl; (with_reducible repeat (first | refine blk_drewN ?_ _ | refine blk_drew ?_ | refine blk_alloc ?_ _)); refine blk_put (cs := #[.string (⟨#[]⟩ : ByteArray), .string (⟨#[]⟩ : ByteArray), .bool false]) ?_ 0 _ rfl; (with_reducible repeat (first | refine blk_drewN ?_ _ | refine blk_drew ?_ | refine blk_alloc ?_ _)); exact BK103.out) hb); have n2_ := Aside0.mk (below_step (by repeat (first | (with_reducible first | exact HB.out | apply below_alloc | apply pw_below_drewN | apply below_drew1 | refine below_set ?_ GE103.out) | exact HB.out)) hb); clear HO_4; clear BK103; clear HB; have HO_4 := n0_; have BK103 := n1_; have HB := n2_; clear n0_ n1_ n2_; (try clear hb); (try clear hb2); (try clear hk); (try clear hi)))
            (try simp only [Act.put, List.setIfInBounds_toArray, List.set_cons_zero, List.set_cons_succ])
            go_cut [26] (fun v26 wc => ∃ (kq : Nat) (x26_5 : Bool), v26 = .bool x26_5 ∧ Aside0 (cache_Text.j1 kq x4_1 t104 l0 (l0.length : Int) x11_1 x26_5 ((rd_T51 l0 x11_1).f0) ((rd_T51 l0 x11_1).f1) ((rd_T51 l0 x11_1).f2) = some (r1, r2)) ∧ Aside0 (kq ≤ k1) ∧ Aside0 (Kd.R Kd.string 9 wc w.heap.size (fun _ => True) u4 x4_1) ∧ Aside0 (wc.heap[gb103]? = some (.cells #[.string ((rd_T51 l0 x11_1).f0), .string ((rd_T51 l0 x11_1).f1), .bool ((rd_T51 l0 x11_1).f2)] 51 (0, 0))) ∧ Aside0 (Below w.heap.size w wc))
            case first =>
              have H := HC6.out
              clear HC6
              replace H := Option.bind_eq_some_iff.mp H
              obtain ⟨t106, A100, H⟩ := H
              (try dsimp only at H)
              have A10 := Aside0.mk A100
              clear A100
              by_cases c11 : t106 = true
              · subst c11
                have H1 : (if t105 = true then (if ((rd_T51 l0 x11_1).f2 = true) then (cache_Text.j1 k1 x4_1 t104 l0 (l0.length : Int) x11_1 false ((rd_T51 l0 x11_1).f0) ((rd_T51 l0 x11_1).f1) ((rd_T51 l0 x11_1).f2)) else (cache_Text.j1 k1 x4_1 t104 l0 (l0.length : Int) x11_1 (((rd_T51 l0 x11_1).f1).toList != ([] : List UInt8)) ((rd_T51 l0 x11_1).f0) ((rd_T51 l0 x11_1).f1) ((rd_T51 l0 x11_1).f2))) else (cache_Text.j1 k1 x4_1 t104 l0 (l0.length : Int) x11_1 true ((rd_T51 l0 x11_1).f0) ((rd_T51 l0 x11_1).f1) ((rd_T51 l0 x11_1).f2))) = some (r1, r2) := by rw [if_pos rfl] at H; exact H
                clear H
                have H := H1
                clear H1
                by_cases c12 : t105 = true
                · subst c12
                  have H1 : (if ((rd_T51 l0 x11_1).f2 = true) then (cache_Text.j1 k1 x4_1 t104 l0 (l0.length : Int) x11_1 false ((rd_T51 l0 x11_1).f0) ((rd_T51 l0 x11_1).f1) ((rd_T51 l0 x11_1).f2)) else (cache_Text.j1 k1 x4_1 t104 l0 (l0.length : Int) x11_1 (((rd_T51 l0 x11_1).f1).toList != ([] : List UInt8)) ((rd_T51 l0 x11_1).f0) ((rd_T51 l0 x11_1).f1) ((rd_T51 l0 x11_1).f2))) = some (r1, r2) := by rw [if_pos rfl] at H; exact H
                  clear H
                  have H := H1
                  clear H1
                  obtain ⟨bq13, hbq13⟩ : ∃ b_ : Bool, b_ = ((rd_T51 l0 x11_1).f2) := ⟨_, rfl⟩
                  replace H : (if (bq13 = true) then (cache_Text.j1 k1 x4_1 t104 l0 (l0.length : Int) x11_1 false ((rd_T51 l0 x11_1).f0) ((rd_T51 l0 x11_1).f1) bq13) else (cache_Text.j1 k1 x4_1 t104 l0 (l0.length : Int) x11_1 (((rd_T51 l0 x11_1).f1).toList != ([] : List UInt8)) ((rd_T51 l0 x11_1).f0) ((rd_T51 l0 x11_1).f1) bq13)) = some (r1, r2) := by rw [← hbq13] at H; exact H
                  have Nbq13 := Aside0.mk hbq13
                  clear hbq13
                  (try rw [← Nbq13.out])
                  (try rw [← Nbq13.out] at BK103)
                  by_cases c14 : (bq13 = true)
                  · subst c14
                    have H1 : (cache_Text.j1 k1 x4_1 t104 l0 (l0.length : Int) x11_1 false ((rd_T51 l0 x11_1).f0) ((rd_T51 l0 x11_1).f1) true) = some (r1, r2) := by rw [if_pos rfl] at H; exact H
                    clear H
                    have H := H1
                    clear H1
                    have H' := Aside0.mk H
                    clear H
                    have hcz15_0 : w9.cell? ⟨gb103, 0, none⟩ = some (.string ((rd_T51 l0 x11_1).f0)) := (blk_cell BK103.out 0).trans rfl
                    have hcz15_1 : w9.cell? ⟨gb103, 1, none⟩ = some (.string ((rd_T51 l0 x11_1).f1)) := (blk_cell BK103.out 1).trans rfl
                    have hcz15_2 : w9.cell? ⟨gb103, 2, none⟩ = some (.bool true) := (blk_cell BK103.out 2).trans rfl
                    have hfz15_0 := blk_frozen BK103.out 0
                    have hfz15_1 := blk_frozen BK103.out 1
                    have hfz15_2 := blk_frozen BK103.out 2
                    try (have f2_ := Nbq11.out.symm)
                    rcases emp_cases ((rd_T51 l0 x11_1).f1) with ⟨hE1_, hE2_, hE3_⟩ | ⟨hE1_, hE2_, hE3_⟩
                    all_goals
                      go_wp2_with (first | ((with_reducible refine gate_callee (f := 89) rfl ?_); refine goesL_ (some 29) rfl rfl Try.func89 (by kernel_rfl) rfl #[.string ((rd_T51 l0 x11_1).f0)] rfl (by (try simp only [List.map_toArray, List.map_cons, List.map_nil]); first | done | rfl | (simp only [List.length_drop, List.length_take]; rfl)) ?_; (with_reducible refine (octet_Token.calls ((rd_T51 l0 x11_1).f0) true _ A10.out).mono ?_); rintro e w16 ⟨rfl, hb⟩; refine ⟨_, rfl, ?_⟩; have n0_ := Aside0.mk (Kd.R_below (by (with_reducible repeat (first | apply Kd.R_alloc | apply Kd.R_drewN | apply Kd.R_drew)); exact HO_4.out) hb); have n1_ := Aside0.mk (blk_below (g := gb103) (o := .cells #[.string ((rd_T51 l0 x11_1).f0), .string ((rd_T51 l0 x11_1).f1), .bool true] 51 (0, 0)) (by (with_reducible repeat (first | refine blk_drewN ?_ _ | refine blk_drew ?_ | refine blk_alloc ?_ _)); exact BK103.out) hb); have n2_ := Aside0.mk (below_step (by repeat (first | (with_reducible first | exact HB.out | apply below_alloc | apply pw_below_drewN | apply below_drew1 | refine below_set ?_ GE103.out) | exact HB.out)) hb); clear HO_4; clear BK103; clear HB; have HO_4 := n0_; have BK103 := n1_; have HB := n2_; clear n0_ n1_ n2_; (try clear hb); (try clear hb2); (try clear hk); (try clear hi); have hcz17_0 : w16.cell? ⟨gb103, 0, none⟩ = some (.string ((rd_T51 l0 x11_1).f0)) := (blk_cell BK103.out 0).trans rfl; have hcz17_1 : w16.cell? ⟨gb103, 1, none⟩ = some (.string ((rd_T51 l0 x11_1).f1)) := (blk_cell BK103.out 1).trans rfl; have hcz17_2 : w16.cell? ⟨gb103, 2, none⟩ = some (.bool true) := (blk_cell BK103.out 2).trans rfl; have hfz17_0 := blk_frozen BK103.out 0; have hfz17_1 := blk_frozen BK103.out 1; have hfz17_2 := blk_frozen BK103.out 2))
                      (try rw [Nbq13.out] at H')
                      (try rw [Nbq13.out] at BK103)
                      go_meet
                      case rel => exact ⟨_, (false), (by first | rfl | (simp; done) | (simp [*]; done)), H', ⟨by have := HK1.out; first | omega | exact Nat.le_refl _⟩, ⟨by (with_reducible repeat (first | apply Kd.R_alloc | apply Kd.R_drewN | apply Kd.R_drew)); exact HO_4.out⟩, ⟨by (with_reducible repeat (first | refine blk_drewN ?_ _ | refine blk_drew ?_ | refine blk_alloc ?_ _)); exact BK103.out⟩, ⟨by repeat (first | (with_reducible first | exact HB.out | apply below_alloc | apply pw_below_drewN | apply below_drew1 | refine below_set ?_ GE103.out) | exact HB.out)⟩⟩
                  · replace c14 := Bool.eq_false_iff.mpr c14
                    subst c14
                    have H1 : (cache_Text.j1 k1 x4_1 t104 l0 (l0.length : Int) x11_1 (((rd_T51 l0 x11_1).f1).toList != ([] : List UInt8)) ((rd_T51 l0 x11_1).f0) ((rd_T51 l0 x11_1).f1) false) = some (r1, r2) := by rw [if_neg (show ¬ (false = true) by decide)] at H; exact H
                    clear H
                    have H := H1
                    clear H1
                    have H' := Aside0.mk H
                    clear H
                    have hcz18_0 : w9.cell? ⟨gb103, 0, none⟩ = some (.string ((rd_T51 l0 x11_1).f0)) := (blk_cell BK103.out 0).trans rfl
                    have hcz18_1 : w9.cell? ⟨gb103, 1, none⟩ = some (.string ((rd_T51 l0 x11_1).f1)) := (blk_cell BK103.out 1).trans rfl
                    have hcz18_2 : w9.cell? ⟨gb103, 2, none⟩ = some (.bool false) := (blk_cell BK103.out 2).trans rfl
                    have hfz18_0 := blk_frozen BK103.out 0
                    have hfz18_1 := blk_frozen BK103.out 1
                    have hfz18_2 := blk_frozen BK103.out 2
                    try (have f2_ := Nbq11.out.symm)
                    rcases emp_cases ((rd_T51 l0 x11_1).f1) with ⟨hE1_, hE2_, hE3_⟩ | ⟨hE1_, hE2_, hE3_⟩
                    all_goals
                      go_wp2_with (first | ((with_reducible refine gate_callee (f := 89) rfl ?_); refine goesL_ (some 29) rfl rfl Try.func89 (by kernel_rfl) rfl #[.string ((rd_T51 l0 x11_1).f0)] rfl (by (try simp only [List.map_toArray, List.map_cons, List.map_nil]); first | done | rfl | (simp only [List.length_drop, List.length_take]; rfl)) ?_; (with_reducible refine (octet_Token.calls ((rd_T51 l0 x11_1).f0) true _ A10.out).mono ?_); rintro e w19 ⟨rfl, hb⟩; refine ⟨_, rfl, ?_⟩; have n0_ := Aside0.mk (Kd.R_below (by (with_reducible repeat (first | apply Kd.R_alloc | apply Kd.R_drewN | apply Kd.R_drew)); exact HO_4.out) hb); have n1_ := Aside0.mk (blk_below (g := gb103) (o := .cells #[.string ((rd_T51 l0 x11_1).f0), .string ((rd_T51 l0 x11_1).f1), .bool false] 51 (0, 0)) (by (with_reducible repeat (first | refine blk_drewN ?_ _ | refine blk_drew ?_ | refine blk_alloc ?_ _)); exact BK103.out) hb); have n2_ := Aside0.mk (below_step (by repeat (first | (with_reducible first | exact HB.out | apply below_alloc | apply pw_below_drewN | apply below_drew1 | refine below_set ?_ GE103.out) | exact HB.out)) hb); clear HO_4; clear BK103; clear HB; have HO_4 := n0_; have BK103 := n1_; have HB := n2_; clear n0_ n1_ n2_; (try clear hb); (try clear hb2); (try clear hk); (try clear hi); have hcz20_0 : w19.cell? ⟨gb103, 0, none⟩ = some (.string ((rd_T51 l0 x11_1).f0)) := (blk_cell BK103.out 0).trans rfl; have hcz20_1 : w19.cell? ⟨gb103, 1, none⟩ = some (.string ((rd_T51 l0 x11_1).f1)) := (blk_cell BK103.out 1).trans rfl; have hcz20_2 : w19.cell? ⟨gb103, 2, none⟩ = some (.bool false) := (blk_cell BK103.out 2).trans rfl; have hfz20_0 := blk_frozen BK103.out 0; have hfz20_1 := blk_frozen BK103.out 1; have hfz20_2 := blk_frozen BK103.out 2))
                      (try rw [Nbq13.out] at H')
                      (try rw [Nbq13.out] at BK103)
                      go_meet
                      case rel => exact ⟨_, ((((rd_T51 l0 x11_1).f1).toList != ([] : List UInt8))), (by first | rfl | (simp; done) | (simp [*]; done)), H', ⟨by have := HK1.out; first | omega | exact Nat.le_refl _⟩, ⟨by (with_reducible repeat (first | apply Kd.R_alloc | apply Kd.R_drewN | apply Kd.R_drew)); exact HO_4.out⟩, ⟨by (with_reducible repeat (first | refine blk_drewN ?_ _ | refine blk_drew ?_ | refine blk_alloc ?_ _)); exact BK103.out⟩, ⟨by repeat (first | (with_reducible first | exact HB.out | apply below_alloc | apply pw_below_drewN | apply below_drew1 | refine below_set ?_ GE103.out) | exact HB.out)⟩⟩
                · replace c12 := Bool.eq_false_iff.mpr c12
                  subst c12
                  have H1 : (cache_Text.j1 k1 x4_1 t104 l0 (l0.length : Int) x11_1 true ((rd_T51 l0 x11_1).f0) ((rd_T51 l0 x11_1).f1) ((rd_T51 l0 x11_1).f2)) = some (r1, r2) := by rw [if_neg (show ¬ (false = true) by decide)] at H; exact H
                  clear H
                  have H := H1
                  clear H1
                  have H' := Aside0.mk H
                  clear H
                  have hcz21_0 : w9.cell? ⟨gb103, 0, none⟩ = some (.string ((rd_T51 l0 x11_1).f0)) := (blk_cell BK103.out 0).trans rfl
                  have hcz21_1 : w9.cell? ⟨gb103, 1, none⟩ = some (.string ((rd_T51 l0 x11_1).f1)) := (blk_cell BK103.out 1).trans rfl
                  have hcz21_2 : w9.cell? ⟨gb103, 2, none⟩ = some (.bool ((rd_T51 l0 x11_1).f2)) := (blk_cell BK103.out 2).trans rfl
                  have hfz21_0 := blk_frozen BK103.out 0
                  have hfz21_1 := blk_frozen BK103.out 1
                  have hfz21_2 := blk_frozen BK103.out 2
                  try (have f2_ := Nbq11.out.symm)
                  rcases emp_cases ((rd_T51 l0 x11_1).f1) with ⟨hE1_, hE2_, hE3_⟩ | ⟨hE1_, hE2_, hE3_⟩
                  all_goals
                    go_wp2_with (first | ((with_reducible refine gate_callee (f := 89) rfl ?_); refine goesL_ (some 29) rfl rfl Try.func89 (by kernel_rfl) rfl #[.string ((rd_T51 l0 x11_1).f0)] rfl (by (try simp only [List.map_toArray, List.map_cons, List.map_nil]); first | done | rfl | (simp only [List.length_drop, List.length_take]; rfl)) ?_; (with_reducible refine (octet_Token.calls ((rd_T51 l0 x11_1).f0) true _ A10.out).mono ?_); rintro e w22 ⟨rfl, hb⟩; refine ⟨_, rfl, ?_⟩; have n0_ := Aside0.mk (Kd.R_below (by (with_reducible repeat (first | apply Kd.R_alloc | apply Kd.R_drewN | apply Kd.R_drew)); exact HO_4.out) hb); have n1_ := Aside0.mk (blk_below (g := gb103) (o := .cells #[.string ((rd_T51 l0 x11_1).f0), .string ((rd_T51 l0 x11_1).f1), .bool ((rd_T51 l0 x11_1).f2)] 51 (0, 0)) (by (with_reducible repeat (first | refine blk_drewN ?_ _ | refine blk_drew ?_ | refine blk_alloc ?_ _)); exact BK103.out) hb); have n2_ := Aside0.mk (below_step (by repeat (first | (with_reducible first | exact HB.out | apply below_alloc | apply pw_below_drewN | apply below_drew1 | refine below_set ?_ GE103.out) | exact HB.out)) hb); clear HO_4; clear BK103; clear HB; have HO_4 := n0_; have BK103 := n1_; have HB := n2_; clear n0_ n1_ n2_; (try clear hb); (try clear hb2); (try clear hk); (try clear hi)))
                    go_meet
                    case rel => exact ⟨_, (true), (by first | rfl | (simp; done) | (simp [*]; done)), H', ⟨by have := HK1.out; first | omega | exact Nat.le_refl _⟩, ⟨by (with_reducible repeat (first | apply Kd.R_alloc | apply Kd.R_drewN | apply Kd.R_drew)); exact HO_4.out⟩, ⟨by (with_reducible repeat (first | refine blk_drewN ?_ _ | refine blk_drew ?_ | refine blk_alloc ?_ _)); exact BK103.out⟩, ⟨by repeat (first | (with_reducible first | exact HB.out | apply below_alloc | apply pw_below_drewN | apply below_drew1 | refine below_set ?_ GE103.out) | exact HB.out)⟩⟩
              · replace c11 := Bool.eq_false_iff.mpr c11
                subst c11
                have H1 : (cache_Text.j1 k1 x4_1 t104 l0 (l0.length : Int) x11_1 true ((rd_T51 l0 x11_1).f0) ((rd_T51 l0 x11_1).f1) ((rd_T51 l0 x11_1).f2)) = some (r1, r2) := by rw [if_neg (show ¬ (false = true) by decide)] at H; exact H
                clear H
                have H := H1
                clear H1
                have H' := Aside0.mk H
                clear H
                have hcz23_0 : w9.cell? ⟨gb103, 0, none⟩ = some (.string ((rd_T51 l0 x11_1).f0)) := (blk_cell BK103.out 0).trans rfl
                have hcz23_1 : w9.cell? ⟨gb103, 1, none⟩ = some (.string ((rd_T51 l0 x11_1).f1)) := (blk_cell BK103.out 1).trans rfl
                have hcz23_2 : w9.cell? ⟨gb103, 2, none⟩ = some (.bool ((rd_T51 l0 x11_1).f2)) := (blk_cell BK103.out 2).trans rfl
                have hfz23_0 := blk_frozen BK103.out 0
                have hfz23_1 := blk_frozen BK103.out 1
                have hfz23_2 := blk_frozen BK103.out 2
                try (have f2_ := Nbq11.out.symm)
                rcases emp_cases ((rd_T51 l0 x11_1).f1) with ⟨hE1_, hE2_, hE3_⟩ | ⟨hE1_, hE2_, hE3_⟩
                all_goals
                  go_wp2_with (first | ((with_reducible refine gate_callee (f := 89) rfl ?_); refine goesL_ (some 29) rfl rfl Try.func89 (by kernel_rfl) rfl #[.string ((rd_T51 l0 x11_1).f0)] rfl (by (try simp only [List.map_toArray, List.map_cons, List.map_nil]); first | done | rfl | (simp only [List.length_drop, List.length_take]; rfl)) ?_; (with_reducible refine (octet_Token.calls ((rd_T51 l0 x11_1).f0) false _ A10.out).mono ?_); rintro e w24 ⟨rfl, hb⟩; refine ⟨_, rfl, ?_⟩; have n0_ := Aside0.mk (Kd.R_below (by (with_reducible repeat (first | apply Kd.R_alloc | apply Kd.R_drewN | apply Kd.R_drew)); exact HO_4.out) hb); have n1_ := Aside0.mk (blk_below (g := gb103) (o := .cells #[.string ((rd_T51 l0 x11_1).f0), .string ((rd_T51 l0 x11_1).f1), .bool ((rd_T51 l0 x11_1).f2)] 51 (0, 0)) (by (with_reducible repeat (first | refine blk_drewN ?_ _ | refine blk_drew ?_ | refine blk_alloc ?_ _)); exact BK103.out) hb); have n2_ := Aside0.mk (below_step (by repeat (first | (with_reducible first | exact HB.out | apply below_alloc | apply pw_below_drewN | apply below_drew1 | refine below_set ?_ GE103.out) | exact HB.out)) hb); clear HO_4; clear BK103; clear HB; have HO_4 := n0_; have BK103 := n1_; have HB := n2_; clear n0_ n1_ n2_; (try clear hb); (try clear hb2); (try clear hk); (try clear hi)))
                  go_meet
                  case rel => exact ⟨_, (true), (by first | rfl | (simp; done) | (simp [*]; done)), H', ⟨by have := HK1.out; first | omega | exact Nat.le_refl _⟩, ⟨by (with_reducible repeat (first | apply Kd.R_alloc | apply Kd.R_drewN | apply Kd.R_drew)); exact HO_4.out⟩, ⟨by (with_reducible repeat (first | refine blk_drewN ?_ _ | refine blk_drew ?_ | refine blk_alloc ?_ _)); exact BK103.out⟩, ⟨by repeat (first | (with_reducible first | exact HB.out | apply below_alloc | apply pw_below_drewN | apply below_drew1 | refine below_set ?_ GE103.out) | exact HB.out)⟩⟩
            case rest =>
              clear HC6
              try clear c1
              try clear p1
              try clear q1
              try clear hx1
              try clear c2
              try clear c2b0
              try clear p2
              try clear c3
              try clear c3b0
              try clear c4
              try clear c4b0
              try clear c8
              try clear p10
              try clear q10
              try clear hx10
              try clear c11
              try clear c12
              try clear q13
              try clear c14
              try clear hcz15_0
              try clear hcz15_1
              try clear hcz15_2
              try clear hcz17_0
              try clear hcz17_1
              try clear hcz17_2
              try clear hcz18_0
              try clear hcz18_1
              try clear hcz18_2
              try clear hcz20_0
              try clear hcz20_1
              try clear hcz20_2
              try clear hcz21_0
              try clear hcz21_1
              try clear hcz21_2
              try clear hcz23_0
              try clear hcz23_1
              try clear hcz23_2
              try clear hcz8_0
              try clear hcz8_1
              try clear hcz8_2
              try clear hfz15_0
              try clear hfz15_1
              try clear hfz15_2
              try clear hfz17_0
              try clear hfz17_1
              try clear hfz17_2
              try clear hfz18_0
              try clear hfz18_1
              try clear hfz18_2
              try clear hfz20_0
              try clear hfz20_1
              try clear hfz20_2
              try clear hfz21_0
              try clear hfz21_1
              try clear hfz21_2
              try clear hfz23_0
              try clear hfz23_1
              try clear hfz23_2
              try clear hfz8_0
              try clear hfz8_1
              try clear hfz8_2
              try clear hx102_0
              try clear hx102_1
              try clear hx102_2
              try clear p102
              try clear q102
              obtain ⟨kq, x26_5, rfl, HA, HJ5, HO_4, BK103, HB⟩ := hcut
              cases kq with
              | zero => exact absurd HA.out (by simp [cache_Text.j1])
              | succ kj5 =>
                have H := HA.out
                clear HA
                simp only [cache_Text.j1] at H
                by_cases c25 : x26_5 = true
                · subst c25
                  have H1 : (some ((⟨#[]⟩ : ByteArray), false)) = some (r1, r2) := by rw [if_pos rfl] at H; exact H
                  clear H
                  have H := H1
                  clear H1
                  simp only [Option.some.injEq, Prod.mk.injEq] at H
                  obtain ⟨rfl, rfl⟩ := H
                  go_wp2
                  go_ret2
                  exact ⟨by first | rfl | (simp [errW_none, errW_some] <;> rfl) | (simp [*, errW_none, errW_some] <;> rfl), by repeat (first | (with_reducible first | exact HB.out | apply below_alloc | apply pw_below_drewN | apply below_drew1 | refine below_set ?_ GE103.out) | exact HB.out)⟩
                · replace c25 := Bool.eq_false_iff.mpr c25
                  subst c25
                  have H1 : (if ((rd_T51 l0 x11_1).f2) = true then (if ((rd_T51 l0 x11_1).f0).size + 1 ≤ 9223372036854775807 then (if (((rd_T51 l0 x11_1).f0) ++ (⟨#[61]⟩ : ByteArray)).size + t104.size ≤ 9223372036854775807 then (if x4_1.length < 8796093022208 then (cache_Text.l0 kj5 (x4_1 ++ [(((rd_T51 l0 x11_1).f0) ++ (⟨#[61]⟩ : ByteArray)) ++ t104]) l0 (l0.length : Int) (wrap64 (x11_1 + 1))) else (none)) else (none)) else (none)) else (if x4_1.length < 8796093022208 then (cache_Text.l0 kj5 (x4_1 ++ [((rd_T51 l0 x11_1).f0)]) l0 (l0.length : Int) (wrap64 (x11_1 + 1))) else (none))) = some (r1, r2) := by rw [if_neg (show ¬ (false = true) by decide)] at H; exact H
                  clear H
                  have H := H1
                  clear H1
                  by_cases c26 : ((rd_T51 l0 x11_1).f2) = true
                  · rw [if_pos c26] at H
                    have c26b0 : ((rd_T51 l0 x11_1).f2) = true := c26
                    clear c26
                    by_cases c27 : ((rd_T51 l0 x11_1).f0).size + 1 ≤ 9223372036854775807
                    · rw [if_pos c27] at H
                      have c27b0 := eq_true c27
                      have c27b1 : decide (((rd_T51 l0 x11_1).f0).size + 1 ≤ 9223372036854775807) = true := decide_eq_true c27
                      try have c27b2 : (9223372036854775807 < ((rd_T51 l0 x11_1).f0).size + 1) = False := eq_false (Nat.not_lt.2 c27)
                      by_cases c28 : (((rd_T51 l0 x11_1).f0) ++ (⟨#[61]⟩ : ByteArray)).size + t104.size ≤ 9223372036854775807
                      · rw [if_pos c28] at H
                        have c28b0 := eq_true c28
                        have c28b1 : decide ((((rd_T51 l0 x11_1).f0) ++ (⟨#[61]⟩ : ByteArray)).size + t104.size ≤ 9223372036854775807) = true := decide_eq_true c28
                        try have c28b2 : (9223372036854775807 < (((rd_T51 l0 x11_1).f0) ++ (⟨#[61]⟩ : ByteArray)).size + t104.size) = False := eq_false (Nat.not_lt.2 c28)
                        by_cases c29 : x4_1.length < 8796093022208
                        · rw [if_pos c29] at H
                          have LMc29 := Aside0.mk c29
                          clear c29
                          obtain ⟨y107, hy107⟩ : ∃ y_ : List ByteArray, y_ = (x4_1 ++ [(((rd_T51 l0 x11_1).f0) ++ (⟨#[61]⟩ : ByteArray)) ++ t104]) := ⟨_, rfl⟩
                          replace H : (cache_Text.l0 kj5 y107 l0 (l0.length : Int) (wrap64 (x11_1 + 1))) = some (r1, r2) := by first | (rw [hy107]; with_reducible exact H) | (have H2_ := (Option.bind_some _ _).symm.trans H; rw [hy107]; with_reducible exact H2_) | (have H2_ := (Option.bind_some _ _).symm.trans H; with_reducible exact H2_) | with_reducible exact H | (rw [hy107]; exact H) | exact H
                          have Ny107 := Aside0.mk hy107
                          clear hy107
                          have H' := Aside0.mk H
                          clear H
                          have hcz30_0 : wc.cell? ⟨gb103, 0, none⟩ = some (.string ((rd_T51 l0 x11_1).f0)) := (blk_cell BK103.out 0).trans rfl
                          have hcz30_1 : wc.cell? ⟨gb103, 1, none⟩ = some (.string ((rd_T51 l0 x11_1).f1)) := (blk_cell BK103.out 1).trans rfl
                          have hcz30_2 : wc.cell? ⟨gb103, 2, none⟩ = some (.bool ((rd_T51 l0 x11_1).f2)) := (blk_cell BK103.out 2).trans rfl
                          have hfz30_0 := blk_frozen BK103.out 0
                          have hfz30_1 := blk_frozen BK103.out 1
                          have hfz30_2 := blk_frozen BK103.out 2
                          go_wp2_with (first | ((with_reducible refine gate_builtin (b := .append) (xs := #[.tmp 48, .tmp 54]) rfl ?_); at_builtin; refine Kd.R_append Kd.string (w0 := w) w.heap.size rfl (.tmp 48) (.tmp 54) 93 9 (.string ⟨#[]⟩) 16 rfl Try.underlying93 info9 rfl (by decide) (by omega) u4 x4_1 ((((rd_T51 l0 x11_1).f0) ++ (⟨#[61]⟩ : ByteArray)) ++ t104) [.string ((((rd_T51 l0 x11_1).f0) ++ (⟨#[61]⟩ : ByteArray)) ++ t104)] (fun _ => True) (fun _ => False) rfl rfl ?aP (fun _ hk => hk.elim) ?aF ?aO ?aB ?aS ?aL ?_; (case aP => exact rfl); (case aB => exact (by repeat (first | (with_reducible first | exact HB.out | apply below_alloc | apply pw_below_drewN | apply below_drew1 | refine below_set ?_ GE103.out) | exact HB.out))); (case aF => exact (fun _ _ => trivial)); (case aO => exact (by (with_reducible repeat (first | apply Kd.R_alloc | apply Kd.R_drewN | apply Kd.R_drew)); exact HO_4.out)); (case aS => exact (below_size (by repeat (first | (with_reducible first | exact HB.out | apply below_alloc | apply pw_below_drewN | apply below_drew1 | refine below_set ?_ GE103.out) | exact HB.out)))); (case aL => have := LMc29.out; omega); intro v108 w31 ho hb hg hat; rw [← Ny107.out] at ho; have n0_ := Aside0.mk (blk_grown (g := gb103) (o := .cells #[.string ((rd_T51 l0 x11_1).f0), .string ((rd_T51 l0 x11_1).f1), .bool ((rd_T51 l0 x11_1).f2)] 51 (0, 0)) (by (with_reducible repeat (first | refine blk_drewN ?_ _ | refine blk_drew ?_ | refine blk_alloc ?_ _)); exact BK103.out) hg (Kd.R_ne HO_4.out BK103.out (by decide))); have n1_ := Aside0.mk (hb); have n2_ := Aside0.mk (ho); clear BK103; clear HB; clear HO_4; have BK103 := n0_; have HB := n1_; have HO109 := n2_; clear n0_ n1_ n2_; clear ho hb hg hat))
                          go_roundg kj5
                          case measure => have := HK1.out; have := HJ5.out; omega
                          case rel => exact ⟨(y107), (wrap64 (x11_1 + 1)), (by first | rfl | (simp; done) | (simp [*]; done)), H', ⟨by have := HK1.out; have := HJ5.out; omega⟩, ⟨by (with_reducible repeat (first | apply Kd.R_alloc | apply Kd.R_drewN | apply Kd.R_drew)); exact HO109.out⟩, ⟨by repeat (first | (with_reducible first | exact HB.out | apply below_alloc | apply pw_below_drewN | apply below_drew1 | refine below_set ?_ GE103.out) | exact HB.out)⟩⟩
                        · rw [if_neg c29] at H
                          exact absurd H (by simp)
                      · rw [if_neg c28] at H
                        exact absurd H (by simp)
                    · rw [if_neg c27] at H
                      exact absurd H (by simp)
                  · rw [if_neg c26] at H
                    have c26b0 : ((rd_T51 l0 x11_1).f2) = false := by simpa using c26
                    clear c26
                    by_cases c32 : x4_1.length < 8796093022208
                    · rw [if_pos c32] at H
                      have LMc32 := Aside0.mk c32
                      clear c32
                      obtain ⟨y110, hy110⟩ : ∃ y_ : List ByteArray, y_ = (x4_1 ++ [((rd_T51 l0 x11_1).f0)]) := ⟨_, rfl⟩
                      replace H : (cache_Text.l0 kj5 y110 l0 (l0.length : Int) (wrap64 (x11_1 + 1))) = some (r1, r2) := by first | (rw [hy110]; with_reducible exact H) | (have H2_ := (Option.bind_some _ _).symm.trans H; rw [hy110]; with_reducible exact H2_) | (have H2_ := (Option.bind_some _ _).symm.trans H; with_reducible exact H2_) | with_reducible exact H | (rw [hy110]; exact H) | exact H
                      have Ny110 := Aside0.mk hy110
                      clear hy110
                      have H' := Aside0.mk H
                      clear H
                      have hcz33_0 : wc.cell? ⟨gb103, 0, none⟩ = some (.string ((rd_T51 l0 x11_1).f0)) := (blk_cell BK103.out 0).trans rfl
                      have hcz33_1 : wc.cell? ⟨gb103, 1, none⟩ = some (.string ((rd_T51 l0 x11_1).f1)) := (blk_cell BK103.out 1).trans rfl
                      have hcz33_2 : wc.cell? ⟨gb103, 2, none⟩ = some (.bool ((rd_T51 l0 x11_1).f2)) := (blk_cell BK103.out 2).trans rfl
                      have hfz33_0 := blk_frozen BK103.out 0
                      have hfz33_1 := blk_frozen BK103.out 1
                      have hfz33_2 := blk_frozen BK103.out 2
                      go_wp2_with (first | ((with_reducible refine gate_builtin (b := .append) (xs := #[.tmp 21, .tmp 24]) rfl ?_); at_builtin; refine Kd.R_append Kd.string (w0 := w) w.heap.size rfl (.tmp 21) (.tmp 24) 93 9 (.string ⟨#[]⟩) 16 rfl Try.underlying93 info9 rfl (by decide) (by omega) u4 x4_1 ((rd_T51 l0 x11_1).f0) [.string ((rd_T51 l0 x11_1).f0)] (fun _ => True) (fun _ => False) rfl rfl ?aP (fun _ hk => hk.elim) ?aF ?aO ?aB ?aS ?aL ?_; (case aP => exact rfl); (case aB => exact (by repeat (first | (with_reducible first | exact HB.out | apply below_alloc | apply pw_below_drewN | apply below_drew1 | refine below_set ?_ GE103.out) | exact HB.out))); (case aF => exact (fun _ _ => trivial)); (case aO => exact (by (with_reducible repeat (first | apply Kd.R_alloc | apply Kd.R_drewN | apply Kd.R_drew)); exact HO_4.out)); (case aS => exact (below_size (by repeat (first | (with_reducible first | exact HB.out | apply below_alloc | apply pw_below_drewN | apply below_drew1 | refine below_set ?_ GE103.out) | exact HB.out)))); (case aL => have := LMc32.out; omega); intro v111 w34 ho hb hg hat; rw [← Ny110.out] at ho; have n0_ := Aside0.mk (blk_grown (g := gb103) (o := .cells #[.string ((rd_T51 l0 x11_1).f0), .string ((rd_T51 l0 x11_1).f1), .bool ((rd_T51 l0 x11_1).f2)] 51 (0, 0)) (by (with_reducible repeat (first | refine blk_drewN ?_ _ | refine blk_drew ?_ | refine blk_alloc ?_ _)); exact BK103.out) hg (Kd.R_ne HO_4.out BK103.out (by decide))); have n1_ := Aside0.mk (hb); have n2_ := Aside0.mk (ho); clear BK103; clear HB; clear HO_4; have BK103 := n0_; have HB := n1_; have HO112 := n2_; clear n0_ n1_ n2_; clear ho hb hg hat))
                      go_roundg kj5
                      case measure => have := HK1.out; have := HJ5.out; omega
                      case rel => exact ⟨(y110), (wrap64 (x11_1 + 1)), (by first | rfl | (simp; done) | (simp [*]; done)), H', ⟨by have := HK1.out; have := HJ5.out; omega⟩, ⟨by (with_reducible repeat (first | apply Kd.R_alloc | apply Kd.R_drewN | apply Kd.R_drew)); exact HO112.out⟩, ⟨by repeat (first | (with_reducible first | exact HB.out | apply below_alloc | apply pw_below_drewN | apply below_drew1 | refine below_set ?_ GE103.out) | exact HB.out)⟩⟩
                    · rw [if_neg c32] at H
                      exact absurd H (by simp)
          · rw [if_neg c4] at H
            exact absurd H (by simp)
        · rw [if_neg c3] at H
          exact absurd H (by simp)
      · rw [if_neg c2] at H
        have c2b0 : decide (x11_1 < (l0.length : Int)) = false := decide_eq_false c2
        clear c2
        replace H := Option.bind_eq_some_iff.mp H
        obtain ⟨t101, A350, H⟩ := H
        (try dsimp only at H)
        have A35 := Aside0.mk A350
        clear A350
        simp only [Option.some.injEq, Prod.mk.injEq] at H
        obtain ⟨rfl, rfl⟩ := H
        obtain ⟨Ao36, co36, eo36⟩ := Kd.R_slice HO_4.out
        subst eo36
        go_wp2_with (first | ((with_reducible refine gate_callee (f := 90) rfl ?_); refine goesL_ (some 58) rfl rfl Try.func90 (by kernel_rfl) rfl #[.slice Ao36 x4_1.length co36] rfl (by (try simp only [List.map_toArray, List.map_cons, List.map_nil]); first | done | rfl | (simp only [List.length_drop, List.length_take]; rfl)) ?_; (with_reducible refine (lists_Join.calls _ _ x4_1 t101 _ ?side1 ?side2 A35.out).mono ?_); (case side1 => repeat (first | exact (Kd.R_reads' HO_4.out).2.2 | (with_reducible refine Kd.C_alloc ?_ _) | (with_reducible refine Kd.C_drewN ?_ _) | (with_reducible refine Kd.C_drew ?_))); (case side2 => exact (Kd.R_reads' HO_4.out).2.1); rintro e w37 ⟨rfl, hb⟩; refine ⟨_, rfl, ?_⟩; have n0_ := Aside0.mk (Kd.R_below (by (with_reducible repeat (first | apply Kd.R_alloc | apply Kd.R_drewN | apply Kd.R_drew)); exact HO_4.out) hb); have n1_ := Aside0.mk (below_step (by repeat (first | (with_reducible first | exact HB.out | apply below_alloc | apply pw_below_drewN | apply below_drew1) | exact HB.out)) hb); clear HO_4; clear HB; have HO_4 := n0_; have HB := n1_; clear n0_ n1_; (try clear hb); (try clear hb2); (try clear hk); (try clear hi)))
        go_ret2
        exact ⟨by first | rfl | (simp [errW_none, errW_some] <;> rfl) | (simp [*, errW_none, errW_some] <;> rfl), by repeat (first | (with_reducible first | exact HB.out | apply below_alloc | apply pw_below_drewN | apply below_drew1) | exact HB.out)⟩
end Go.Proofs.Ytjnhghplfdiijaa.Q

namespace Go.Proofs.Ytjnhghplfdiijaa.Q
open Go.RowKit Go.Proofs.YtjnhghplfdiijaaW.PrintWords Go.Proofs.YtjnhghplfdiijaaW.PrintLast Go.Proofs.YtjnhghplfdiijaaW.PrintMore
attribute [local go_sem] max2_int min2_int max_two min_two max_three min_three max_four min_four
set_option linter.unusedVariables false
set_option linter.unusedSimpArgs false
def abutmentref04_Quote.l0 : Nat → ByteArray → ByteArray → Int → Option (ByteArray × Bool)
  | 0, _, _, _ => none
  | k + 1, x0, x4, x5 => if x5 < (x0.size : Int) then (if 0 ≤ x5 then (if (bt x0 x5) = 34 then (if x4.size + 1 ≤ 9223372036854775807 then (if x5 ≤ (wrap64 (x5 + 1)) then (if (wrap64 (x5 + 1)) ≤ (x0.size : Int) then (if (x4 ++ (⟨#[92]⟩ : ByteArray)).size + (x0.extract (x5 : Int).toNat ((wrap64 (x5 + 1)) : Int).toNat).size ≤ 9223372036854775807 then (abutmentref04_Quote.l0 k x0 ((x4 ++ (⟨#[92]⟩ : ByteArray)) ++ (x0.extract (x5 : Int).toNat ((wrap64 (x5 + 1)) : Int).toNat)) (wrap64 (x5 + 1))) else (none)) else (none)) else (none)) else (none)) else (if (bt x0 x5) = 92 then (if x4.size + 1 ≤ 9223372036854775807 then (if x5 ≤ (wrap64 (x5 + 1)) then (if (wrap64 (x5 + 1)) ≤ (x0.size : Int) then (if (x4 ++ (⟨#[92]⟩ : ByteArray)).size + (x0.extract (x5 : Int).toNat ((wrap64 (x5 + 1)) : Int).toNat).size ≤ 9223372036854775807 then (abutmentref04_Quote.l0 k x0 ((x4 ++ (⟨#[92]⟩ : ByteArray)) ++ (x0.extract (x5 : Int).toNat ((wrap64 (x5 + 1)) : Int).toNat)) (wrap64 (x5 + 1))) else (none)) else (none)) else (none)) else (none)) else (if x5 ≤ (wrap64 (x5 + 1)) then (if (wrap64 (x5 + 1)) ≤ (x0.size : Int) then (if x4.size + (x0.extract (x5 : Int).toNat ((wrap64 (x5 + 1)) : Int).toNat).size ≤ 9223372036854775807 then (abutmentref04_Quote.l0 k x0 (x4 ++ (x0.extract (x5 : Int).toNat ((wrap64 (x5 + 1)) : Int).toNat)) (wrap64 (x5 + 1))) else (none)) else (none)) else (none)))) else (none)) else (if x4.size + 1 ≤ 9223372036854775807 then (some (x4 ++ (⟨#[34]⟩ : ByteArray), true)) else (none))
def abutmentref04_Quote.f (k : Nat) (a0 : ByteArray) : Option (ByteArray × Bool) := (abutmentref01_Token.f k a0).bind fun t101 => (if t101 = true then (some (a0, true)) else ((abutmentref01_Value.f k a0).bind fun t102 => (if t102 = true then (abutmentref04_Quote.l0 k a0 (⟨#[34]⟩ : ByteArray) 0) else (some ((⟨#[]⟩ : ByteArray), false)))))
set_option maxHeartbeats 8000000 in
set_option maxRecDepth 100000 in
theorem abutmentref04_Quote.calls (k : Nat) (a0 : ByteArray) (r1 : ByteArray) (r2 : Bool) (w : World) (h : abutmentref04_Quote.f k a0 = some (r1, r2)) :
    Calls Try.prog 91 #[.string a0] w fun e w' => e = .returned (.tuple #[.string r1, .bool r2]) ∧ Drawn0 w w' := by
  have H : ((abutmentref01_Token.f k a0).bind fun t101 => (if t101 = true then (some (a0, true)) else ((abutmentref01_Value.f k a0).bind fun t102 => (if t102 = true then (abutmentref04_Quote.l0 k a0 (⟨#[34]⟩ : ByteArray) 0) else (some ((⟨#[]⟩ : ByteArray), false)))))) = some (r1, r2) := h
  clear h
  replace H := Option.bind_eq_some_iff.mp H
  obtain ⟨t101, A20, H⟩ := H
  (try dsimp only at H)
  have A2 := Aside0.mk A20
  clear A20
  by_cases c3 : t101 = true
  · subst c3
    have H1 : (some (a0, true)) = some (r1, r2) := by rw [if_pos rfl] at H; exact H
    clear H
    have H := H1
    clear H1
    simp only [Option.some.injEq, Prod.mk.injEq] at H
    obtain ⟨rfl, rfl⟩ := H
    go_enter Try.func91, Try.ntmps91
    go_wp2_with (first | ((with_reducible refine gate_callee (f := 92) rfl ?_); refine goesL_ (some 7) rfl rfl Try.func92 (by kernel_rfl) rfl #[.string a0] rfl (by (try simp only [List.map_toArray, List.map_cons, List.map_nil]); first | done | rfl | (simp only [List.length_drop, List.length_take]; rfl)) ?_; (with_reducible refine (abutmentref01_Token.calls k a0 true _ A2.out).mono ?_); rintro e w' ⟨rfl, ⟨nd, rfl⟩⟩; refine ⟨_, rfl, ?_⟩))
    go_ret2
    exact ⟨by first | rfl | (simp; done) | (simp [*]; done), by repeat (first | exact Drawn0.refl _ | apply Drawn0.step)⟩
  · replace c3 := Bool.eq_false_iff.mpr c3
    subst c3
    have H1 : ((abutmentref01_Value.f k a0).bind fun t102 => (if t102 = true then (abutmentref04_Quote.l0 k a0 (⟨#[34]⟩ : ByteArray) 0) else (some ((⟨#[]⟩ : ByteArray), false)))) = some (r1, r2) := by rw [if_neg (show ¬ (false = true) by decide)] at H; exact H
    clear H
    have H := H1
    clear H1
    replace H := Option.bind_eq_some_iff.mp H
    obtain ⟨t102, A40, H⟩ := H
    (try dsimp only at H)
    have A4 := Aside0.mk A40
    clear A40
    by_cases c5 : t102 = true
    · subst c5
      have H1 : (abutmentref04_Quote.l0 k a0 (⟨#[34]⟩ : ByteArray) 0) = some (r1, r2) := by rw [if_pos rfl] at H; exact H
      clear H
      have H := H1
      clear H1
      have H' := Aside0.mk H
      clear H
      go_enter Try.func91, Try.ntmps91
      go_wp2_with (first | ((with_reducible refine gate_callee (f := 92) rfl ?_); refine goesL_ (some 7) rfl rfl Try.func92 (by kernel_rfl) rfl #[.string a0] rfl (by (try simp only [List.map_toArray, List.map_cons, List.map_nil]); first | done | rfl | (simp only [List.length_drop, List.length_take]; rfl)) ?_; (with_reducible refine (abutmentref01_Token.calls k a0 false _ A2.out).mono ?_); rintro e w' ⟨rfl, ⟨nd, rfl⟩⟩; refine ⟨_, rfl, ?_⟩) | ((with_reducible refine gate_callee (f := 144) rfl ?_); refine goesL_ (some 10) rfl rfl Try.func144 (by kernel_rfl) rfl #[.string a0] rfl (by (try simp only [List.map_toArray, List.map_cons, List.map_nil]); first | done | rfl | (simp only [List.length_drop, List.length_take]; rfl)) ?_; (with_reducible refine (abutmentref01_Value.calls k a0 true _ A4.out).mono ?_); rintro e w' ⟨rfl, ⟨nd, rfl⟩⟩; refine ⟨_, rfl, ?_⟩))
      go_loopg [4, 5] k (fun kq v4 v5 w' => ∃ (x4_1 : ByteArray) (x5_1 : Int), v4 = .string x4_1 ∧ v5 = .int .i64 x5_1 ∧ Aside0 (abutmentref04_Quote.l0 kq a0 x4_1 x5_1 = some (r1, r2)) ∧ Aside0 (kq ≤ k) ∧ Drawn0 w w')
      case atStart => exact ⟨((⟨#[34]⟩ : ByteArray)), (0), (by first | rfl | (simp; done) | (simp [*]; done)), (by first | rfl | (simp; done) | (simp [*]; done)), H', ⟨Nat.le_refl _⟩, by repeat (first | exact Drawn0.refl _ | apply Drawn0.step)⟩
      case round =>
        clear H'
        try clear c1
        try clear p2
        try clear c3
        try clear c5
        obtain ⟨x4_1, x5_1, rfl, rfl, HA, HK1, ⟨m1, rfl⟩⟩ := hrel
        cases gk with
        | zero => exact absurd HA.out (by simp [abutmentref04_Quote.l0])
        | succ k1 =>
          have H := HA.out
          clear HA
          simp only [abutmentref04_Quote.l0] at H
          by_cases c6 : x5_1 < (a0.size : Int)
          · rw [if_pos c6] at H
            have c6b0 : decide (x5_1 < (a0.size : Int)) = true := decide_eq_true c6
            clear c6
            by_cases c7 : 0 ≤ x5_1
            · rw [if_pos c7] at H
              have c7b0 : decide (0 ≤ x5_1) = true := decide_eq_true c7
              clear c7
              by_cases c9 : (bt a0 x5_1) = 34
              · rw [if_pos c9] at H
                have c9b0 : ((bt a0 x5_1) == 34) = true := beq_iff_eq.mpr c9
                have c9b1 : ((bt a0 x5_1) != 34) = false := bne_eq_false_iff_eq.mpr c9
                clear c9
                by_cases c10 : x4_1.size + 1 ≤ 9223372036854775807
                · rw [if_pos c10] at H
                  have c10b0 := eq_true c10
                  have c10b1 : decide (x4_1.size + 1 ≤ 9223372036854775807) = true := decide_eq_true c10
                  try have c10b2 : (9223372036854775807 < x4_1.size + 1) = False := eq_false (Nat.not_lt.2 c10)
                  have c11b0 := eq_true (of_decide_eq_true (by first | (with_reducible assumption) | assumption) : 0 ≤ x5_1)
                  by_cases c12 : x5_1 ≤ (wrap64 (x5_1 + 1))
                  · rw [if_pos c12] at H
                    have c12b0 := eq_true c12
                    have c12b1 : decide (x5_1 ≤ (wrap64 (x5_1 + 1))) = true := decide_eq_true c12
                    by_cases c13 : (wrap64 (x5_1 + 1)) ≤ (a0.size : Int)
                    · rw [if_pos c13] at H
                      have c13b0 := eq_true c13
                      have c13b1 : decide ((wrap64 (x5_1 + 1)) ≤ (a0.size : Int)) = true := decide_eq_true c13
                      by_cases c14 : (x4_1 ++ (⟨#[92]⟩ : ByteArray)).size + (a0.extract (x5_1 : Int).toNat ((wrap64 (x5_1 + 1)) : Int).toNat).size ≤ 9223372036854775807
                      · rw [if_pos c14] at H
                        have c14b0 := eq_true c14
                        have c14b1 : decide ((x4_1 ++ (⟨#[92]⟩ : ByteArray)).size + (a0.extract (x5_1 : Int).toNat ((wrap64 (x5_1 + 1)) : Int).toNat).size ≤ 9223372036854775807) = true := decide_eq_true c14
                        try have c14b2 : (9223372036854775807 < (x4_1 ++ (⟨#[92]⟩ : ByteArray)).size + (a0.extract (x5_1 : Int).toNat ((wrap64 (x5_1 + 1)) : Int).toNat).size) = False := eq_false (Nat.not_lt.2 c14)
                        have H' := Aside0.mk H
                        clear H
                        have p8 : 0 ≤ (x5_1 : Int) := of_decide_eq_true (by first | (with_reducible assumption) | assumption)
                        have q8 : x5_1 < (a0.size : Int) := of_decide_eq_true (by first | (with_reducible assumption) | assumption)
                        have hx8 := bt_at a0 x5_1
                        replace p8 := eq_true p8
                        replace q8 := eq_true q8
                        go_wp2
                        go_roundg k1
                        case measure => have := HK1.out; omega
                        case rel => exact ⟨((x4_1 ++ (⟨#[92]⟩ : ByteArray)) ++ (a0.extract (x5_1 : Int).toNat ((wrap64 (x5_1 + 1)) : Int).toNat)), (wrap64 (x5_1 + 1)), (by first | rfl | (simp; done) | (simp [*]; done)), (by first | rfl | (simp; done) | (simp [*]; done)), H', ⟨by have := HK1.out; omega⟩, by repeat (first | exact Drawn0.refl _ | apply Drawn0.step)⟩
                      · rw [if_neg c14] at H
                        exact absurd H (by simp)
                    · rw [if_neg c13] at H
                      exact absurd H (by simp)
                  · rw [if_neg c12] at H
                    exact absurd H (by simp)
                · rw [if_neg c10] at H
                  exact absurd H (by simp)
              · rw [if_neg c9] at H
                have c9b0 : ((bt a0 x5_1) == 34) = false := beq_eq_false_iff_ne.mpr c9
                have c9b1 : ((bt a0 x5_1) != 34) = true := bne_iff_ne.mpr c9
                by_cases c16 : (bt a0 x5_1) = 92
                · rw [if_pos c16] at H
                  have c16b0 : ((bt a0 x5_1) == 92) = true := beq_iff_eq.mpr c16
                  have c16b1 : ((bt a0 x5_1) != 92) = false := bne_eq_false_iff_eq.mpr c16
                  clear c16
                  by_cases c17 : x4_1.size + 1 ≤ 9223372036854775807
                  · rw [if_pos c17] at H
                    have c17b0 := eq_true c17
                    have c17b1 : decide (x4_1.size + 1 ≤ 9223372036854775807) = true := decide_eq_true c17
                    try have c17b2 : (9223372036854775807 < x4_1.size + 1) = False := eq_false (Nat.not_lt.2 c17)
                    have c18b0 := eq_true (of_decide_eq_true (by first | (with_reducible assumption) | assumption) : 0 ≤ x5_1)
                    by_cases c19 : x5_1 ≤ (wrap64 (x5_1 + 1))
                    · rw [if_pos c19] at H
                      have c19b0 := eq_true c19
                      have c19b1 : decide (x5_1 ≤ (wrap64 (x5_1 + 1))) = true := decide_eq_true c19
                      by_cases c20 : (wrap64 (x5_1 + 1)) ≤ (a0.size : Int)
                      · rw [if_pos c20] at H
                        have c20b0 := eq_true c20
                        have c20b1 : decide ((wrap64 (x5_1 + 1)) ≤ (a0.size : Int)) = true := decide_eq_true c20
                        by_cases c21 : (x4_1 ++ (⟨#[92]⟩ : ByteArray)).size + (a0.extract (x5_1 : Int).toNat ((wrap64 (x5_1 + 1)) : Int).toNat).size ≤ 9223372036854775807
                        · rw [if_pos c21] at H
                          have c21b0 := eq_true c21
                          have c21b1 : decide ((x4_1 ++ (⟨#[92]⟩ : ByteArray)).size + (a0.extract (x5_1 : Int).toNat ((wrap64 (x5_1 + 1)) : Int).toNat).size ≤ 9223372036854775807) = true := decide_eq_true c21
                          try have c21b2 : (9223372036854775807 < (x4_1 ++ (⟨#[92]⟩ : ByteArray)).size + (a0.extract (x5_1 : Int).toNat ((wrap64 (x5_1 + 1)) : Int).toNat).size) = False := eq_false (Nat.not_lt.2 c21)
                          have H' := Aside0.mk H
                          clear H
                          have p8 : 0 ≤ (x5_1 : Int) := of_decide_eq_true (by first | (with_reducible assumption) | assumption)
                          have q8 : x5_1 < (a0.size : Int) := of_decide_eq_true (by first | (with_reducible assumption) | assumption)
                          have hx8 := bt_at a0 x5_1
                          replace p8 := eq_true p8
                          replace q8 := eq_true q8
                          have p15 : 0 ≤ (x5_1 : Int) := of_decide_eq_true (by first | (with_reducible assumption) | assumption)
                          have q15 : x5_1 < (a0.size : Int) := of_decide_eq_true (by first | (with_reducible assumption) | assumption)
                          have hx15 := bt_at a0 x5_1
                          replace p15 := eq_true p15
                          replace q15 := eq_true q15
                          go_wp2
                          go_roundg k1
                          case measure => have := HK1.out; omega
                          case rel => exact ⟨((x4_1 ++ (⟨#[92]⟩ : ByteArray)) ++ (a0.extract (x5_1 : Int).toNat ((wrap64 (x5_1 + 1)) : Int).toNat)), (wrap64 (x5_1 + 1)), (by first | rfl | (simp; done) | (simp [*]; done)), (by first | rfl | (simp; done) | (simp [*]; done)), H', ⟨by have := HK1.out; omega⟩, by repeat (first | exact Drawn0.refl _ | apply Drawn0.step)⟩
                        · rw [if_neg c21] at H
                          exact absurd H (by simp)
                      · rw [if_neg c20] at H
                        exact absurd H (by simp)
                    · rw [if_neg c19] at H
                      exact absurd H (by simp)
                  · rw [if_neg c17] at H
                    exact absurd H (by simp)
                · rw [if_neg c16] at H
                  have c16b0 : ((bt a0 x5_1) == 92) = false := beq_eq_false_iff_ne.mpr c16
                  have c16b1 : ((bt a0 x5_1) != 92) = true := bne_iff_ne.mpr c16
                  have c22b0 := eq_true (of_decide_eq_true (by first | (with_reducible assumption) | assumption) : 0 ≤ x5_1)
                  by_cases c23 : x5_1 ≤ (wrap64 (x5_1 + 1))
                  · rw [if_pos c23] at H
                    have c23b0 := eq_true c23
                    have c23b1 : decide (x5_1 ≤ (wrap64 (x5_1 + 1))) = true := decide_eq_true c23
                    by_cases c24 : (wrap64 (x5_1 + 1)) ≤ (a0.size : Int)
                    · rw [if_pos c24] at H
                      have c24b0 := eq_true c24
                      have c24b1 : decide ((wrap64 (x5_1 + 1)) ≤ (a0.size : Int)) = true := decide_eq_true c24
                      by_cases c25 : x4_1.size + (a0.extract (x5_1 : Int).toNat ((wrap64 (x5_1 + 1)) : Int).toNat).size ≤ 9223372036854775807
                      · rw [if_pos c25] at H
                        have c25b0 := eq_true c25
                        have c25b1 : decide (x4_1.size + (a0.extract (x5_1 : Int).toNat ((wrap64 (x5_1 + 1)) : Int).toNat).size ≤ 9223372036854775807) = true := decide_eq_true c25
                        try have c25b2 : (9223372036854775807 < x4_1.size + (a0.extract (x5_1 : Int).toNat ((wrap64 (x5_1 + 1)) : Int).toNat).size) = False := eq_false (Nat.not_lt.2 c25)
                        have H' := Aside0.mk H
                        clear H
                        have p8 : 0 ≤ (x5_1 : Int) := of_decide_eq_true (by first | (with_reducible assumption) | assumption)
                        have q8 : x5_1 < (a0.size : Int) := of_decide_eq_true (by first | (with_reducible assumption) | assumption)
                        have hx8 := bt_at a0 x5_1
                        replace p8 := eq_true p8
                        replace q8 := eq_true q8
                        have p15 : 0 ≤ (x5_1 : Int) := of_decide_eq_true (by first | (with_reducible assumption) | assumption)
                        have q15 : x5_1 < (a0.size : Int) := of_decide_eq_true (by first | (with_reducible assumption) | assumption)
                        have hx15 := bt_at a0 x5_1
                        replace p15 := eq_true p15
                        replace q15 := eq_true q15
                        go_wp2
                        go_roundg k1
                        case measure => have := HK1.out; omega
                        case rel => exact ⟨(x4_1 ++ (a0.extract (x5_1 : Int).toNat ((wrap64 (x5_1 + 1)) : Int).toNat)), (wrap64 (x5_1 + 1)), (by first | rfl | (simp; done) | (simp [*]; done)), (by first | rfl | (simp; done) | (simp [*]; done)), H', ⟨by have := HK1.out; omega⟩, by repeat (first | exact Drawn0.refl _ | apply Drawn0.step)⟩
                      · rw [if_neg c25] at H
                        exact absurd H (by simp)
                    · rw [if_neg c24] at H
                      exact absurd H (by simp)
                  · rw [if_neg c23] at H
                    exact absurd H (by simp)
            · rw [if_neg c7] at H
              exact absurd H (by simp)
          · rw [if_neg c6] at H
            have c6b0 : decide (x5_1 < (a0.size : Int)) = false := decide_eq_false c6
            clear c6
            by_cases c26 : x4_1.size + 1 ≤ 9223372036854775807
            · rw [if_pos c26] at H
              have c26b0 := eq_true c26
              have c26b1 : decide (x4_1.size + 1 ≤ 9223372036854775807) = true := decide_eq_true c26
              try have c26b2 : (9223372036854775807 < x4_1.size + 1) = False := eq_false (Nat.not_lt.2 c26)
              simp only [Option.some.injEq, Prod.mk.injEq] at H
              obtain ⟨rfl, rfl⟩ := H
              go_wp2
              go_ret2
              exact ⟨by first | rfl | (simp; done) | (simp [*]; done), by repeat (first | exact Drawn0.refl _ | apply Drawn0.step)⟩
            · rw [if_neg c26] at H
              exact absurd H (by simp)
    · replace c5 := Bool.eq_false_iff.mpr c5
      subst c5
      have H1 : (some ((⟨#[]⟩ : ByteArray), false)) = some (r1, r2) := by rw [if_neg (show ¬ (false = true) by decide)] at H; exact H
      clear H
      have H := H1
      clear H1
      simp only [Option.some.injEq, Prod.mk.injEq] at H
      obtain ⟨rfl, rfl⟩ := H
      go_enter Try.func91, Try.ntmps91
      go_wp2_with (first | ((with_reducible refine gate_callee (f := 92) rfl ?_); refine goesL_ (some 7) rfl rfl Try.func92 (by kernel_rfl) rfl #[.string a0] rfl (by (try simp only [List.map_toArray, List.map_cons, List.map_nil]); first | done | rfl | (simp only [List.length_drop, List.length_take]; rfl)) ?_; (with_reducible refine (abutmentref01_Token.calls k a0 false _ A2.out).mono ?_); rintro e w' ⟨rfl, ⟨nd, rfl⟩⟩; refine ⟨_, rfl, ?_⟩) | ((with_reducible refine gate_callee (f := 144) rfl ?_); refine goesL_ (some 10) rfl rfl Try.func144 (by kernel_rfl) rfl #[.string a0] rfl (by (try simp only [List.map_toArray, List.map_cons, List.map_nil]); first | done | rfl | (simp only [List.length_drop, List.length_take]; rfl)) ?_; (with_reducible refine (abutmentref01_Value.calls k a0 false _ A4.out).mono ?_); rintro e w' ⟨rfl, ⟨nd, rfl⟩⟩; refine ⟨_, rfl, ?_⟩))
      go_ret2
      exact ⟨by first | rfl | (simp; done) | (simp [*]; done), by repeat (first | exact Drawn0.refl _ | apply Drawn0.step)⟩
end Go.Proofs.Ytjnhghplfdiijaa.Q

namespace Go.Proofs.Ytjnhghplfdiijaa.Q
open Go.RowKit Go.Proofs.YtjnhghplfdiijaaW.PrintWords Go.Proofs.YtjnhghplfdiijaaW.PrintLast Go.Proofs.YtjnhghplfdiijaaW.PrintMore
attribute [local go_sem] max2_int min2_int max_two min_two max_three min_three max_four min_four
set_option linter.unusedVariables false
set_option linter.unusedSimpArgs false
mutual
def abutmentref21_Text.l0 : Nat → List (S51) → List ByteArray → Int → Option (ByteArray × Bool)
  | 0, _, _, _ => none
  | k + 1, x0, x4, x5 => if x5 < (x0.length : Int) then (if 0 ≤ x5 then ((abutmentref04_Quote.f k ((rd_T51 x0 x5).f1)).bind fun bt106 => (if bt106.2 = true then ((abutmentref01_Token.f k ((rd_T51 x0 x5).f0)).bind fun t109 => (if t109 = true then (if ((rd_T51 x0 x5).f2 = true) then (abutmentref21_Text.j1 k x0 x4 x5 bt106.1 false) else (abutmentref21_Text.j1 k x0 x4 x5 bt106.1 (((rd_T51 x0 x5).f1).toList != ([] : List UInt8)))) else (abutmentref21_Text.j1 k x0 x4 x5 bt106.1 true))) else (abutmentref21_Text.j1 k x0 x4 x5 bt106.1 true))) else (none)) else ((abutmentref07_Join.f k x4).bind fun t104 => (some (t104, true)))
def abutmentref21_Text.j1 : Nat → List (S51) → List ByteArray → Int → ByteArray → Bool → Option (ByteArray × Bool)
  | 0, _, _, _, _, _ => none
  | k + 1, x0, x4, x5, x6, x50 => if x50 = true then (some ((⟨#[]⟩ : ByteArray), false)) else (if 0 ≤ x5 then (if x5 < (x0.length : Int) then (if (rd_T51 x0 x5).f2 = true then (if ((rd_T51 x0 x5).f0).size + 1 ≤ 9223372036854775807 then (if (((rd_T51 x0 x5).f0) ++ (⟨#[61]⟩ : ByteArray)).size + x6.size ≤ 9223372036854775807 then (if x4.length < 8796093022208 then (abutmentref21_Text.l0 k x0 (x4 ++ [(((rd_T51 x0 x5).f0) ++ (⟨#[61]⟩ : ByteArray)) ++ x6]) (wrap64 (x5 + 1))) else (none)) else (none)) else (none)) else (if x4.length < 8796093022208 then (abutmentref21_Text.l0 k x0 (x4 ++ [(rd_T51 x0 x5).f0]) (wrap64 (x5 + 1))) else (none))) else (none)) else (none))
end
def abutmentref21_Text.f (k : Nat) (l0 : List (S51)) : Option (ByteArray × Bool) := abutmentref21_Text.l0 k l0 (([] : List ByteArray)) 0
set_option maxHeartbeats 8000000 in
set_option maxRecDepth 100000 in
theorem abutmentref21_Text.calls (k : Nat) (A0 : Option Addr) (c0 : Nat) (l0 : List (S51)) (r1 : ByteArray) (r2 : Bool) (w : World) (hr0 : Kd.C k51 w A0 l0.length l0) (hc0 : l0.length ≤ c0) (h : abutmentref21_Text.f k l0 = some (r1, r2)) :
    Calls Try.prog 46 #[.slice A0 l0.length c0] w fun e w' => e = .returned (.tuple #[.string r1, .bool r2]) ∧ Below w.heap.size w w' := by
  have HR0 := Aside0.mk hr0
  have HC0 := Aside0.mk hc0
  clear hr0 hc0
  have HB := Aside0.mk (Below.refl w.heap.size w)
  have H : (abutmentref21_Text.l0 k l0 (([] : List ByteArray)) 0) = some (r1, r2) := h
  clear h
  obtain ⟨y101, hy101⟩ : ∃ y_ : List ByteArray, y_ = (([] : List ByteArray)) := ⟨_, rfl⟩
  replace H : (abutmentref21_Text.l0 k l0 y101 0) = some (r1, r2) := by first | (rw [hy101]; with_reducible exact H) | (have H2_ := (Option.bind_some _ _).symm.trans H; rw [hy101]; with_reducible exact H2_) | (have H2_ := (Option.bind_some _ _).symm.trans H; with_reducible exact H2_) | with_reducible exact H | (rw [hy101]; exact H) | exact H
  have Ny101 := Aside0.mk hy101
  clear hy101
  have H' := Aside0.mk H
  clear H
  go_enter Try.func46, Try.ntmps46
  go_wp2_with (first | ((with_reducible refine gate_dst (N := 8) rfl ?_); refine Kd.R_lit Kd.string _ 9 ?hg (N := 8) ?hd (xs := ([] : List ByteArray)) (inner := []) (ok := fun _ => True) (okp := fun _ => True) ?hr ?hp (fun _ hk => hk) trivial (Below.refl _ _) (Nat.le_refl _) (by simp) ?_; (case hd => rfl); (case hg => rfl); (case hr => first | (go_simp; done) | (go_simp; rfl)); (case hp => exact (Reps.none _ _)); intro v102 w2 ho3 hb hg_ hnew_; clear hg_ hnew_; (first | rw [← Ny101.out] at ho3 | (simp only [Int.reduceToNat] at ho3; rw [← Ny101.out] at ho3)); have n0_ := Aside0.mk (Kd.R_lower ho3 (below_size (by repeat (first | (with_reducible first | exact HB.out | apply below_alloc | apply pw_below_drewN | apply below_drew1) | exact HB.out)))); have n1_ := Aside0.mk (below_step (by repeat (first | (with_reducible first | exact HB.out | apply below_alloc | apply pw_below_drewN | apply below_drew1) | exact HB.out)) hb); clear HB; have HO103 := n0_; have HB := n1_; clear n0_ n1_; clear hb ho3))
  go_loopg [4, 5] k (fun kq v4 v5 w' => ∃ (x4_1 : List ByteArray) (x5_1 : Int), v5 = .int .i64 x5_1 ∧ Aside0 (abutmentref21_Text.l0 kq l0 x4_1 x5_1 = some (r1, r2)) ∧ Aside0 (kq ≤ k) ∧ Aside0 (Kd.R Kd.string 9 w' w.heap.size (fun _ => True) v4 x4_1) ∧ Aside0 (Below w.heap.size w w'))
  case atStart => exact ⟨(y101), (0), (by first | rfl | (simp; done) | (simp [*]; done)), H', ⟨Nat.le_refl _⟩, ⟨by (with_reducible repeat (first | apply Kd.R_alloc | apply Kd.R_drewN | apply Kd.R_drew)); exact HO103.out⟩, ⟨by repeat (first | (with_reducible first | exact HB.out | apply below_alloc | apply pw_below_drewN | apply below_drew1) | exact HB.out)⟩⟩
  case round =>
    clear H'
    try clear p2
    obtain ⟨x4_1, x5_1, rfl, HA, HK1, HO_4, HB⟩ := hrel
    cases gk with
    | zero => exact absurd HA.out (by simp [abutmentref21_Text.l0])
    | succ k1 =>
      have H := HA.out
      clear HA
      simp only [abutmentref21_Text.l0] at H
      by_cases c4 : x5_1 < (l0.length : Int)
      · rw [if_pos c4] at H
        have c4b0 : decide (x5_1 < (l0.length : Int)) = true := decide_eq_true c4
        clear c4
        by_cases c5 : 0 ≤ x5_1
        · rw [if_pos c5] at H
          have c5b0 : decide (0 ≤ x5_1) = true := decide_eq_true c5
          clear c5
          replace H := Option.bind_eq_some_iff.mp H
          obtain ⟨⟨t106, t107⟩, A60, H⟩ := H
          (try dsimp only at H)
          have A6 := Aside0.mk A60
          clear A60
          have HC7 := Aside0.mk H
          clear H
          have p105 : 0 ≤ (x5_1 : Int) := of_decide_eq_true (by first | (with_reducible assumption) | assumption)
          have q105 : x5_1 < (l0.length : Int) := of_decide_eq_true (by first | (with_reducible assumption) | assumption)
          obtain ⟨ad105, e105, hx105_0, hx105_1, hx105_2⟩ := at_T51 HR0.out x5_1 p105 q105
          cases e105
          replace hx105_0 := (HB.out.cell (World.block_lt_of_cell? w _ hx105_0)).trans hx105_0
          replace hx105_1 := (HB.out.cell (World.block_lt_of_cell? w _ hx105_1)).trans hx105_1
          replace hx105_2 := (HB.out.cell (World.block_lt_of_cell? w _ hx105_2)).trans hx105_2
          replace p105 := eq_true p105
          replace q105 := eq_true q105
          go_upto_region 6 with (first | ((with_reducible refine gate_callee (f := 91) rfl ?_); refine goesL_ (some 21) rfl rfl Try.func91 (by kernel_rfl) rfl #[.string ((rd_T51 l0 x5_1).f1)] rfl (by (try simp only [List.map_toArray, List.map_cons, List.map_nil]); first | done | rfl | (simp only [List.length_drop, List.length_take]; rfl)) ?_; (with_reducible refine (abutmentref04_Quote.calls k1 ((rd_T51 l0 x5_1).f1) t106 t107 _ A6.out).mono ?_); rintro e w' ⟨rfl, ⟨nd, rfl⟩⟩; refine ⟨_, rfl, ?_⟩))
          (try simp only [Act.put, List.setIfInBounds_toArray, List.set_cons_zero, List.set_cons_succ])
          go_cut [50] (fun v50 wc => ∃ (kq : Nat) (x50_6 : Bool), v50 = .bool x50_6 ∧ Aside0 (abutmentref21_Text.j1 kq l0 x4_1 x5_1 t106 x50_6 = some (r1, r2)) ∧ Aside0 (kq ≤ k1) ∧ Aside0 (Kd.R Kd.string 9 wc w.heap.size (fun _ => True) u4 x4_1) ∧ Aside0 (Below w.heap.size w wc))
          case first =>
            have H := HC7.out
            clear HC7
            by_cases c8 : t107 = true
            · subst c8
              have H1 : ((abutmentref01_Token.f k1 ((rd_T51 l0 x5_1).f0)).bind fun t109 => (if t109 = true then (if ((rd_T51 l0 x5_1).f2 = true) then (abutmentref21_Text.j1 k1 l0 x4_1 x5_1 t106 false) else (abutmentref21_Text.j1 k1 l0 x4_1 x5_1 t106 (((rd_T51 l0 x5_1).f1).toList != ([] : List UInt8)))) else (abutmentref21_Text.j1 k1 l0 x4_1 x5_1 t106 true))) = some (r1, r2) := by rw [if_pos rfl] at H; exact H
              clear H
              have H := H1
              clear H1
              replace H := Option.bind_eq_some_iff.mp H
              obtain ⟨t109, A90, H⟩ := H
              (try dsimp only at H)
              have A9 := Aside0.mk A90
              clear A90
              by_cases c10 : t109 = true
              · subst c10
                have H1 : (if ((rd_T51 l0 x5_1).f2 = true) then (abutmentref21_Text.j1 k1 l0 x4_1 x5_1 t106 false) else (abutmentref21_Text.j1 k1 l0 x4_1 x5_1 t106 (((rd_T51 l0 x5_1).f1).toList != ([] : List UInt8)))) = some (r1, r2) := by rw [if_pos rfl] at H; exact H
                clear H
                have H := H1
                clear H1
                obtain ⟨bq11, hbq11⟩ : ∃ b_ : Bool, b_ = ((rd_T51 l0 x5_1).f2) := ⟨_, rfl⟩
                replace H : (if (bq11 = true) then (abutmentref21_Text.j1 k1 l0 x4_1 x5_1 t106 false) else (abutmentref21_Text.j1 k1 l0 x4_1 x5_1 t106 (((rd_T51 l0 x5_1).f1).toList != ([] : List UInt8)))) = some (r1, r2) := by rw [← hbq11] at H; exact H
                have Nbq11 := Aside0.mk hbq11
                clear hbq11
                (try rw [← Nbq11.out])
                by_cases c12 : (bq11 = true)
                · subst c12
                  have H1 : (abutmentref21_Text.j1 k1 l0 x4_1 x5_1 t106 false) = some (r1, r2) := by rw [if_pos rfl] at H; exact H
                  clear H
                  have H := H1
                  clear H1
                  have H' := Aside0.mk H
                  clear H
                  have p108 : 0 ≤ (x5_1 : Int) := of_decide_eq_true (by first | (with_reducible assumption) | assumption)
                  have q108 : x5_1 < (l0.length : Int) := of_decide_eq_true (by first | (with_reducible assumption) | assumption)
                  obtain ⟨ad108, e108, hx108_0, hx108_1, hx108_2⟩ := at_T51 HR0.out x5_1 p108 q108
                  (try rw [← Nbq11.out] at hx108_2)
                  obtain rfl : ad105 = ad108 := (by injection e108)
                  replace hx108_0 := (HB.out.cell (World.block_lt_of_cell? w _ hx108_0)).trans hx108_0
                  replace hx108_1 := (HB.out.cell (World.block_lt_of_cell? w _ hx108_1)).trans hx108_1
                  replace hx108_2 := (HB.out.cell (World.block_lt_of_cell? w _ hx108_2)).trans hx108_2
                  replace p108 := eq_true p108
                  replace q108 := eq_true q108
                  try (have f2_ := Nbq11.out.symm)
                  rcases emp_cases ((rd_T51 l0 x5_1).f1) with ⟨hE1_, hE2_, hE3_⟩ | ⟨hE1_, hE2_, hE3_⟩
                  all_goals
                    go_wp2_with (first | (go_at_call 92; (with_reducible refine (abutmentref01_Token.calls k1 ((rd_T51 l0 x5_1).f0) true _ A9.out).mono ?_); rintro e w' ⟨rfl, ⟨nd, rfl⟩⟩; have p110 : 0 ≤ (x5_1 : Int) := of_decide_eq_true (by first | (with_reducible assumption) | assumption); have q110 : x5_1 < (l0.length : Int) := of_decide_eq_true (by first | (with_reducible assumption) | assumption); obtain ⟨ad110, e110, hx110_0, hx110_1, hx110_2⟩ := at_T51 HR0.out x5_1 p110 q110; (try rw [← Nbq11.out] at hx110_2); obtain rfl : ad105 = ad110 := (by injection e110); replace hx110_0 := (HB.out.cell (World.block_lt_of_cell? w _ hx110_0)).trans hx110_0; replace hx110_1 := (HB.out.cell (World.block_lt_of_cell? w _ hx110_1)).trans hx110_1; replace hx110_2 := (HB.out.cell (World.block_lt_of_cell? w _ hx110_2)).trans hx110_2; replace p110 := eq_true p110; replace q110 := eq_true q110))
                    go_meet
                    case rel => exact ⟨_, (false), (by first | rfl | (simp; done) | (simp [*]; done)), H', ⟨by have := HK1.out; first | omega | exact Nat.le_refl _⟩, ⟨by (with_reducible repeat (first | apply Kd.R_alloc | apply Kd.R_drewN | apply Kd.R_drew)); exact HO_4.out⟩, ⟨by repeat (first | (with_reducible first | exact HB.out | apply below_alloc | apply pw_below_drewN | apply below_drew1) | exact HB.out)⟩⟩
                · replace c12 := Bool.eq_false_iff.mpr c12
                  subst c12
                  have H1 : (abutmentref21_Text.j1 k1 l0 x4_1 x5_1 t106 (((rd_T51 l0 x5_1).f1).toList != ([] : List UInt8))) = some (r1, r2) := by rw [if_neg (show ¬ (false = true) by decide)] at H; exact H
                  clear H
                  have H := H1
                  clear H1
                  have H' := Aside0.mk H
                  clear H
                  have p108 : 0 ≤ (x5_1 : Int) := of_decide_eq_true (by first | (with_reducible assumption) | assumption)
                  have q108 : x5_1 < (l0.length : Int) := of_decide_eq_true (by first | (with_reducible assumption) | assumption)
                  obtain ⟨ad108, e108, hx108_0, hx108_1, hx108_2⟩ := at_T51 HR0.out x5_1 p108 q108
                  (try rw [← Nbq11.out] at hx108_2)
                  obtain rfl : ad105 = ad108 := (by injection e108)
                  replace hx108_0 := (HB.out.cell (World.block_lt_of_cell? w _ hx108_0)).trans hx108_0
                  replace hx108_1 := (HB.out.cell (World.block_lt_of_cell? w _ hx108_1)).trans hx108_1
                  replace hx108_2 := (HB.out.cell (World.block_lt_of_cell? w _ hx108_2)).trans hx108_2
                  replace p108 := eq_true p108
                  replace q108 := eq_true q108
                  try (have f2_ := Nbq11.out.symm)
                  rcases emp_cases ((rd_T51 l0 x5_1).f1) with ⟨hE1_, hE2_, hE3_⟩ | ⟨hE1_, hE2_, hE3_⟩
                  all_goals
                    go_wp2_with (first | (go_at_call 92; (with_reducible refine (abutmentref01_Token.calls k1 ((rd_T51 l0 x5_1).f0) true _ A9.out).mono ?_); rintro e w' ⟨rfl, ⟨nd, rfl⟩⟩; have p110 : 0 ≤ (x5_1 : Int) := of_decide_eq_true (by first | (with_reducible assumption) | assumption); have q110 : x5_1 < (l0.length : Int) := of_decide_eq_true (by first | (with_reducible assumption) | assumption); obtain ⟨ad110, e110, hx110_0, hx110_1, hx110_2⟩ := at_T51 HR0.out x5_1 p110 q110; (try rw [← Nbq11.out] at hx110_2); obtain rfl : ad105 = ad110 := (by injection e110); replace hx110_0 := (HB.out.cell (World.block_lt_of_cell? w _ hx110_0)).trans hx110_0; replace hx110_1 := (HB.out.cell (World.block_lt_of_cell? w _ hx110_1)).trans hx110_1; replace hx110_2 := (HB.out.cell (World.block_lt_of_cell? w _ hx110_2)).trans hx110_2; replace p110 := eq_true p110; replace q110 := eq_true q110; have p111 : 0 ≤ (x5_1 : Int) := of_decide_eq_true (by first | (with_reducible assumption) | assumption); have q111 : x5_1 < (l0.length : Int) := of_decide_eq_true (by first | (with_reducible assumption) | assumption); obtain ⟨ad111, e111, hx111_0, hx111_1, hx111_2⟩ := at_T51 HR0.out x5_1 p111 q111; (try rw [← Nbq11.out] at hx111_2); obtain rfl : ad105 = ad111 := (by injection e111); replace hx111_0 := (HB.out.cell (World.block_lt_of_cell? w _ hx111_0)).trans hx111_0; replace hx111_1 := (HB.out.cell (World.block_lt_of_cell? w _ hx111_1)).trans hx111_1; replace hx111_2 := (HB.out.cell (World.block_lt_of_cell? w _ hx111_2)).trans hx111_2; replace p111 := eq_true p111; replace q111 := eq_true q111))
                    go_meet
                    case rel => exact ⟨_, ((((rd_T51 l0 x5_1).f1).toList != ([] : List UInt8))), (by first | rfl | (simp; done) | (simp [*]; done)), H', ⟨by have := HK1.out; first | omega | exact Nat.le_refl _⟩, ⟨by (with_reducible repeat (first | apply Kd.R_alloc | apply Kd.R_drewN | apply Kd.R_drew)); exact HO_4.out⟩, ⟨by repeat (first | (with_reducible first | exact HB.out | apply below_alloc | apply pw_below_drewN | apply below_drew1) | exact HB.out)⟩⟩
              · replace c10 := Bool.eq_false_iff.mpr c10
                subst c10
                have H1 : (abutmentref21_Text.j1 k1 l0 x4_1 x5_1 t106 true) = some (r1, r2) := by rw [if_neg (show ¬ (false = true) by decide)] at H; exact H
                clear H
                have H := H1
                clear H1
                have H' := Aside0.mk H
                clear H
                have p108 : 0 ≤ (x5_1 : Int) := of_decide_eq_true (by first | (with_reducible assumption) | assumption)
                have q108 : x5_1 < (l0.length : Int) := of_decide_eq_true (by first | (with_reducible assumption) | assumption)
                obtain ⟨ad108, e108, hx108_0, hx108_1, hx108_2⟩ := at_T51 HR0.out x5_1 p108 q108
                obtain rfl : ad105 = ad108 := (by injection e108)
                replace hx108_0 := (HB.out.cell (World.block_lt_of_cell? w _ hx108_0)).trans hx108_0
                replace hx108_1 := (HB.out.cell (World.block_lt_of_cell? w _ hx108_1)).trans hx108_1
                replace hx108_2 := (HB.out.cell (World.block_lt_of_cell? w _ hx108_2)).trans hx108_2
                replace p108 := eq_true p108
                replace q108 := eq_true q108
                try (have f2_ := Nbq11.out.symm)
                rcases emp_cases ((rd_T51 l0 x5_1).f1) with ⟨hE1_, hE2_, hE3_⟩ | ⟨hE1_, hE2_, hE3_⟩
                all_goals
                  go_wp2_with (first | (go_at_call 92; (with_reducible refine (abutmentref01_Token.calls k1 ((rd_T51 l0 x5_1).f0) false _ A9.out).mono ?_); rintro e w' ⟨rfl, ⟨nd, rfl⟩⟩))
                  go_meet
                  case rel => exact ⟨_, (true), (by first | rfl | (simp; done) | (simp [*]; done)), H', ⟨by have := HK1.out; first | omega | exact Nat.le_refl _⟩, ⟨by (with_reducible repeat (first | apply Kd.R_alloc | apply Kd.R_drewN | apply Kd.R_drew)); exact HO_4.out⟩, ⟨by repeat (first | (with_reducible first | exact HB.out | apply below_alloc | apply pw_below_drewN | apply below_drew1) | exact HB.out)⟩⟩
            · replace c8 := Bool.eq_false_iff.mpr c8
              subst c8
              have H1 : (abutmentref21_Text.j1 k1 l0 x4_1 x5_1 t106 true) = some (r1, r2) := by rw [if_neg (show ¬ (false = true) by decide)] at H; exact H
              clear H
              have H := H1
              clear H1
              have H' := Aside0.mk H
              clear H
              go_wp2
              go_meet
              case rel => exact ⟨_, (true), (by first | rfl | (simp; done) | (simp [*]; done)), H', ⟨by have := HK1.out; first | omega | exact Nat.le_refl _⟩, ⟨by (with_reducible repeat (first | apply Kd.R_alloc | apply Kd.R_drewN | apply Kd.R_drew)); exact HO_4.out⟩, ⟨by repeat (first | (with_reducible first | exact HB.out | apply below_alloc | apply pw_below_drewN | apply below_drew1) | exact HB.out)⟩⟩
          case rest =>
            clear HC7
            try clear c1
            try clear p1
            try clear q1
            try clear hx1
            try clear p2
            try clear c4
            try clear c4b0
            try clear c5
            try clear c5b0
            try clear c8
            try clear c9
            try clear c10
            try clear p10
            try clear q10
            try clear hx10
            try clear p11
            try clear q11
            try clear hx11
            try clear c12
            try clear hx105_0
            try clear hx105_1
            try clear hx105_2
            try clear hx108_0
            try clear hx108_1
            try clear hx108_2
            try clear hx110_0
            try clear hx110_1
            try clear hx110_2
            try clear hx111_0
            try clear hx111_1
            try clear hx111_2
            try clear p105
            try clear p108
            try clear p110
            try clear p111
            try clear p2
            try clear q105
            try clear q108
            try clear q110
            try clear q111
            obtain ⟨kq, x50_6, rfl, HA, HJ6, HO_4, HB⟩ := hcut
            cases kq with
            | zero => exact absurd HA.out (by simp [abutmentref21_Text.j1])
            | succ kj6 =>
              have H := HA.out
              clear HA
              simp only [abutmentref21_Text.j1] at H
              by_cases c13 : x50_6 = true
              · subst c13
                have H1 : (some ((⟨#[]⟩ : ByteArray), false)) = some (r1, r2) := by rw [if_pos rfl] at H; exact H
                clear H
                have H := H1
                clear H1
                simp only [Option.some.injEq, Prod.mk.injEq] at H
                obtain ⟨rfl, rfl⟩ := H
                go_wp2
                go_ret2
                exact ⟨by first | rfl | (simp [errW_none, errW_some] <;> rfl) | (simp [*, errW_none, errW_some] <;> rfl), by repeat (first | (with_reducible first | exact HB.out | apply below_alloc | apply pw_below_drewN | apply below_drew1) | exact HB.out)⟩
              · replace c13 := Bool.eq_false_iff.mpr c13
                subst c13
                have H1 : (if 0 ≤ x5_1 then (if x5_1 < (l0.length : Int) then (if (rd_T51 l0 x5_1).f2 = true then (if ((rd_T51 l0 x5_1).f0).size + 1 ≤ 9223372036854775807 then (if (((rd_T51 l0 x5_1).f0) ++ (⟨#[61]⟩ : ByteArray)).size + t106.size ≤ 9223372036854775807 then (if x4_1.length < 8796093022208 then (abutmentref21_Text.l0 kj6 l0 (x4_1 ++ [(((rd_T51 l0 x5_1).f0) ++ (⟨#[61]⟩ : ByteArray)) ++ t106]) (wrap64 (x5_1 + 1))) else (none)) else (none)) else (none)) else (if x4_1.length < 8796093022208 then (abutmentref21_Text.l0 kj6 l0 (x4_1 ++ [(rd_T51 l0 x5_1).f0]) (wrap64 (x5_1 + 1))) else (none))) else (none)) else (none)) = some (r1, r2) := by rw [if_neg (show ¬ (false = true) by decide)] at H; exact H
                clear H
                have H := H1
                clear H1
                by_cases c14 : 0 ≤ x5_1
                · rw [if_pos c14] at H
                  have c14b0 : decide (0 ≤ x5_1) = true := decide_eq_true c14
                  clear c14
                  by_cases c15 : x5_1 < (l0.length : Int)
                  · rw [if_pos c15] at H
                    have c15b0 : decide (x5_1 < (l0.length : Int)) = true := decide_eq_true c15
                    clear c15
                    obtain ⟨bq16, hbq16⟩ : ∃ b_ : Bool, b_ = ((rd_T51 l0 x5_1).f2) := ⟨_, rfl⟩
                    replace H : (if bq16 = true then (if ((rd_T51 l0 x5_1).f0).size + 1 ≤ 9223372036854775807 then (if (((rd_T51 l0 x5_1).f0) ++ (⟨#[61]⟩ : ByteArray)).size + t106.size ≤ 9223372036854775807 then (if x4_1.length < 8796093022208 then (abutmentref21_Text.l0 kj6 l0 (x4_1 ++ [(((rd_T51 l0 x5_1).f0) ++ (⟨#[61]⟩ : ByteArray)) ++ t106]) (wrap64 (x5_1 + 1))) else (none)) else (none)) else (none)) else (if x4_1.length < 8796093022208 then (abutmentref21_Text.l0 kj6 l0 (x4_1 ++ [(rd_T51 l0 x5_1).f0]) (wrap64 (x5_1 + 1))) else (none))) = some (r1, r2) := by rw [← hbq16] at H; exact H
                    have Nbq16 := Aside0.mk hbq16
                    clear hbq16
                    by_cases c17 : bq16 = true
                    · subst c17
                      have H1 : (if ((rd_T51 l0 x5_1).f0).size + 1 ≤ 9223372036854775807 then (if (((rd_T51 l0 x5_1).f0) ++ (⟨#[61]⟩ : ByteArray)).size + t106.size ≤ 9223372036854775807 then (if x4_1.length < 8796093022208 then (abutmentref21_Text.l0 kj6 l0 (x4_1 ++ [(((rd_T51 l0 x5_1).f0) ++ (⟨#[61]⟩ : ByteArray)) ++ t106]) (wrap64 (x5_1 + 1))) else (none)) else (none)) else (none)) = some (r1, r2) := by rw [if_pos rfl] at H; exact H
                      clear H
                      have H := H1
                      clear H1
                      by_cases c18 : ((rd_T51 l0 x5_1).f0).size + 1 ≤ 9223372036854775807
                      · rw [if_pos c18] at H
                        have c18b0 := eq_true c18
                        have c18b1 : decide (((rd_T51 l0 x5_1).f0).size + 1 ≤ 9223372036854775807) = true := decide_eq_true c18
                        try have c18b2 : (9223372036854775807 < ((rd_T51 l0 x5_1).f0).size + 1) = False := eq_false (Nat.not_lt.2 c18)
                        by_cases c19 : (((rd_T51 l0 x5_1).f0) ++ (⟨#[61]⟩ : ByteArray)).size + t106.size ≤ 9223372036854775807
                        · rw [if_pos c19] at H
                          have c19b0 := eq_true c19
                          have c19b1 : decide ((((rd_T51 l0 x5_1).f0) ++ (⟨#[61]⟩ : ByteArray)).size + t106.size ≤ 9223372036854775807) = true := decide_eq_true c19
                          try have c19b2 : (9223372036854775807 < (((rd_T51 l0 x5_1).f0) ++ (⟨#[61]⟩ : ByteArray)).size + t106.size) = False := eq_false (Nat.not_lt.2 c19)
                          by_cases c20 : x4_1.length < 8796093022208
                          · rw [if_pos c20] at H
                            have LMc20 := Aside0.mk c20
                            clear c20
                            obtain ⟨y114, hy114⟩ : ∃ y_ : List ByteArray, y_ = (x4_1 ++ [(((rd_T51 l0 x5_1).f0) ++ (⟨#[61]⟩ : ByteArray)) ++ t106]) := ⟨_, rfl⟩
                            replace H : (abutmentref21_Text.l0 kj6 l0 y114 (wrap64 (x5_1 + 1))) = some (r1, r2) := by first | (rw [hy114]; with_reducible exact H) | (have H2_ := (Option.bind_some _ _).symm.trans H; rw [hy114]; with_reducible exact H2_) | (have H2_ := (Option.bind_some _ _).symm.trans H; with_reducible exact H2_) | with_reducible exact H | (rw [hy114]; exact H) | exact H
                            have Ny114 := Aside0.mk hy114
                            clear hy114
                            have H' := Aside0.mk H
                            clear H
                            have p112 : 0 ≤ (x5_1 : Int) := of_decide_eq_true (by first | (with_reducible assumption) | assumption)
                            have q112 : x5_1 < (l0.length : Int) := of_decide_eq_true (by first | (with_reducible assumption) | assumption)
                            obtain ⟨ad112, e112, hx112_0, hx112_1, hx112_2⟩ := at_T51 HR0.out x5_1 p112 q112
                            (try rw [← Nbq16.out] at hx112_2)
                            obtain rfl : ad105 = ad112 := (by injection e112)
                            replace hx112_0 := (HB.out.cell (World.block_lt_of_cell? w _ hx112_0)).trans hx112_0
                            replace hx112_1 := (HB.out.cell (World.block_lt_of_cell? w _ hx112_1)).trans hx112_1
                            replace hx112_2 := (HB.out.cell (World.block_lt_of_cell? w _ hx112_2)).trans hx112_2
                            replace p112 := eq_true p112
                            replace q112 := eq_true q112
                            have p113 : 0 ≤ (x5_1 : Int) := of_decide_eq_true (by first | (with_reducible assumption) | assumption)
                            have q113 : x5_1 < (l0.length : Int) := of_decide_eq_true (by first | (with_reducible assumption) | assumption)
                            obtain ⟨ad113, e113, hx113_0, hx113_1, hx113_2⟩ := at_T51 HR0.out x5_1 p113 q113
                            (try rw [← Nbq16.out] at hx113_2)
                            obtain rfl : ad105 = ad113 := (by injection e113)
                            replace hx113_0 := (HB.out.cell (World.block_lt_of_cell? w _ hx113_0)).trans hx113_0
                            replace hx113_1 := (HB.out.cell (World.block_lt_of_cell? w _ hx113_1)).trans hx113_1
                            replace hx113_2 := (HB.out.cell (World.block_lt_of_cell? w _ hx113_2)).trans hx113_2
                            replace p113 := eq_true p113
                            replace q113 := eq_true q113
                            go_wp2_with (first | ((with_reducible refine gate_builtin (b := .append) (xs := #[.tmp 56, .tmp 65]) rfl ?_); at_builtin; refine Kd.R_append Kd.string (w0 := w) w.heap.size rfl (.tmp 56) (.tmp 65) 93 9 (.string ⟨#[]⟩) 16 rfl Try.underlying93 info9 rfl (by decide) (by omega) u4 x4_1 ((((rd_T51 l0 x5_1).f0) ++ (⟨#[61]⟩ : ByteArray)) ++ t106) [.string ((((rd_T51 l0 x5_1).f0) ++ (⟨#[61]⟩ : ByteArray)) ++ t106)] (fun _ => True) (fun _ => False) rfl rfl ?aP (fun _ hk => hk.elim) ?aF ?aO ?aB ?aS ?aL ?_; (case aP => exact rfl); (case aB => exact (by repeat (first | (with_reducible first | exact HB.out | apply below_alloc | apply pw_below_drewN | apply below_drew1) | exact HB.out))); (case aF => exact (fun _ _ => trivial)); (case aO => exact (by (with_reducible repeat (first | apply Kd.R_alloc | apply Kd.R_drewN | apply Kd.R_drew)); exact HO_4.out)); (case aS => exact (below_size (by repeat (first | (with_reducible first | exact HB.out | apply below_alloc | apply pw_below_drewN | apply below_drew1) | exact HB.out)))); (case aL => have := LMc20.out; omega); intro v115 w21 ho hb hg hat; rw [← Ny114.out] at ho; have n0_ := Aside0.mk (hb); have n1_ := Aside0.mk (ho); clear HB; clear HO_4; have HB := n0_; have HO116 := n1_; clear n0_ n1_; clear ho hb hg hat))
                            go_roundg kj6
                            case measure => have := HK1.out; have := HJ6.out; omega
                            case rel => exact ⟨(y114), (wrap64 (x5_1 + 1)), (by first | rfl | (simp; done) | (simp [*]; done)), H', ⟨by have := HK1.out; have := HJ6.out; omega⟩, ⟨by (with_reducible repeat (first | apply Kd.R_alloc | apply Kd.R_drewN | apply Kd.R_drew)); exact HO116.out⟩, ⟨by repeat (first | (with_reducible first | exact HB.out | apply below_alloc | apply pw_below_drewN | apply below_drew1) | exact HB.out)⟩⟩
                          · rw [if_neg c20] at H
                            exact absurd H (by simp)
                        · rw [if_neg c19] at H
                          exact absurd H (by simp)
                      · rw [if_neg c18] at H
                        exact absurd H (by simp)
                    · replace c17 := Bool.eq_false_iff.mpr c17
                      subst c17
                      have H1 : (if x4_1.length < 8796093022208 then (abutmentref21_Text.l0 kj6 l0 (x4_1 ++ [(rd_T51 l0 x5_1).f0]) (wrap64 (x5_1 + 1))) else (none)) = some (r1, r2) := by rw [if_neg (show ¬ (false = true) by decide)] at H; exact H
                      clear H
                      have H := H1
                      clear H1
                      by_cases c22 : x4_1.length < 8796093022208
                      · rw [if_pos c22] at H
                        have LMc22 := Aside0.mk c22
                        clear c22
                        obtain ⟨y118, hy118⟩ : ∃ y_ : List ByteArray, y_ = (x4_1 ++ [(rd_T51 l0 x5_1).f0]) := ⟨_, rfl⟩
                        replace H : (abutmentref21_Text.l0 kj6 l0 y118 (wrap64 (x5_1 + 1))) = some (r1, r2) := by first | (rw [hy118]; with_reducible exact H) | (have H2_ := (Option.bind_some _ _).symm.trans H; rw [hy118]; with_reducible exact H2_) | (have H2_ := (Option.bind_some _ _).symm.trans H; with_reducible exact H2_) | with_reducible exact H | (rw [hy118]; exact H) | exact H
                        have Ny118 := Aside0.mk hy118
                        clear hy118
                        have H' := Aside0.mk H
                        clear H
                        have p112 : 0 ≤ (x5_1 : Int) := of_decide_eq_true (by first | (with_reducible assumption) | assumption)
                        have q112 : x5_1 < (l0.length : Int) := of_decide_eq_true (by first | (with_reducible assumption) | assumption)
                        obtain ⟨ad112, e112, hx112_0, hx112_1, hx112_2⟩ := at_T51 HR0.out x5_1 p112 q112
                        (try rw [← Nbq16.out] at hx112_2)
                        obtain rfl : ad105 = ad112 := (by injection e112)
                        replace hx112_0 := (HB.out.cell (World.block_lt_of_cell? w _ hx112_0)).trans hx112_0
                        replace hx112_1 := (HB.out.cell (World.block_lt_of_cell? w _ hx112_1)).trans hx112_1
                        replace hx112_2 := (HB.out.cell (World.block_lt_of_cell? w _ hx112_2)).trans hx112_2
                        replace p112 := eq_true p112
                        replace q112 := eq_true q112
                        have p117 : 0 ≤ (x5_1 : Int) := of_decide_eq_true (by first | (with_reducible assumption) | assumption)
                        have q117 : x5_1 < (l0.length : Int) := of_decide_eq_true (by first | (with_reducible assumption) | assumption)
                        obtain ⟨ad117, e117, hx117_0, hx117_1, hx117_2⟩ := at_T51 HR0.out x5_1 p117 q117
                        (try rw [← Nbq16.out] at hx117_2)
                        obtain rfl : ad105 = ad117 := (by injection e117)
                        replace hx117_0 := (HB.out.cell (World.block_lt_of_cell? w _ hx117_0)).trans hx117_0
                        replace hx117_1 := (HB.out.cell (World.block_lt_of_cell? w _ hx117_1)).trans hx117_1
                        replace hx117_2 := (HB.out.cell (World.block_lt_of_cell? w _ hx117_2)).trans hx117_2
                        replace p117 := eq_true p117
                        replace q117 := eq_true q117
                        go_wp2_with (first | ((with_reducible refine gate_builtin (b := .append) (xs := #[.tmp 67, .tmp 73]) rfl ?_); at_builtin; refine Kd.R_append Kd.string (w0 := w) w.heap.size rfl (.tmp 67) (.tmp 73) 93 9 (.string ⟨#[]⟩) 16 rfl Try.underlying93 info9 rfl (by decide) (by omega) u4 x4_1 ((rd_T51 l0 x5_1).f0) [.string ((rd_T51 l0 x5_1).f0)] (fun _ => True) (fun _ => False) rfl rfl ?aP (fun _ hk => hk.elim) ?aF ?aO ?aB ?aS ?aL ?_; (case aP => exact rfl); (case aB => exact (by repeat (first | (with_reducible first | exact HB.out | apply below_alloc | apply pw_below_drewN | apply below_drew1) | exact HB.out))); (case aF => exact (fun _ _ => trivial)); (case aO => exact (by (with_reducible repeat (first | apply Kd.R_alloc | apply Kd.R_drewN | apply Kd.R_drew)); exact HO_4.out)); (case aS => exact (below_size (by repeat (first | (with_reducible first | exact HB.out | apply below_alloc | apply pw_below_drewN | apply below_drew1) | exact HB.out)))); (case aL => have := LMc22.out; omega); intro v119 w23 ho hb hg hat; rw [← Ny118.out] at ho; have n0_ := Aside0.mk (hb); have n1_ := Aside0.mk (ho); clear HB; clear HO_4; have HB := n0_; have HO120 := n1_; clear n0_ n1_; clear ho hb hg hat))
                        go_roundg kj6
                        case measure => have := HK1.out; have := HJ6.out; omega
                        case rel => exact ⟨(y118), (wrap64 (x5_1 + 1)), (by first | rfl | (simp; done) | (simp [*]; done)), H', ⟨by have := HK1.out; have := HJ6.out; omega⟩, ⟨by (with_reducible repeat (first | apply Kd.R_alloc | apply Kd.R_drewN | apply Kd.R_drew)); exact HO120.out⟩, ⟨by repeat (first | (with_reducible first | exact HB.out | apply below_alloc | apply pw_below_drewN | apply below_drew1) | exact HB.out)⟩⟩
                      · rw [if_neg c22] at H
                        exact absurd H (by simp)
                  · rw [if_neg c15] at H
                    exact absurd H (by simp)
                · rw [if_neg c14] at H
                  exact absurd H (by simp)
        · rw [if_neg c5] at H
          exact absurd H (by simp)
      · rw [if_neg c4] at H
        have c4b0 : decide (x5_1 < (l0.length : Int)) = false := decide_eq_false c4
        clear c4
        replace H := Option.bind_eq_some_iff.mp H
        obtain ⟨t104, A240, H⟩ := H
        (try dsimp only at H)
        have A24 := Aside0.mk A240
        clear A240
        simp only [Option.some.injEq, Prod.mk.injEq] at H
        obtain ⟨rfl, rfl⟩ := H
        obtain ⟨Ao25, co25, eo25⟩ := Kd.R_slice HO_4.out
        subst eo25
        go_wp2_with (first | ((with_reducible refine gate_callee (f := 93) rfl ?_); refine goesL_ (some 76) rfl rfl Try.func93 (by kernel_rfl) rfl #[.slice Ao25 x4_1.length co25] rfl (by (try simp only [List.map_toArray, List.map_cons, List.map_nil]); first | done | rfl | (simp only [List.length_drop, List.length_take]; rfl)) ?_; (with_reducible refine (abutmentref07_Join.calls k1 _ _ x4_1 t104 _ ?side1 ?side2 A24.out).mono ?_); (case side1 => repeat (first | exact (Kd.R_reads' HO_4.out).2.2 | (with_reducible refine Kd.C_alloc ?_ _) | (with_reducible refine Kd.C_drewN ?_ _) | (with_reducible refine Kd.C_drew ?_))); (case side2 => exact (Kd.R_reads' HO_4.out).2.1); rintro e w' ⟨rfl, ⟨nd, rfl⟩⟩; refine ⟨_, rfl, ?_⟩))
        go_ret2
        exact ⟨by first | rfl | (simp [errW_none, errW_some] <;> rfl) | (simp [*, errW_none, errW_some] <;> rfl), by repeat (first | (with_reducible first | exact HB.out | apply below_alloc | apply pw_below_drewN | apply below_drew1) | exact HB.out)⟩
end Go.Proofs.Ytjnhghplfdiijaa.Q

namespace Go.Proofs.Ytjnhghplfdiijaa.Q
open Go.RowKit Go.Proofs.YtjnhghplfdiijaaW.PrintWords Go.Proofs.YtjnhghplfdiijaaW.PrintLast Go.Proofs.YtjnhghplfdiijaaW.PrintMore
set_option linter.unusedVariables false
set_option linter.unusedSimpArgs false
def quoteL (l : List UInt8) : List UInt8 := l.flatMap fun c => if c = 34 ∨ c = 92 then [92, c] else [c]
theorem quoteL_cons (c : UInt8) (l : List UInt8) : quoteL (c :: l) = (if c = 34 ∨ c = 92 then [92, c] else [c]) ++ quoteL l := by simp [quoteL]
theorem quoteL_length (l : List UInt8) : (quoteL l).length ≤ 2 * l.length := by
  induction l with
  | nil => simp [quoteL]
  | cons c l ih => rw [quoteL_cons, List.length_append, List.length_cons]; split <;> simp <;> omega
theorem quoteI_nats (l : List UInt8) : quoteI (natsOf l) = natsOf (quoteL l) := by
  induction l with
  | nil => rfl
  | cons c l ih =>
    have e : quoteI (natsOf (c :: l)) = (if (c.toNat : Int) = 34 ∨ (c.toNat : Int) = 92 then [92, (c.toNat : Int)] else [(c.toNat : Int)]) ++ quoteI (natsOf l) := by simp [quoteI, natsOf]
    rw [e, ih, quoteL_cons]
    by_cases h : c = 34 ∨ c = 92
    · rw [if_pos h, if_pos (by rcases h with h | h; exact .inl ((u34 c).2 h); exact .inr ((u92 c).2 h))]
      simp [natsOf]
    · rw [if_neg h, if_neg (fun g => h (by rcases g with g | g; exact .inl ((u34 c).1 g); exact .inr ((u92 c).1 g)))]
      simp [natsOf]
theorem quoteS_tl (s : ByteArray) : quoteS s = ofl (34 :: quoteL (tl s) ++ [34]) := by
  have e : bytesOf s = natsOf (tl s) := rfl
  unfold quoteS
  rw [e, quoteI_nats, ← strOf_nats]
  simp [natsOf]
def tokB (s : ByteArray) : Bool := decide (s.size ≠ 0) && all8 (byteP tcharI false) s
def valB (s : ByteArray) : Bool := all8 (byteP valueI true) s
def quoteO (s : ByteArray) : ByteArray × Bool := if tokB s = true then (s, true) else if valB s = true then (quoteS s, true) else (⟨#[]⟩, false)
theorem quote_plain (s : ByteArray) (hs : s.size ≤ 1000000) : cursor_Quote.f s = some (quoteO s) := by
  unfold cursor_Quote.f quoteO octet_Token.f octet_Value.f
  rw [if_pos (by omega)]
  simp only [Option.bind_some]
  show (if tokB s = true then _ else if valB s = true then _ else _) = _
  split
  · rfl
  · split <;> rfl
theorem rquote_loop (s : ByteArray) (hs : s.size ≤ 1000000) : ∀ (r : List UInt8) (i : Nat) (acc : ByteArray), (tl s).drop i = r → i ≤ s.size → acc.size ≤ 2 * i + 1 →
    Ev (fun k => abutmentref04_Quote.l0 k s acc (i : Int)) (ofl (tl acc ++ quoteL r ++ [34]), true)
  | [], i, acc, h, hi, ha => by
    have h1 := at_nil h
    refine Ev.step (fun k => ?_) (Ev.now _)
    simp only [abutmentref04_Quote.l0]
    rw [if_neg (by omega), if_pos (by omega)]
    have e : acc ++ (⟨#[34]⟩ : ByteArray) = ofl (tl acc ++ quoteL [] ++ [34]) := by
      apply tl_inj
      rw [tl_append, tl_ofl, show quoteL [] = [] from rfl, List.append_nil]
      rfl
    rw [e]
  | c :: r, i, acc, h, hi, ha => by
    obtain ⟨h1, h2, h3, _⟩ := at_cons h
    have hw : Aside0 (wrap64 ((i : Int) + 1) = ((i + 1 : Nat) : Int)) := ⟨wrap_succ h1 (by omega)⟩
    have hcut := cut1 h
    have hsz1 : (ofl [c]).size = 1 := by rw [ofl_size]; rfl
    have t1 : ((i : Nat) : Int).toNat = i := by omega
    have t2 : ((i + 1 : Nat) : Int).toNat = i + 1 := by omega
    by_cases e : c = 34 ∨ c = 92
    · have hs2 : (acc ++ (⟨#[92]⟩ : ByteArray)).size = acc.size + 1 := ByteArray.size_append
      have ih := rquote_loop s hs r (i + 1) ((acc ++ (⟨#[92]⟩ : ByteArray)) ++ ofl [c]) h3 (by omega) (by rw [ByteArray.size_append, hs2, hsz1]; omega)
      have el : tl ((acc ++ (⟨#[92]⟩ : ByteArray)) ++ ofl [c]) ++ quoteL r ++ [34] = tl acc ++ quoteL (c :: r) ++ [34] := by
        rw [tl_append, tl_append, tl_ofl, quoteL_cons, if_pos e]
        simp [tl]
      rw [el] at ih
      refine Ev.step (fun k => ?_) ih
      simp only [abutmentref04_Quote.l0]
      rw [if_pos (by omega), if_pos (by omega), h2, hw.out, t1, t2, hcut, hs2, hsz1]
      by_cases e1 : c = 34
      · rw [if_pos ((u34 c).2 e1), if_pos (by omega), if_pos (by omega), if_pos (by omega), if_pos (by omega)]
      · have e2 : c = 92 := e.resolve_left e1
        rw [if_neg (by rw [u34]; exact e1), if_pos ((u92 c).2 e2), if_pos (by omega), if_pos (by omega), if_pos (by omega), if_pos (by omega)]
    · have ih := rquote_loop s hs r (i + 1) (acc ++ ofl [c]) h3 (by omega) (by rw [ByteArray.size_append, hsz1]; omega)
      have el : tl (acc ++ ofl [c]) ++ quoteL r ++ [34] = tl acc ++ quoteL (c :: r) ++ [34] := by
        rw [tl_append, tl_ofl, quoteL_cons, if_neg e, List.append_assoc (tl acc)]
      rw [el] at ih
      refine Ev.step (fun k => ?_) ih
      simp only [abutmentref04_Quote.l0]
      rw [if_pos (by omega), if_pos (by omega), h2, hw.out, t1, t2, hcut, hsz1]
      rw [if_neg (by rw [u34]; exact fun g => e (.inl g)), if_neg (by rw [u92]; exact fun g => e (.inr g)), if_pos (by omega), if_pos (by omega), if_pos (by omega)]
theorem ev_quote (s : ByteArray) (hs : s.size ≤ 1000000) : Ev (fun k => abutmentref04_Quote.f k s) (quoteO s) := by
  unfold abutmentref04_Quote.f quoteO
  refine Ev.bind (ev_token s (by omega)) ?_
  show Ev (fun k => if tokB s = true then some (s, true) else _) _
  cases tokB s with
  | true => simp only [if_true]; exact Ev.now _
  | false =>
    simp only [Bool.false_eq_true, if_false]
    refine Ev.bind (ev_value s (by omega)) ?_
    show Ev (fun k => if valB s = true then abutmentref04_Quote.l0 k s (⟨#[34]⟩ : ByteArray) 0 else _) _
    cases valB s with
    | true =>
      simp only [if_true]
      have := rquote_loop s hs (tl s) 0 (⟨#[34]⟩ : ByteArray) rfl (Nat.zero_le _) (by decide)
      rw [quoteS_tl]
      exact this
    | false => simp only [Bool.false_eq_true, if_false]; exact Ev.now _
theorem quoteO_size (s : ByteArray) : (quoteO s).1.size ≤ 2 * s.size + 2 := by
  unfold quoteO
  split
  · show s.size ≤ _; omega
  · split
    · show (quoteS s).size ≤ _
      rw [quoteS_tl, ofl_size]
      have := quoteL_length (tl s)
      rw [tl_length] at this
      simp
      omega
    · show 0 ≤ _; omega
def okT (d : S51) : Bool := tokB d.f0 && ((quoteO d.f1).2 && (d.f2 || !(d.f1.toList != ([] : List UInt8))))
def wT (d : S51) : ByteArray := if d.f2 = true then (d.f0 ++ (⟨#[61]⟩ : ByteArray)) ++ (quoteO d.f1).1 else d.f0
def textO (l : List S51) : ByteArray × Bool := if l.all okT = true then (joinS (l.map wT), true) else (⟨#[]⟩, false)
def SmallD (l : List S51) : Prop := l.length ≤ 2000 ∧ ∀ d ∈ l, d.f0.size ≤ 1000 ∧ d.f1.size ≤ 1000
theorem wT_size {d : S51} (h : d.f0.size ≤ 1000 ∧ d.f1.size ≤ 1000) : (wT d).size ≤ 4000 := by
  unfold wT
  split
  · rw [ByteArray.size_append, ByteArray.size_append]
    have := quoteO_size d.f1
    show d.f0.size + 1 + _ ≤ _
    omega
  · omega
theorem ptext_loop (l : List S51) (hl : SmallD l) : ∀ (r : List S51) (j : Nat), l.drop j = r → j ≤ l.length →
    Ev (fun k => cache_Text.l0 k ((l.take j).map wT) l (l.length : Int) (j : Int)) (if r.all okT = true then (joinS (l.map wT), true) else (⟨#[]⟩, false))
  | [], j, h, hj => by
    have h1 := at_dir_nil h
    refine Ev.step (fun k => ?_) (Ev.now _)
    simp only [cache_Text.l0]
    rw [if_neg (by omega), List.take_of_length_le h1, join_plain (l.map wT) (by rw [List.length_map]; have := hl.1; omega) 4000 (by omega) (fun x hx => by obtain ⟨d, hd, rfl⟩ := List.mem_map.1 hx; exact wT_size (hl.2 d hd))]
    rfl
  | x :: r, j, h, hj => by
    obtain ⟨h1, h2, h3, h4⟩ := at_dir h
    have hx := hl.2 x h4
    have hlen := hl.1
    have hw : Aside0 (wrap64 ((j : Int) + 1) = ((j + 1 : Nat) : Int)) := ⟨by rw [wrap_small (by omega) (by omega)]; omega⟩
    have ht : (l.take (j + 1)).map wT = (l.take j).map wT ++ [wT x] := by
      rw [List.take_add_one, (List.drop_eq_getElem_cons h1 ▸ h : l[j] :: l.drop (j + 1) = x :: r) |> fun e => (List.getElem?_eq_getElem h1).trans (congrArg some (List.cons.inj e).1)]
      simp
    have hq := quoteO_size x.f1
    have hlt : ((l.take j).map wT).length < 8796093022208 := by rw [List.length_map, List.length_take]; omega
    have hs1 : x.f0.size + 1 ≤ 9223372036854775807 := by omega
    have hs2 : (x.f0 ++ (⟨#[61]⟩ : ByteArray)).size + (quoteO x.f1).1.size ≤ 9223372036854775807 := by
      rw [ByteArray.size_append]
      show x.f0.size + 1 + _ ≤ _
      omega
    have step : Ev (fun k => cache_Text.j1 k ((l.take j).map wT) (quoteO x.f1).1 l (l.length : Int) (j : Int) (!okT x) x.f0 x.f1 x.f2) (if (x :: r).all okT = true then (joinS (l.map wT), true) else (⟨#[]⟩, false)) := by
      rw [List.all_cons]
      cases ho : okT x with
      | false =>
        refine Ev.step (fun k => ?_) (Ev.now _)
        simp only [cache_Text.j1]
        simp
      | true =>
        have ih := ptext_loop l hl r (j + 1) h3 (by omega)
        rw [ht] at ih
        rw [Bool.true_and]
        refine Ev.step (fun k => ?_) ih
        simp only [cache_Text.j1]
        rw [if_neg (by simp), hw.out]
        rw [show wT x = if x.f2 = true then (x.f0 ++ (⟨#[61]⟩ : ByteArray)) ++ (quoteO x.f1).1 else x.f0 from rfl]
        cases x.f2 with
        | true => rw [if_pos rfl, if_pos hs1, if_pos hs2, if_pos hlt, if_pos rfl]
        | false => rw [if_neg (by simp), if_pos hlt, if_neg (by simp)]
    refine Ev.step (fun k => ?_) step
    simp only [cache_Text.l0]
    rw [if_pos (by omega), if_pos (by omega), if_pos (by omega), h2, quote_plain _ (by omega)]
    simp only [Option.bind_some]
    unfold octet_Token.f
    show (if tokB x.f0 = true then _ else _) = _
    unfold okT
    cases tokB x.f0 with
    | false => rw [if_neg (by simp)]; rfl
    | true =>
      rw [if_pos rfl]
      cases (quoteO x.f1).2 with
      | false => rw [if_neg (by simp)]; rfl
      | true =>
        rw [if_pos rfl]
        cases x.f2 with
        | true => rw [if_pos rfl]; rfl
        | false => rw [if_neg (by simp)]; simp
theorem rtext_loop (l : List S51) (hl : SmallD l) : ∀ (r : List S51) (j : Nat), l.drop j = r → j ≤ l.length →
    Ev (fun k => abutmentref21_Text.l0 k l ((l.take j).map wT) (j : Int)) (if r.all okT = true then (joinS (l.map wT), true) else (⟨#[]⟩, false))
  | [], j, h, hj => by
    have h1 := at_dir_nil h
    have hJ := ev_join (l.map wT) (by rw [List.length_map]; have := hl.1; omega) 4000 (by omega) (fun x hx => by obtain ⟨d, hd, rfl⟩ := List.mem_map.1 hx; exact wT_size (hl.2 d hd))
    refine Ev.step (f := fun k => (abutmentref07_Join.f k (l.map wT)).bind fun t => some (t, true)) (fun k => ?_) (Ev.bind hJ (Ev.now _))
    simp only [abutmentref21_Text.l0]
    rw [if_neg (by omega), List.take_of_length_le h1]
  | x :: r, j, h, hj => by
    obtain ⟨h1, h2, h3, h4⟩ := at_dir h
    have hx := hl.2 x h4
    have hlen := hl.1
    have hw : Aside0 (wrap64 ((j : Int) + 1) = ((j + 1 : Nat) : Int)) := ⟨by rw [wrap_small (by omega) (by omega)]; omega⟩
    have ht : (l.take (j + 1)).map wT = (l.take j).map wT ++ [wT x] := by
      rw [List.take_add_one, (List.drop_eq_getElem_cons h1 ▸ h : l[j] :: l.drop (j + 1) = x :: r) |> fun e => (List.getElem?_eq_getElem h1).trans (congrArg some (List.cons.inj e).1)]
      simp
    have hq := quoteO_size x.f1
    have hlt : ((l.take j).map wT).length < 8796093022208 := by rw [List.length_map, List.length_take]; omega
    have hs1 : x.f0.size + 1 ≤ 9223372036854775807 := by omega
    have hs2 : (x.f0 ++ (⟨#[61]⟩ : ByteArray)).size + (quoteO x.f1).1.size ≤ 9223372036854775807 := by
      rw [ByteArray.size_append]
      show x.f0.size + 1 + _ ≤ _
      omega
    have step : Ev (fun k => abutmentref21_Text.j1 k l ((l.take j).map wT) (j : Int) (quoteO x.f1).1 (!okT x)) (if (x :: r).all okT = true then (joinS (l.map wT), true) else (⟨#[]⟩, false)) := by
      rw [List.all_cons]
      cases ho : okT x with
      | false =>
        refine Ev.step (fun k => ?_) (Ev.now _)
        simp only [abutmentref21_Text.j1]
        simp
      | true =>
        have ih := rtext_loop l hl r (j + 1) h3 (by omega)
        rw [ht] at ih
        rw [Bool.true_and]
        refine Ev.step (fun k => ?_) ih
        simp only [abutmentref21_Text.j1]
        rw [if_neg (by simp), if_pos (by omega), if_pos (by omega), hw.out, h2]
        rw [show wT x = if x.f2 = true then (x.f0 ++ (⟨#[61]⟩ : ByteArray)) ++ (quoteO x.f1).1 else x.f0 from rfl]
        cases x.f2 with
        | true => rw [if_pos rfl, if_pos hs1, if_pos hs2, if_pos hlt, if_pos rfl]
        | false => rw [if_neg (by simp), if_pos hlt, if_neg (by simp)]
    refine Ev.step (f := fun k => (abutmentref04_Quote.f k x.f1).bind fun bt => if bt.2 = true then (abutmentref01_Token.f k x.f0).bind fun t => (if t = true then (if x.f2 = true then abutmentref21_Text.j1 k l ((l.take j).map wT) (j : Int) bt.1 false else abutmentref21_Text.j1 k l ((l.take j).map wT) (j : Int) bt.1 (x.f1.toList != ([] : List UInt8))) else abutmentref21_Text.j1 k l ((l.take j).map wT) (j : Int) bt.1 true) else abutmentref21_Text.j1 k l ((l.take j).map wT) (j : Int) bt.1 true) (fun k => ?_) (Ev.bind (ev_quote x.f1 (by omega)) ?_)
    · simp only [abutmentref21_Text.l0]
      rw [if_pos (by omega), if_pos (by omega), h2]
    · have hT : Ev (fun k => abutmentref01_Token.f k x.f0) (tokB x.f0) := ev_token x.f0 (by omega)
      unfold okT at step
      cases hq2 : (quoteO x.f1).2 with
      | false =>
        simp only [Bool.false_eq_true, if_false]
        rw [hq2] at step
        simp only [Bool.false_and, Bool.and_false, Bool.not_false] at step
        exact step
      | true =>
        simp only [if_true]
        refine Ev.bind hT ?_
        rw [hq2] at step
        cases hT2 : tokB x.f0 with
        | false =>
          simp only [Bool.false_eq_true, if_false]
          rw [hT2] at step
          exact step
        | true =>
          rw [hT2] at step
          simp only [if_true]
          cases h3 : x.f2 with
          | true => rw [h3] at step; simp only [if_true]; exact step
          | false =>
            rw [h3] at step
            simp only [Bool.false_eq_true, if_false]
            simp only [Bool.true_and, Bool.false_or, Bool.not_not] at step
            exact step
theorem ev_text (l : List S51) (hl : SmallD l) : Ev (fun k => cache_Text.f k l) (textO l) ∧ Ev (fun k => abutmentref21_Text.f k l) (textO l) := ⟨ptext_loop l hl l 0 rfl (Nat.zero_le _), rtext_loop l hl l 0 rfl (Nat.zero_le _)⟩
end Go.Proofs.Ytjnhghplfdiijaa.Q

namespace Go.Proofs.Ytjnhghplfdiijaa.Q
open Go.RowKit Go.Proofs.YtjnhghplfdiijaaW.PrintWords Go.Proofs.YtjnhghplfdiijaaW.PrintLast Go.Proofs.YtjnhghplfdiijaaW.PrintMore
attribute [local go_sem] max2_int min2_int max_two min_two max_three min_three max_four min_four
set_option linter.unusedVariables false
set_option linter.unusedSimpArgs false
def cache_Control.f (k : Nat) (l0 : List (S60)) : Option ((List (S51))) := (header_Combined.f l0 (⟨#[67, 97, 99, 104, 101, 45, 67, 111, 110, 116, 114, 111, 108]⟩ : ByteArray)).bind fun bt101 => ((cache_Parse.f k bt101.1).bind fun bt103 => (some bt103.1))
theorem cache_Control.mono : ∀ a0 k, LeO (cache_Control.f k a0) (cache_Control.f (k + 1) a0) := by
  intro a0 k
  unfold cache_Control.f
  repeat' first
      | (with_reducible exact cache_Parse.mono _ _)
      | (with_reducible exact LeO.refl _)
      | (with_reducible exact LeO.none _)
      | (with_reducible refine LeO.ite ?_ ?_)
      | (with_reducible refine LeO.bind ?_ (fun _ => ?_))
      | exact cache_Parse.mono _ _
      | exact LeO.none _
      | refine LeO.ite ?_ ?_
      | refine LeO.bind ?_ (fun _ => ?_)
set_option maxHeartbeats 8000000 in
set_option maxRecDepth 100000 in
theorem cache_Control.calls (k : Nat) (A0 : Option Addr) (c0 : Nat) (l0 : List (S60)) (r : List (S51)) (w : World) (hr0 : Kd.C k60 w A0 l0.length l0) (hc0 : l0.length ≤ c0) (h : cache_Control.f k l0 = some r) :
    Calls Try.prog 37 #[.slice A0 l0.length c0] w fun e w' => ∃ v0_ : Value, e = .returned (v0_) ∧ Kd.R k51 51 w' w.heap.size (fun _ => True) v0_ r ∧ Below w.heap.size w w' := by
  have HR0 := Aside0.mk hr0
  have HC0 := Aside0.mk hc0
  clear hr0 hc0
  have HB := Aside0.mk (Below.refl w.heap.size w)
  have H : ((header_Combined.f l0 (⟨#[67, 97, 99, 104, 101, 45, 67, 111, 110, 116, 114, 111, 108]⟩ : ByteArray)).bind fun bt101 => ((cache_Parse.f k bt101.1).bind fun bt103 => (some bt103.1))) = some r := h
  clear h
  replace H := Option.bind_eq_some_iff.mp H
  obtain ⟨⟨t101, t102⟩, A20, H⟩ := H
  (try dsimp only at H)
  have A2 := Aside0.mk A20
  clear A20
  replace H := Option.bind_eq_some_iff.mp H
  obtain ⟨⟨t103, t104⟩, A30, H⟩ := H
  (try dsimp only at H)
  have A3 := Aside0.mk A30
  clear A30
  obtain rfl := Option.some.inj H
  go_enter Try.func37, Try.ntmps37
  go_wp2_with (first | ((with_reducible refine gate_callee (f := 72) rfl ?_); refine goesL_ (some 9) rfl rfl Try.func72 (by kernel_rfl) rfl #[.slice A0 l0.length c0, .string (⟨#[67, 97, 99, 104, 101, 45, 67, 111, 110, 116, 114, 111, 108]⟩ : ByteArray)] rfl (by (try simp only [List.map_toArray, List.map_cons, List.map_nil]); first | done | rfl | (simp only [List.length_drop, List.length_take]; rfl)) ?_; (with_reducible refine (header_Combined.calls _ _ l0 (⟨#[67, 97, 99, 104, 101, 45, 67, 111, 110, 116, 114, 111, 108]⟩ : ByteArray) t101 t102 _ ?side1 ?side2 A2.out).mono ?_); (case side1 => repeat (first | exact HR0.out | (with_reducible refine Kd.C_alloc ?_ _) | (with_reducible refine Kd.C_drewN ?_ _) | (with_reducible refine Kd.C_drew ?_))); (case side2 => exact HC0.out); rintro e w4 ⟨rfl, hb⟩; refine ⟨_, rfl, ?_⟩; have n0_ := Aside0.mk (below_step (by repeat (first | (with_reducible first | exact HB.out | apply below_alloc | apply pw_below_drewN | apply below_drew1) | exact HB.out)) hb); clear HB; have HB := n0_; clear n0_; (try clear hb); (try clear hb2); (try clear hk); (try clear hi)) | ((with_reducible refine gate_callee (f := 43) rfl ?_); refine goesL_ (some 14) rfl rfl Try.func43 (by kernel_rfl) rfl #[.string t101] rfl (by (try simp only [List.map_toArray, List.map_cons, List.map_nil]); first | done | rfl | (simp only [List.length_drop, List.length_take]; rfl)) ?_; (with_reducible refine (cache_Parse.calls k t101 t103 t104 _ A3.out).mono ?_); rintro e w5 ⟨v105, rfl, ho0, hb⟩; refine ⟨_, rfl, ?_⟩; have n0_ := Aside0.mk (Kd.R_lower ho0 (below_size (by repeat (first | (with_reducible first | exact HB.out | apply below_alloc | apply pw_below_drewN | apply below_drew1) | exact HB.out)))); have n1_ := Aside0.mk (below_step (by repeat (first | (with_reducible first | exact HB.out | apply below_alloc | apply pw_below_drewN | apply below_drew1) | exact HB.out)) hb); clear HB; have HO106 := n0_; have HB := n1_; clear n0_ n1_; (try clear hb); (try clear hb2); (try clear hk); (try clear hi); (try clear ho0)))
  go_ret
  exact ⟨_, by first | rfl | (simp [errW_none, errW_some] <;> rfl) | (simp [*, errW_none, errW_some] <;> rfl), by (with_reducible repeat (first | apply Kd.R_alloc | apply Kd.R_drewN | apply Kd.R_drew)); exact HO106.out, by repeat (first | (with_reducible first | exact HB.out | apply below_alloc | apply pw_below_drewN | apply below_drew1) | exact HB.out)⟩
end Go.Proofs.Ytjnhghplfdiijaa.Q

namespace Go.Proofs.Ytjnhghplfdiijaa.Q
open Go.RowKit Go.Proofs.YtjnhghplfdiijaaW.PrintWords Go.Proofs.YtjnhghplfdiijaaW.PrintLast Go.Proofs.YtjnhghplfdiijaaW.PrintMore
attribute [local go_sem] max2_int min2_int max_two min_two max_three min_three max_four min_four
set_option linter.unusedVariables false
set_option linter.unusedSimpArgs false
def digits_Dec.f (a0 : ByteArray) (a1 : Int) : Option (Int × Int) := (digits_number.f a0 10 a1).bind fun bt101 => (some (bt101.1, bt101.2))
set_option maxHeartbeats 8000000 in
set_option maxRecDepth 100000 in
theorem digits_Dec.calls (a0 : ByteArray) (a1 : Int) (r1 : Int) (r2 : Int) (w : World) (h : digits_Dec.f a0 a1 = some (r1, r2)) :
    Calls Try.prog 81 #[.string a0, .int .i64 a1] w fun e w' => e = .returned (.tuple #[.int .i64 r1, .int .i64 r2]) ∧ Below w.heap.size w w' := by
  have HB := Aside0.mk (Below.refl w.heap.size w)
  have H : ((digits_number.f a0 10 a1).bind fun bt101 => (some (bt101.1, bt101.2))) = some (r1, r2) := h
  clear h
  replace H := Option.bind_eq_some_iff.mp H
  obtain ⟨⟨t101, t102⟩, A30, H⟩ := H
  (try dsimp only at H)
  have A3 := Aside0.mk A30
  clear A30
  simp only [Option.some.injEq, Prod.mk.injEq] at H
  obtain ⟨rfl, rfl⟩ := H
  go_enter Try.func81, Try.ntmps81
  go_wp2_with (first | ((with_reducible refine gate_callee (f := 130) rfl ?_); refine goesL_ (some 8) rfl rfl Try.func130 (by kernel_rfl) rfl #[.string a0, .int .i64 10, .int .i64 a1] rfl (by (try simp only [List.map_toArray, List.map_cons, List.map_nil]); first | done | rfl | (simp only [List.length_drop, List.length_take]; rfl)) ?_; (with_reducible refine (digits_number.calls a0 10 a1 t101 t102 _ A3.out).mono ?_); rintro e w4 ⟨rfl, hb⟩; refine ⟨_, rfl, ?_⟩; have n0_ := Aside0.mk (below_step (by repeat (first | (with_reducible first | exact HB.out | apply below_alloc | apply pw_below_drewN | apply below_drew1) | exact HB.out)) hb); clear HB; have HB := n0_; clear n0_; (try clear hb); (try clear hb2); (try clear hk); (try clear hi)))
  go_ret2
  exact ⟨by first | rfl | (simp [errW_none, errW_some] <;> rfl) | (simp [*, errW_none, errW_some] <;> rfl), by repeat (first | (with_reducible first | exact HB.out | apply below_alloc | apply pw_below_drewN | apply below_drew1) | exact HB.out)⟩
end Go.Proofs.Ytjnhghplfdiijaa.Q

namespace Go.Proofs.Ytjnhghplfdiijaa.Q
open Go.RowKit Go.Proofs.YtjnhghplfdiijaaW.PrintWords Go.Proofs.YtjnhghplfdiijaaW.PrintLast Go.Proofs.YtjnhghplfdiijaaW.PrintMore
attribute [local go_sem] max2_int min2_int max_two min_two max_three min_three max_four min_four
set_option linter.unusedVariables false
set_option linter.unusedSimpArgs false
def cache_Age.f (k : Nat) (l0 : List (S60)) : Option (Int × Bool) := (cache_Control.f k l0).bind fun t101 => ((cache_find.f t101 (⟨#[109, 97, 120, 45, 97, 103, 101]⟩ : ByteArray)).bind fun t104 => (if t104 < 0 then (some (0, false)) else (if 0 ≤ t104 then (if t104 < (t101.length : Int) then ((digits_Dec.f ((rd_T51 t101 t104).f1) 2147483647).bind fun bt106 => (if bt106.2 = 5 then (some (2147483647, true)) else (some (bt106.1, (bt106.2 == 0))))) else (none)) else (none))))
theorem cache_Age.mono : ∀ a0 k, LeO (cache_Age.f k a0) (cache_Age.f (k + 1) a0) := by
  intro a0 k
  unfold cache_Age.f
  repeat' first
      | (with_reducible exact cache_Control.mono _ _)
      | (with_reducible exact LeO.refl _)
      | (with_reducible exact LeO.none _)
      | (with_reducible refine LeO.ite ?_ ?_)
      | (with_reducible refine LeO.bind ?_ (fun _ => ?_))
      | exact cache_Control.mono _ _
      | exact LeO.none _
      | refine LeO.ite ?_ ?_
      | refine LeO.bind ?_ (fun _ => ?_)
set_option maxHeartbeats 8000000 in
set_option maxRecDepth 100000 in
theorem cache_Age.calls (k : Nat) (A0 : Option Addr) (c0 : Nat) (l0 : List (S60)) (r1 : Int) (r2 : Bool) (w : World) (hr0 : Kd.C k60 w A0 l0.length l0) (hc0 : l0.length ≤ c0) (h : cache_Age.f k l0 = some (r1, r2)) :
    Calls Try.prog 33 #[.slice A0 l0.length c0] w fun e w' => e = .returned (.tuple #[.int .i64 r1, .bool r2]) ∧ Below w.heap.size w w' := by
  have HR0 := Aside0.mk hr0
  have HC0 := Aside0.mk hc0
  clear hr0 hc0
  have HB := Aside0.mk (Below.refl w.heap.size w)
  have H : ((cache_Control.f k l0).bind fun t101 => ((cache_find.f t101 (⟨#[109, 97, 120, 45, 97, 103, 101]⟩ : ByteArray)).bind fun t104 => (if t104 < 0 then (some (0, false)) else (if 0 ≤ t104 then (if t104 < (t101.length : Int) then ((digits_Dec.f ((rd_T51 t101 t104).f1) 2147483647).bind fun bt106 => (if bt106.2 = 5 then (some (2147483647, true)) else (some (bt106.1, (bt106.2 == 0))))) else (none)) else (none))))) = some (r1, r2) := h
  clear h
  replace H := Option.bind_eq_some_iff.mp H
  obtain ⟨t101, A20, H⟩ := H
  (try dsimp only at H)
  have A2 := Aside0.mk A20
  clear A20
  replace H := Option.bind_eq_some_iff.mp H
  obtain ⟨t104, A30, H⟩ := H
  (try dsimp only at H)
  have A3 := Aside0.mk A30
  clear A30
  by_cases c4 : t104 < 0
  · rw [if_pos c4] at H
    have c4b0 : decide (t104 < 0) = true := decide_eq_true c4
    clear c4
    simp only [Option.some.injEq, Prod.mk.injEq] at H
    obtain ⟨rfl, rfl⟩ := H
    go_enter Try.func33, Try.ntmps33
    go_wp2_with (first | ((with_reducible refine gate_callee (f := 37) rfl ?_); refine goesL_ (some 9) rfl rfl Try.func37 (by kernel_rfl) rfl #[.slice A0 l0.length c0] rfl (by (try simp only [List.map_toArray, List.map_cons, List.map_nil]); first | done | rfl | (simp only [List.length_drop, List.length_take]; rfl)) ?_; (with_reducible refine (cache_Control.calls k _ _ l0 t101 _ ?side1 ?side2 A2.out).mono ?_); (case side1 => repeat (first | exact HR0.out | (with_reducible refine Kd.C_alloc ?_ _) | (with_reducible refine Kd.C_drewN ?_ _) | (with_reducible refine Kd.C_drew ?_))); (case side2 => exact HC0.out); rintro e w5 ⟨v102, rfl, ho0, hb⟩; refine ⟨_, rfl, ?_⟩; have n0_ := Aside0.mk (Kd.R_lower ho0 (below_size (by repeat (first | (with_reducible first | exact HB.out | apply below_alloc | apply pw_below_drewN | apply below_drew1) | exact HB.out)))); have n1_ := Aside0.mk (below_step (by repeat (first | (with_reducible first | exact HB.out | apply below_alloc | apply pw_below_drewN | apply below_drew1) | exact HB.out)) hb); clear HB; have HO103 := n0_; have HB := n1_; clear n0_ n1_; (try clear hb); (try clear hb2); (try clear hk); (try clear hi); (try clear ho0); obtain ⟨Ao6, co6, eo6⟩ := Kd.R_slice HO103.out; subst eo6) | ((with_reducible refine gate_callee (f := 80) rfl ?_); refine goesL_ (some 11) rfl rfl Try.func80 (by kernel_rfl) rfl #[.slice Ao6 t101.length co6, .string (⟨#[109, 97, 120, 45, 97, 103, 101]⟩ : ByteArray)] rfl (by (try simp only [List.map_toArray, List.map_cons, List.map_nil]); first | done | rfl | (simp only [List.length_drop, List.length_take]; rfl)) ?_; (with_reducible refine (cache_find.calls _ _ t101 (⟨#[109, 97, 120, 45, 97, 103, 101]⟩ : ByteArray) t104 _ ?side1 ?side2 A3.out).mono ?_); (case side1 => repeat (first | exact (Kd.R_reads' HO103.out).2.2 | (with_reducible refine Kd.C_alloc ?_ _) | (with_reducible refine Kd.C_drewN ?_ _) | (with_reducible refine Kd.C_drew ?_))); (case side2 => exact (Kd.R_reads' HO103.out).2.1); rintro e w7 ⟨rfl, hb⟩; refine ⟨_, rfl, ?_⟩; have n0_ := Aside0.mk (Kd.R_below (by (with_reducible repeat (first | apply Kd.R_alloc | apply Kd.R_drewN | apply Kd.R_drew)); exact HO103.out) hb); have n1_ := Aside0.mk (below_step (by repeat (first | (with_reducible first | exact HB.out | apply below_alloc | apply pw_below_drewN | apply below_drew1) | exact HB.out)) hb); clear HO103; clear HB; have HO103 := n0_; have HB := n1_; clear n0_ n1_; (try clear hb); (try clear hb2); (try clear hk); (try clear hi)))
    go_ret2
    exact ⟨by first | rfl | (simp [errW_none, errW_some] <;> rfl) | (simp [*, errW_none, errW_some] <;> rfl), by repeat (first | (with_reducible first | exact HB.out | apply below_alloc | apply pw_below_drewN | apply below_drew1) | exact HB.out)⟩
  · rw [if_neg c4] at H
    have c4b0 : decide (t104 < 0) = false := decide_eq_false c4
    clear c4
    by_cases c8 : 0 ≤ t104
    · rw [if_pos c8] at H
      have c8b0 : decide (0 ≤ t104) = true := decide_eq_true c8
      clear c8
      by_cases c9 : t104 < (t101.length : Int)
      · rw [if_pos c9] at H
        have c9b0 : decide (t104 < (t101.length : Int)) = true := decide_eq_true c9
        clear c9
        replace H := Option.bind_eq_some_iff.mp H
        obtain ⟨⟨t106, t107⟩, A100, H⟩ := H
        (try dsimp only at H)
        have A10 := Aside0.mk A100
        clear A100
        by_cases c11 : t107 = 5
        · rw [if_pos c11] at H
          have c11b0 : (t107 == 5) = true := beq_iff_eq.mpr c11
          have c11b1 : (t107 != 5) = false := bne_eq_false_iff_eq.mpr c11
          clear c11
          simp only [Option.some.injEq, Prod.mk.injEq] at H
          obtain ⟨rfl, rfl⟩ := H
          go_enter Try.func33, Try.ntmps33
          go_wp2_with (first | ((with_reducible refine gate_callee (f := 37) rfl ?_); refine goesL_ (some 9) rfl rfl Try.func37 (by kernel_rfl) rfl #[.slice A0 l0.length c0] rfl (by (try simp only [List.map_toArray, List.map_cons, List.map_nil]); first | done | rfl | (simp only [List.length_drop, List.length_take]; rfl)) ?_; (with_reducible refine (cache_Control.calls k _ _ l0 t101 _ ?side1 ?side2 A2.out).mono ?_); (case side1 => repeat (first | exact HR0.out | (with_reducible refine Kd.C_alloc ?_ _) | (with_reducible refine Kd.C_drewN ?_ _) | (with_reducible refine Kd.C_drew ?_))); (case side2 => exact HC0.out); rintro e w12 ⟨v102, rfl, ho0, hb⟩; refine ⟨_, rfl, ?_⟩; have n0_ := Aside0.mk (Kd.R_lower ho0 (below_size (by repeat (first | (with_reducible first | exact HB.out | apply below_alloc | apply pw_below_drewN | apply below_drew1) | exact HB.out)))); have n1_ := Aside0.mk (below_step (by repeat (first | (with_reducible first | exact HB.out | apply below_alloc | apply pw_below_drewN | apply below_drew1) | exact HB.out)) hb); clear HB; have HO103 := n0_; have HB := n1_; clear n0_ n1_; (try clear hb); (try clear hb2); (try clear hk); (try clear hi); (try clear ho0); obtain ⟨Ao13, co13, eo13⟩ := Kd.R_slice HO103.out; subst eo13) | ((with_reducible refine gate_callee (f := 80) rfl ?_); refine goesL_ (some 11) rfl rfl Try.func80 (by kernel_rfl) rfl #[.slice Ao13 t101.length co13, .string (⟨#[109, 97, 120, 45, 97, 103, 101]⟩ : ByteArray)] rfl (by (try simp only [List.map_toArray, List.map_cons, List.map_nil]); first | done | rfl | (simp only [List.length_drop, List.length_take]; rfl)) ?_; (with_reducible refine (cache_find.calls _ _ t101 (⟨#[109, 97, 120, 45, 97, 103, 101]⟩ : ByteArray) t104 _ ?side1 ?side2 A3.out).mono ?_); (case side1 => repeat (first | exact (Kd.R_reads' HO103.out).2.2 | (with_reducible refine Kd.C_alloc ?_ _) | (with_reducible refine Kd.C_drewN ?_ _) | (with_reducible refine Kd.C_drew ?_))); (case side2 => exact (Kd.R_reads' HO103.out).2.1); rintro e w14 ⟨rfl, hb⟩; refine ⟨_, rfl, ?_⟩; have n0_ := Aside0.mk (Kd.R_below (by (with_reducible repeat (first | apply Kd.R_alloc | apply Kd.R_drewN | apply Kd.R_drew)); exact HO103.out) hb); have n1_ := Aside0.mk (below_step (by repeat (first | (with_reducible first | exact HB.out | apply below_alloc | apply pw_below_drewN | apply below_drew1) | exact HB.out)) hb); clear HO103; clear HB; have HO103 := n0_; have HB := n1_; clear n0_ n1_; (try clear hb); (try clear hb2); (try clear hk); (try clear hi); have p105 : 0 ≤ (t104 : Int) := of_decide_eq_true (by first | (with_reducible assumption) | assumption); have q105 : t104 < (t101.length : Int) := of_decide_eq_true (by first | (with_reducible assumption) | assumption); obtain ⟨ad105, e105, hx105_0, hx105_1, hx105_2⟩ := at_T51 (Kd.R_reads' HO103.out).2.2 t104 p105 q105; cases e105; replace p105 := eq_true p105; replace q105 := eq_true q105) | ((with_reducible refine gate_callee (f := 81) rfl ?_); refine goesL_ (some 20) rfl rfl Try.func81 (by kernel_rfl) rfl #[.string ((rd_T51 t101 t104).f1), .int .i64 2147483647] rfl (by (try simp only [List.map_toArray, List.map_cons, List.map_nil]); first | done | rfl | (simp only [List.length_drop, List.length_take]; rfl)) ?_; (with_reducible refine (digits_Dec.calls ((rd_T51 t101 t104).f1) 2147483647 t106 t107 _ A10.out).mono ?_); rintro e w15 ⟨rfl, hb⟩; refine ⟨_, rfl, ?_⟩; have n0_ := Aside0.mk (Kd.R_below (by (with_reducible repeat (first | apply Kd.R_alloc | apply Kd.R_drewN | apply Kd.R_drew)); exact HO103.out) hb); have n1_ := Aside0.mk (below_step (by repeat (first | (with_reducible first | exact HB.out | apply below_alloc | apply pw_below_drewN | apply below_drew1) | exact HB.out)) hb); clear HO103; clear HB; have HO103 := n0_; have HB := n1_; clear n0_ n1_; (try clear hb); (try clear hb2); (try clear hk); (try clear hi)))
          go_ret2
          exact ⟨by first | rfl | (simp [errW_none, errW_some] <;> rfl) | (simp [*, errW_none, errW_some] <;> rfl), by repeat (first | (with_reducible first | exact HB.out | apply below_alloc | apply pw_below_drewN | apply below_drew1) | exact HB.out)⟩
        · rw [if_neg c11] at H
          have c11b0 : (t107 == 5) = false := beq_eq_false_iff_ne.mpr c11
          have c11b1 : (t107 != 5) = true := bne_iff_ne.mpr c11
          simp only [Option.some.injEq, Prod.mk.injEq] at H
          obtain ⟨rfl, rfl⟩ := H
          go_enter Try.func33, Try.ntmps33
          go_wp2_with (first | ((with_reducible refine gate_callee (f := 37) rfl ?_); refine goesL_ (some 9) rfl rfl Try.func37 (by kernel_rfl) rfl #[.slice A0 l0.length c0] rfl (by (try simp only [List.map_toArray, List.map_cons, List.map_nil]); first | done | rfl | (simp only [List.length_drop, List.length_take]; rfl)) ?_; (with_reducible refine (cache_Control.calls k _ _ l0 t101 _ ?side1 ?side2 A2.out).mono ?_); (case side1 => repeat (first | exact HR0.out | (with_reducible refine Kd.C_alloc ?_ _) | (with_reducible refine Kd.C_drewN ?_ _) | (with_reducible refine Kd.C_drew ?_))); (case side2 => exact HC0.out); rintro e w16 ⟨v102, rfl, ho0, hb⟩; refine ⟨_, rfl, ?_⟩; have n0_ := Aside0.mk (Kd.R_lower ho0 (below_size (by repeat (first | (with_reducible first | exact HB.out | apply below_alloc | apply pw_below_drewN | apply below_drew1) | exact HB.out)))); have n1_ := Aside0.mk (below_step (by repeat (first | (with_reducible first | exact HB.out | apply below_alloc | apply pw_below_drewN | apply below_drew1) | exact HB.out)) hb); clear HB; have HO103 := n0_; have HB := n1_; clear n0_ n1_; (try clear hb); (try clear hb2); (try clear hk); (try clear hi); (try clear ho0); obtain ⟨Ao17, co17, eo17⟩ := Kd.R_slice HO103.out; subst eo17) | ((with_reducible refine gate_callee (f := 80) rfl ?_); refine goesL_ (some 11) rfl rfl Try.func80 (by kernel_rfl) rfl #[.slice Ao17 t101.length co17, .string (⟨#[109, 97, 120, 45, 97, 103, 101]⟩ : ByteArray)] rfl (by (try simp only [List.map_toArray, List.map_cons, List.map_nil]); first | done | rfl | (simp only [List.length_drop, List.length_take]; rfl)) ?_; (with_reducible refine (cache_find.calls _ _ t101 (⟨#[109, 97, 120, 45, 97, 103, 101]⟩ : ByteArray) t104 _ ?side1 ?side2 A3.out).mono ?_); (case side1 => repeat (first | exact (Kd.R_reads' HO103.out).2.2 | (with_reducible refine Kd.C_alloc ?_ _) | (with_reducible refine Kd.C_drewN ?_ _) | (with_reducible refine Kd.C_drew ?_))); (case side2 => exact (Kd.R_reads' HO103.out).2.1); rintro e w18 ⟨rfl, hb⟩; refine ⟨_, rfl, ?_⟩; have n0_ := Aside0.mk (Kd.R_below (by (with_reducible repeat (first | apply Kd.R_alloc | apply Kd.R_drewN | apply Kd.R_drew)); exact HO103.out) hb); have n1_ := Aside0.mk (below_step (by repeat (first | (with_reducible first | exact HB.out | apply below_alloc | apply pw_below_drewN | apply below_drew1) | exact HB.out)) hb); clear HO103; clear HB; have HO103 := n0_; have HB := n1_; clear n0_ n1_; (try clear hb); (try clear hb2); (try clear hk); (try clear hi); have p105 : 0 ≤ (t104 : Int) := of_decide_eq_true (by first | (with_reducible assumption) | assumption); have q105 : t104 < (t101.length : Int) := of_decide_eq_true (by first | (with_reducible assumption) | assumption); obtain ⟨ad105, e105, hx105_0, hx105_1, hx105_2⟩ := at_T51 (Kd.R_reads' HO103.out).2.2 t104 p105 q105; cases e105; replace p105 := eq_true p105; replace q105 := eq_true q105) | ((with_reducible refine gate_callee (f := 81) rfl ?_); refine goesL_ (some 20) rfl rfl Try.func81 (by kernel_rfl) rfl #[.string ((rd_T51 t101 t104).f1), .int .i64 2147483647] rfl (by (try simp only [List.map_toArray, List.map_cons, List.map_nil]); first | done | rfl | (simp only [List.length_drop, List.length_take]; rfl)) ?_; (with_reducible refine (digits_Dec.calls ((rd_T51 t101 t104).f1) 2147483647 t106 t107 _ A10.out).mono ?_); rintro e w19 ⟨rfl, hb⟩; refine ⟨_, rfl, ?_⟩; have n0_ := Aside0.mk (Kd.R_below (by (with_reducible repeat (first | apply Kd.R_alloc | apply Kd.R_drewN | apply Kd.R_drew)); exact HO103.out) hb); have n1_ := Aside0.mk (below_step (by repeat (first | (with_reducible first | exact HB.out | apply below_alloc | apply pw_below_drewN | apply below_drew1) | exact HB.out)) hb); clear HO103; clear HB; have HO103 := n0_; have HB := n1_; clear n0_ n1_; (try clear hb); (try clear hb2); (try clear hk); (try clear hi)))
          go_ret2
          exact ⟨by first | rfl | (simp [errW_none, errW_some] <;> rfl) | (simp [*, errW_none, errW_some] <;> rfl), by repeat (first | (with_reducible first | exact HB.out | apply below_alloc | apply pw_below_drewN | apply below_drew1) | exact HB.out)⟩
      · rw [if_neg c9] at H
        exact absurd H (by simp)
    · rw [if_neg c8] at H
      exact absurd H (by simp)
end Go.Proofs.Ytjnhghplfdiijaa.Q

namespace Go.Proofs.Ytjnhghplfdiijaa.Q
open Go.RowKit Go.Proofs.YtjnhghplfdiijaaW.PrintWords Go.Proofs.YtjnhghplfdiijaaW.PrintLast Go.Proofs.YtjnhghplfdiijaaW.PrintMore
attribute [local go_sem] max2_int min2_int max_two min_two max_three min_three max_four min_four
set_option linter.unusedVariables false
set_option linter.unusedSimpArgs false
def cache_Has.f (k : Nat) (l0 : List (S60)) (a1 : ByteArray) : Option (Bool) := (cache_Control.f k l0).bind fun t101 => ((cache_find.f t101 a1).bind fun t104 => (some (decide (t104 ≥ 0))))
theorem cache_Has.mono : ∀ a0 a1 k, LeO (cache_Has.f k a0 a1) (cache_Has.f (k + 1) a0 a1) := by
  intro a0 a1 k
  unfold cache_Has.f
  repeat' first
      | (with_reducible exact cache_Control.mono _ _)
      | (with_reducible exact LeO.refl _)
      | (with_reducible exact LeO.none _)
      | (with_reducible refine LeO.ite ?_ ?_)
      | (with_reducible refine LeO.bind ?_ (fun _ => ?_))
      | exact cache_Control.mono _ _
      | exact LeO.none _
      | refine LeO.ite ?_ ?_
      | refine LeO.bind ?_ (fun _ => ?_)
set_option maxHeartbeats 8000000 in
set_option maxRecDepth 100000 in
theorem cache_Has.calls (k : Nat) (A0 : Option Addr) (c0 : Nat) (l0 : List (S60)) (a1 : ByteArray) (r : Bool) (w : World) (hr0 : Kd.C k60 w A0 l0.length l0) (hc0 : l0.length ≤ c0) (h : cache_Has.f k l0 a1 = some r) :
    Calls Try.prog 39 #[.slice A0 l0.length c0, .string a1] w fun e w' => e = .returned (.bool r) ∧ Below w.heap.size w w' := by
  have HR0 := Aside0.mk hr0
  have HC0 := Aside0.mk hc0
  clear hr0 hc0
  have HB := Aside0.mk (Below.refl w.heap.size w)
  have H : ((cache_Control.f k l0).bind fun t101 => ((cache_find.f t101 a1).bind fun t104 => (some (decide (t104 ≥ 0))))) = some r := h
  clear h
  replace H := Option.bind_eq_some_iff.mp H
  obtain ⟨t101, A30, H⟩ := H
  (try dsimp only at H)
  have A3 := Aside0.mk A30
  clear A30
  replace H := Option.bind_eq_some_iff.mp H
  obtain ⟨t104, A40, H⟩ := H
  (try dsimp only at H)
  have A4 := Aside0.mk A40
  clear A40
  obtain rfl := Option.some.inj H
  go_enter Try.func39, Try.ntmps39
  go_wp2_with (first | ((with_reducible refine gate_callee (f := 37) rfl ?_); refine goesL_ (some 6) rfl rfl Try.func37 (by kernel_rfl) rfl #[.slice A0 l0.length c0] rfl (by (try simp only [List.map_toArray, List.map_cons, List.map_nil]); first | done | rfl | (simp only [List.length_drop, List.length_take]; rfl)) ?_; (with_reducible refine (cache_Control.calls k _ _ l0 t101 _ ?side1 ?side2 A3.out).mono ?_); (case side1 => repeat (first | exact HR0.out | (with_reducible refine Kd.C_alloc ?_ _) | (with_reducible refine Kd.C_drewN ?_ _) | (with_reducible refine Kd.C_drew ?_))); (case side2 => exact HC0.out); rintro e w5 ⟨v102, rfl, ho0, hb⟩; refine ⟨_, rfl, ?_⟩; have n0_ := Aside0.mk (Kd.R_lower ho0 (below_size (by repeat (first | (with_reducible first | exact HB.out | apply below_alloc | apply pw_below_drewN | apply below_drew1) | exact HB.out)))); have n1_ := Aside0.mk (below_step (by repeat (first | (with_reducible first | exact HB.out | apply below_alloc | apply pw_below_drewN | apply below_drew1) | exact HB.out)) hb); clear HB; have HO103 := n0_; have HB := n1_; clear n0_ n1_; (try clear hb); (try clear hb2); (try clear hk); (try clear hi); (try clear ho0); obtain ⟨Ao6, co6, eo6⟩ := Kd.R_slice HO103.out; subst eo6) | ((with_reducible refine gate_callee (f := 80) rfl ?_); refine goesL_ (some 8) rfl rfl Try.func80 (by kernel_rfl) rfl #[.slice Ao6 t101.length co6, .string a1] rfl (by (try simp only [List.map_toArray, List.map_cons, List.map_nil]); first | done | rfl | (simp only [List.length_drop, List.length_take]; rfl)) ?_; (with_reducible refine (cache_find.calls _ _ t101 a1 t104 _ ?side1 ?side2 A4.out).mono ?_); (case side1 => repeat (first | exact (Kd.R_reads' HO103.out).2.2 | (with_reducible refine Kd.C_alloc ?_ _) | (with_reducible refine Kd.C_drewN ?_ _) | (with_reducible refine Kd.C_drew ?_))); (case side2 => exact (Kd.R_reads' HO103.out).2.1); rintro e w7 ⟨rfl, hb⟩; refine ⟨_, rfl, ?_⟩; have n0_ := Aside0.mk (Kd.R_below (by (with_reducible repeat (first | apply Kd.R_alloc | apply Kd.R_drewN | apply Kd.R_drew)); exact HO103.out) hb); have n1_ := Aside0.mk (below_step (by repeat (first | (with_reducible first | exact HB.out | apply below_alloc | apply pw_below_drewN | apply below_drew1) | exact HB.out)) hb); clear HO103; clear HB; have HO103 := n0_; have HB := n1_; clear n0_ n1_; (try clear hb); (try clear hb2); (try clear hk); (try clear hi)))
  go_ret
  exact ⟨by first | rfl | (simp [errW_none, errW_some] <;> rfl) | (simp [*, errW_none, errW_some] <;> rfl), by repeat (first | (with_reducible first | exact HB.out | apply below_alloc | apply pw_below_drewN | apply below_drew1) | exact HB.out)⟩
end Go.Proofs.Ytjnhghplfdiijaa.Q

namespace Go.Proofs.Ytjnhghplfdiijaa.Q
open Go.RowKit Go.Proofs.YtjnhghplfdiijaaW.PrintWords Go.Proofs.YtjnhghplfdiijaaW.PrintLast Go.Proofs.YtjnhghplfdiijaaW.PrintMore
attribute [local go_sem] max2_int min2_int max_two min_two max_three min_three max_four min_four
set_option linter.unusedVariables false
set_option linter.unusedSimpArgs false
def cache_Pragma.f (l0 : List (S60)) : Option (Bool) := (header_Combined.f l0 (⟨#[80, 114, 97, 103, 109, 97]⟩ : ByteArray)).bind fun bt101 => ((lists_Has.f bt101.1 (⟨#[110, 111, 45, 99, 97, 99, 104, 101]⟩ : ByteArray)).bind fun t103 => (some t103))
set_option maxHeartbeats 8000000 in
set_option maxRecDepth 100000 in
theorem cache_Pragma.calls (A0 : Option Addr) (c0 : Nat) (l0 : List (S60)) (r : Bool) (w : World) (hr0 : Kd.C k60 w A0 l0.length l0) (hc0 : l0.length ≤ c0) (h : cache_Pragma.f l0 = some r) :
    Calls Try.prog 40 #[.slice A0 l0.length c0] w fun e w' => e = .returned (.bool r) ∧ Below w.heap.size w w' := by
  have HR0 := Aside0.mk hr0
  have HC0 := Aside0.mk hc0
  clear hr0 hc0
  have HB := Aside0.mk (Below.refl w.heap.size w)
  have H : ((header_Combined.f l0 (⟨#[80, 114, 97, 103, 109, 97]⟩ : ByteArray)).bind fun bt101 => ((lists_Has.f bt101.1 (⟨#[110, 111, 45, 99, 97, 99, 104, 101]⟩ : ByteArray)).bind fun t103 => (some t103))) = some r := h
  clear h
  replace H := Option.bind_eq_some_iff.mp H
  obtain ⟨⟨t101, t102⟩, A20, H⟩ := H
  (try dsimp only at H)
  have A2 := Aside0.mk A20
  clear A20
  replace H := Option.bind_eq_some_iff.mp H
  obtain ⟨t103, A30, H⟩ := H
  (try dsimp only at H)
  have A3 := Aside0.mk A30
  clear A30
  obtain rfl := Option.some.inj H
  go_enter Try.func40, Try.ntmps40
  go_wp2_with (first | ((with_reducible refine gate_callee (f := 72) rfl ?_); refine goesL_ (some 7) rfl rfl Try.func72 (by kernel_rfl) rfl #[.slice A0 l0.length c0, .string (⟨#[80, 114, 97, 103, 109, 97]⟩ : ByteArray)] rfl (by (try simp only [List.map_toArray, List.map_cons, List.map_nil]); first | done | rfl | (simp only [List.length_drop, List.length_take]; rfl)) ?_; (with_reducible refine (header_Combined.calls _ _ l0 (⟨#[80, 114, 97, 103, 109, 97]⟩ : ByteArray) t101 t102 _ ?side1 ?side2 A2.out).mono ?_); (case side1 => repeat (first | exact HR0.out | (with_reducible refine Kd.C_alloc ?_ _) | (with_reducible refine Kd.C_drewN ?_ _) | (with_reducible refine Kd.C_drew ?_))); (case side2 => exact HC0.out); rintro e w4 ⟨rfl, hb⟩; refine ⟨_, rfl, ?_⟩; have n0_ := Aside0.mk (below_step (by repeat (first | (with_reducible first | exact HB.out | apply below_alloc | apply pw_below_drewN | apply below_drew1) | exact HB.out)) hb); clear HB; have HB := n0_; clear n0_; (try clear hb); (try clear hb2); (try clear hk); (try clear hi)) | ((with_reducible refine gate_callee (f := 84) rfl ?_); refine goesL_ (some 11) rfl rfl Try.func84 (by kernel_rfl) rfl #[.string t101, .string (⟨#[110, 111, 45, 99, 97, 99, 104, 101]⟩ : ByteArray)] rfl (by (try simp only [List.map_toArray, List.map_cons, List.map_nil]); first | done | rfl | (simp only [List.length_drop, List.length_take]; rfl)) ?_; (with_reducible refine (lists_Has.calls t101 (⟨#[110, 111, 45, 99, 97, 99, 104, 101]⟩ : ByteArray) t103 _ A3.out).mono ?_); rintro e w5 ⟨rfl, hb⟩; refine ⟨_, rfl, ?_⟩; have n0_ := Aside0.mk (below_step (by repeat (first | (with_reducible first | exact HB.out | apply below_alloc | apply pw_below_drewN | apply below_drew1) | exact HB.out)) hb); clear HB; have HB := n0_; clear n0_; (try clear hb); (try clear hb2); (try clear hk); (try clear hi)))
  go_ret
  exact ⟨by first | rfl | (simp [errW_none, errW_some] <;> rfl) | (simp [*, errW_none, errW_some] <;> rfl), by repeat (first | (with_reducible first | exact HB.out | apply below_alloc | apply pw_below_drewN | apply below_drew1) | exact HB.out)⟩
end Go.Proofs.Ytjnhghplfdiijaa.Q
