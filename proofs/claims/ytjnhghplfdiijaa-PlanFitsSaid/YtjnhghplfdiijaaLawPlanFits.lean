/- The row of the law PlanFits, out of its walk. -/
import Derived.Test.YtjnhghplfdiijaaRows
import Derived.Test.YtjnhghplfdiijaaHplanfits
import Derived.Test.YtjnhghplfdiijaaHrows
import Derived.WalkKit
import Derived.ProofKit
import Derived.OpenShut
import Derived.ShutString
import Derived.ChangeOld
import Derived.Below
import Derived.SizedLaws
import Derived.Carry
namespace Go.Proofs.Ytjnhghplfdiijaa.planFits
open Go.ChangeShapes Go.WideShapes Go.ChangeAt Go.RowKit
open Go.ChangeMaps (open_string shut_string)
set_option linter.unusedVariables false
theorem own : ownKnob Try.prog.godebug = none := by kernel_rfl
theorem laidOut : laidOutB Try.prog = true := by kernel_rfl
theorem array2 {α : Type} {cs : Array α} (h : cs.size = 2) : ∃ c0 c1, cs = #[c0, c1] := by
  obtain ⟨l⟩ := cs
  match l, h with
  | [c0, c1], _ => exact ⟨c0, c1, rfl⟩
theorem array18 {α : Type} {cs : Array α} (h : cs.size = 18) : ∃ c0 c1 c2 c3 c4 c5 c6 c7 c8 c9 c10 c11 c12 c13 c14 c15 c16 c17, cs = #[c0, c1, c2, c3, c4, c5, c6, c7, c8, c9, c10, c11, c12, c13, c14, c15, c16, c17] := by
  obtain ⟨l⟩ := cs
  match l, h with
  | [c0, c1, c2, c3, c4, c5, c6, c7, c8, c9, c10, c11, c12, c13, c14, c15, c16, c17], _ => exact ⟨c0, c1, c2, c3, c4, c5, c6, c7, c8, c9, c10, c11, c12, c13, c14, c15, c16, c17, rfl⟩
set_option maxRecDepth 100000 in
theorem lifted (os : Os) (started : os.Started) (H : Type) (enc : TypeId × Value → H) :
    ReturnsInHanded {} Try.checked os 3 .any (Rows.planFitsSpec.pre6 enc Try.prog Try.f3 Rows.planFitsRow.domain false) (Rows.planFitsSpec.post enc Try.prog Try.f3 false true false false) := by
  refine returnsInHanded_of_change_sized (C := Try.checked) own started (by kernel_rfl) Try.func3
    (ChangeSpec.witness6 (enc := enc) (C := Try.checked) false ⟨#[], #[.agg #[.int .i64 0, .int .i64 0], .int .i64 0, .agg #[.string ByteArray.empty, .string ByteArray.empty, .int .i64 0, .int .i64 0, .int .i64 0, .int .i64 0, .int .i64 0, .int .i64 0, .int .i64 0, .int .i64 0, .int .i64 0, .int .i64 0, .int .i64 0, .int .i64 0, .int .i64 0, .int .i64 0, .int .i64 0, .int .i64 0]], []⟩ 8 (by kernel_rfl) (by kernel_rfl) (by kernel_rfl) (by kernel_rfl)) ?_
  intro W base args ds gs before hval0 hW hcnd hsz0 _
  have hsz : (DataW.weightsEach Try.prog (Try.f3.params.toList ++ Rows.planFitsSpec.plain.varTypes Try.prog) (ds ++ gs)).all (· ≤ reachBytes) = true := hsz0
  have hval : ∀ (j : Nat) t v, Try.f3.params[j]? = some t → args[j]? = some v → Value.okWide Try.prog W .any base t v := hval0
  have hW' := hW
  obtain ⟨p, q, hA0, hV, rfl, hfz, hnd⟩ := hW
  have hA : DataW.TrodAll enc Try.prog W 0 (fun _ => true) true Try.f3.params.toList args.toList ds p := hA0
  rw [Try.params3] at hA hval hsz
  obtain ⟨v0, vs0, d0, ds0, p0, q0, hargs, rfl, rfl, h0, r0⟩ := trodAll_cons hA
  obtain ⟨v1, vs1, d1, ds1, p1, q1, rfl, rfl, rfl, h1, r1⟩ := trodAll_cons r0
  obtain ⟨v2, vs2, d2, ds2, p2, q2, rfl, rfl, rfl, h2, r2⟩ := trodAll_cons r1
  obtain ⟨rfl, rfl, rfl⟩ := trodAll_nil r2
  obtain rfl : args = #[v0, v1, v2] := by cases args; simp_all
  obtain ⟨rfl, rfl⟩ := trodVars_none hV
  obtain ⟨s0, rfl, z0⟩ := okWide_struct Try.underlying23 (hval 0 23 v0 rfl rfl)
  have k0 := h0
  have lt0 : ∀ x ∈ p0, x.block < W.heap.size := by obtain ⟨m, hm⟩ := k0; exact DataW.trod_lt m _ _ _ hm
  obtain ⟨c0_0, c0_1, rfl⟩ := array2 (z0.trans (show Try.prog.cellsOf 23 = 2 by kernel_rfl))
  obtain ⟨fu0, hf0⟩ := h0
  obtain ⟨a0_0, e, wa0_0⟩ := Q.field_int (k := .i64) Try.underlying23 hf0 0 _ rfl Try.underlying3 (by kernel_rfl)
  replace e : c0_0 = .int .i64 a0_0 := Option.some.inj e
  have e0_0 := e
  clear e
  obtain ⟨a0_1, e, wa0_1⟩ := Q.field_int (k := .i64) Try.underlying23 hf0 1 _ rfl Try.underlying3 (by kernel_rfl)
  replace e : c0_1 = .int .i64 a0_1 := Option.some.inj e
  have e0_1 := e
  clear e
  subst e0_0 e0_1
  obtain ⟨a1, rfl, rfl, rfl, w1⟩ := open_int Try.underlying3 (hval 1 3 v1 rfl rfl) h1
  obtain ⟨s2, rfl, z2⟩ := okWide_struct Try.underlying27 (hval 2 27 v2 rfl rfl)
  have k2 := h2
  have lt2 : ∀ x ∈ p2, x.block < W.heap.size := by obtain ⟨m, hm⟩ := k2; exact DataW.trod_lt m _ _ _ hm
  obtain ⟨c2_0, c2_1, c2_2, c2_3, c2_4, c2_5, c2_6, c2_7, c2_8, c2_9, c2_10, c2_11, c2_12, c2_13, c2_14, c2_15, c2_16, c2_17, rfl⟩ := array18 (z2.trans (show Try.prog.cellsOf 27 = 18 by kernel_rfl))
  obtain ⟨fu2, hf2⟩ := h2
  obtain ⟨a2_0, e, wa2_0⟩ := Q.field_string Try.underlying27 hf2 0 _ rfl Try.underlying9 (by kernel_rfl)
  replace e : c2_0 = .string a2_0 := Option.some.inj e
  have e2_0 := e
  clear e
  obtain ⟨a2_1, e, wa2_1⟩ := Q.field_string Try.underlying27 hf2 1 _ rfl Try.underlying9 (by kernel_rfl)
  replace e : c2_1 = .string a2_1 := Option.some.inj e
  have e2_1 := e
  clear e
  obtain ⟨a2_2, e, wa2_2⟩ := Q.field_int (k := .i64) Try.underlying27 hf2 2 _ rfl Try.underlying3 (by kernel_rfl)
  replace e : c2_2 = .int .i64 a2_2 := Option.some.inj e
  have e2_2 := e
  clear e
  obtain ⟨a2_3, e, wa2_3⟩ := Q.field_int (k := .i64) Try.underlying27 hf2 3 _ rfl Try.underlying3 (by kernel_rfl)
  replace e : c2_3 = .int .i64 a2_3 := Option.some.inj e
  have e2_3 := e
  clear e
  obtain ⟨a2_4, e, wa2_4⟩ := Q.field_int (k := .i64) Try.underlying27 hf2 4 _ rfl Try.underlying3 (by kernel_rfl)
  replace e : c2_4 = .int .i64 a2_4 := Option.some.inj e
  have e2_4 := e
  clear e
  obtain ⟨a2_5, e, wa2_5⟩ := Q.field_int (k := .i64) Try.underlying27 hf2 5 _ rfl Try.underlying3 (by kernel_rfl)
  replace e : c2_5 = .int .i64 a2_5 := Option.some.inj e
  have e2_5 := e
  clear e
  obtain ⟨a2_6, e, wa2_6⟩ := Q.field_int (k := .i64) Try.underlying27 hf2 6 _ rfl Try.underlying3 (by kernel_rfl)
  replace e : c2_6 = .int .i64 a2_6 := Option.some.inj e
  have e2_6 := e
  clear e
  obtain ⟨a2_7, e, wa2_7⟩ := Q.field_int (k := .i64) Try.underlying27 hf2 7 _ rfl Try.underlying3 (by kernel_rfl)
  replace e : c2_7 = .int .i64 a2_7 := Option.some.inj e
  have e2_7 := e
  clear e
  obtain ⟨a2_8, e, wa2_8⟩ := Q.field_int (k := .i64) Try.underlying27 hf2 8 _ rfl Try.underlying3 (by kernel_rfl)
  replace e : c2_8 = .int .i64 a2_8 := Option.some.inj e
  have e2_8 := e
  clear e
  obtain ⟨a2_9, e, wa2_9⟩ := Q.field_int (k := .i64) Try.underlying27 hf2 9 _ rfl Try.underlying3 (by kernel_rfl)
  replace e : c2_9 = .int .i64 a2_9 := Option.some.inj e
  have e2_9 := e
  clear e
  obtain ⟨a2_10, e, wa2_10⟩ := Q.field_int (k := .i64) Try.underlying27 hf2 10 _ rfl Try.underlying3 (by kernel_rfl)
  replace e : c2_10 = .int .i64 a2_10 := Option.some.inj e
  have e2_10 := e
  clear e
  obtain ⟨a2_11, e, wa2_11⟩ := Q.field_int (k := .i64) Try.underlying27 hf2 11 _ rfl Try.underlying3 (by kernel_rfl)
  replace e : c2_11 = .int .i64 a2_11 := Option.some.inj e
  have e2_11 := e
  clear e
  obtain ⟨a2_12, e, wa2_12⟩ := Q.field_int (k := .i64) Try.underlying27 hf2 12 _ rfl Try.underlying3 (by kernel_rfl)
  replace e : c2_12 = .int .i64 a2_12 := Option.some.inj e
  have e2_12 := e
  clear e
  obtain ⟨_, yhf2_13, hf2_13⟩ := Q.field_trod Try.underlying27 hf2 13 _ rfl
  replace hf2_13 : DataW.trod enc Try.prog W 0 (fun _ => true) true _ 25 [c2_13, c2_14, c2_15, c2_16, c2_17] = some yhf2_13 := hf2_13
  obtain ⟨a2_13, e, wa2_13⟩ := Q.field_int (k := .i64) Try.underlying25 hf2_13 0 _ rfl Try.underlying3 (by kernel_rfl)
  replace e : c2_13 = .int .i64 a2_13 := Option.some.inj e
  have e2_13 := e
  clear e
  obtain ⟨a2_14, e, wa2_14⟩ := Q.field_int (k := .i64) Try.underlying25 hf2_13 1 _ rfl Try.underlying3 (by kernel_rfl)
  replace e : c2_14 = .int .i64 a2_14 := Option.some.inj e
  have e2_14 := e
  clear e
  obtain ⟨a2_15, e, wa2_15⟩ := Q.field_int (k := .i64) Try.underlying25 hf2_13 2 _ rfl Try.underlying3 (by kernel_rfl)
  replace e : c2_15 = .int .i64 a2_15 := Option.some.inj e
  have e2_15 := e
  clear e
  obtain ⟨a2_16, e, wa2_16⟩ := Q.field_int (k := .i64) Try.underlying25 hf2_13 3 _ rfl Try.underlying3 (by kernel_rfl)
  replace e : c2_16 = .int .i64 a2_16 := Option.some.inj e
  have e2_16 := e
  clear e
  obtain ⟨a2_17, e, wa2_17⟩ := Q.field_int (k := .i64) Try.underlying25 hf2_13 4 _ rfl Try.underlying3 (by kernel_rfl)
  replace e : c2_17 = .int .i64 a2_17 := Option.some.inj e
  have e2_17 := e
  clear e
  subst e2_0 e2_1 e2_2 e2_3 e2_4 e2_5 e2_6 e2_7 e2_8 e2_9 e2_10 e2_11 e2_12 e2_13 e2_14 e2_15 e2_16 e2_17
  clear hA0 hval0 hsz0 hsz
  refine (Q.PlanFits.calls a0_0 a0_1 a1 a2_0 a2_1 a2_2 a2_3 a2_4 a2_5 a2_6 a2_7 a2_8 a2_9 a2_10 a2_11 a2_12 a2_13 a2_14 a2_15 a2_16 a2_17 W ).mono fun e W' ⟨he, bel⟩ => ?_
  subst he
  exact ⟨_, rfl, _, _, _, [], _, [], hW', trodAll_mk1 (shut_bool Try.underlying4 _), (trodAll_cons_mk (Below.trod laidOut (by kernel_rfl) (of_decide_eq_true (by kernel_rfl)) k0 bel lt0) (trodAll_cons_mk (shut_int Try.underlying3 w1) (trodAll_cons_mk (Below.trod laidOut (by kernel_rfl) (of_decide_eq_true (by kernel_rfl)) k2 bel lt2) trodAll_mk0))), rfl, bel.frame _, fun h => by cases h⟩
theorem over : Rows.planFitsRow.holds Try.pinned (OpenSpec.ofChange Rows.planFitsSpec) :=
  OpenClaim.holds_of_wide 3 Try.f3 rfl rfl rfl rfl rfl rfl rfl ⟨rfl, rfl, rfl, rfl, rfl⟩ rfl rfl rfl rfl rfl (by kernel_rfl) Try.func3 (by kernel_rfl)
    (of_decide_eq_true (by kernel_rfl)) (by unfold Func.isWrapper; first | (rw [if_pos (by decide +kernel)]; kernel_rfl) | (rw [if_neg (by decide +kernel)]; exact ⟨rfl, rfl⟩))
    (fun os started H enc _ => lifted os started H enc)
theorem proved : Rows.PlanFitsSaid := over
#print axioms proved
end Go.Proofs.Ytjnhghplfdiijaa.planFits
namespace Go.Proofs.Ytjnhghplfdiijaa
/-- The row, under a short name, for the claim. -/
theorem planFits_holds : Rows.PlanFitsSaid := planFits.proved
end Go.Proofs.Ytjnhghplfdiijaa
