/- The plans of layer 36: what plan.Request and plan.Response answer, for every frame, version and setting. -/
import Derived.Test.YtjnhghplfdiijaaQB
namespace Go.Proofs.Ytjnhghplfdiijaa.Q
open Go.RowKit Go.Proofs.YtjnhghplfdiijaaW.PrintWords Go.Proofs.YtjnhghplfdiijaaW.PrintLast Go.Proofs.YtjnhghplfdiijaaW.PrintMore
set_option linter.unusedVariables false
set_option linter.unusedSimpArgs false

def plan_Request.f (k n : Int) (c0 c1 : ByteArray) (m s c4 c5 ck c7 c8 c9 c10 c11 c12 l0 l1 l2 l3 l4 : Int) : Option (Int × Int × Bool × Int) :=
  some (if k = 1 then (k, n, false, 0) else if k = 2 then (if m > 0 then (2, 0, false, 0) else (1, 0, true, 0)) else (0, 0, false, 0))
def plan_Response.f (k n minor : Int) (c0 c1 : ByteArray) (m s c4 c5 ck c7 c8 c9 c10 c11 c12 l0 l1 l2 l3 l4 : Int) : Option (Int × Int × Bool × Int) :=
  some (if k = 1 then (k, n, false, 0) else if k = 2 then (if minor > 0 then (2, 0, false, 0) else if s = 0 then (1, 0, true, 0) else (3, 0, false, 0))
    else if k = 3 then (if minor > 0 then (2, 0, false, ck) else (3, 0, false, 0)) else (0, 0, false, 0))
set_option maxHeartbeats 1000000 in
theorem plan_Request.calls (k n : Int) (c0 c1 : ByteArray) (m s c4 c5 ck c7 c8 c9 c10 c11 c12 l0 l1 l2 l3 l4 : Int) (r1 r2 : Int) (r3 : Bool) (r4 : Int) (w : World) (h : plan_Request.f k n c0 c1 m s c4 c5 ck c7 c8 c9 c10 c11 c12 l0 l1 l2 l3 l4 = some (r1, r2, r3, r4)) :
    Calls Try.prog 15 #[.agg #[.int .i64 k, .int .i64 n], .agg #[.string c0, .string c1, .int .i64 m, .int .i64 s, .int .i64 c4, .int .i64 c5, .int .i64 ck, .int .i64 c7, .int .i64 c8, .int .i64 c9, .int .i64 c10, .int .i64 c11, .int .i64 c12, .int .i64 l0, .int .i64 l1, .int .i64 l2, .int .i64 l3, .int .i64 l4]] w fun e w' => e = .returned (.agg #[.int .i64 r1, .int .i64 r2, .bool r3, .int .i64 r4]) ∧ Below w.heap.size w w' := by
  by_cases h1 : k = 1
  · subst h1
    simp [plan_Request.f] at h
    obtain ⟨rfl, rfl, rfl, rfl⟩ := h
    go_enter Try.func15, Try.ntmps15
    go_wp2
    refine bodyPost_ret (v := .agg #[.int .i64 1, .int .i64 n, .bool false, .int .i64 0]) (by simp [results, go_sem]) rfl ?_
    go_wp2
    refine bodyPost_ret (v := .agg #[.int .i64 1, .int .i64 n, .bool false, .int .i64 0]) (by simp [results, Try.results15, go_sem]) rfl ⟨by simp, ?_⟩
    (repeat (first | exact Below.refl _ _ | apply below_alloc))
  by_cases h2 : k = 2
  · subst h2
    by_cases h3 : 0 < m
    · have h4 : ¬ m ≤ 0 := by omega
      simp [plan_Request.f, h3] at h
      obtain ⟨rfl, rfl, rfl, rfl⟩ := h
      go_enter Try.func15, Try.ntmps15
      go_wp2
      refine bodyPost_ret (v := .agg #[.int .i64 2, .int .i64 0, .bool false, .int .i64 0]) (by simp [results, go_sem]) rfl ?_
      go_wp2
      refine bodyPost_ret (v := .agg #[.int .i64 2, .int .i64 0, .bool false, .int .i64 0]) (by simp [results, Try.results15, go_sem]) rfl ⟨by simp, ?_⟩
      (repeat (first | exact Below.refl _ _ | apply below_alloc))
    · simp [plan_Request.f, h3] at h
      obtain ⟨rfl, rfl, rfl, rfl⟩ := h
      go_enter Try.func15, Try.ntmps15
      go_wp2
      refine bodyPost_ret (v := .agg #[.int .i64 1, .int .i64 0, .bool true, .int .i64 0]) (by simp [results, go_sem]) rfl ?_
      go_wp2
      refine bodyPost_ret (v := .agg #[.int .i64 1, .int .i64 0, .bool true, .int .i64 0]) (by simp [results, Try.results15, go_sem]) rfl ⟨by simp, ?_⟩
      (repeat (first | exact Below.refl _ _ | apply below_alloc))
  · simp [plan_Request.f, h1, h2] at h
    obtain ⟨rfl, rfl, rfl, rfl⟩ := h
    go_enter Try.func15, Try.ntmps15
    go_wp2
    refine bodyPost_ret (v := .agg #[.int .i64 0, .int .i64 0, .bool false, .int .i64 0]) (by simp [results, go_sem]) rfl ?_
    go_wp2
    refine bodyPost_ret (v := .agg #[.int .i64 0, .int .i64 0, .bool false, .int .i64 0]) (by simp [results, Try.results15, go_sem]) rfl ⟨by simp, ?_⟩
    (repeat (first | exact Below.refl _ _ | apply below_alloc))
set_option maxHeartbeats 1000000 in
theorem plan_Response.calls (k n minor : Int) (c0 c1 : ByteArray) (m s c4 c5 ck c7 c8 c9 c10 c11 c12 l0 l1 l2 l3 l4 : Int) (r1 r2 : Int) (r3 : Bool) (r4 : Int) (w : World) (h : plan_Response.f k n minor c0 c1 m s c4 c5 ck c7 c8 c9 c10 c11 c12 l0 l1 l2 l3 l4 = some (r1, r2, r3, r4)) :
    Calls Try.prog 16 #[.agg #[.int .i64 k, .int .i64 n], .int .i64 minor, .agg #[.string c0, .string c1, .int .i64 m, .int .i64 s, .int .i64 c4, .int .i64 c5, .int .i64 ck, .int .i64 c7, .int .i64 c8, .int .i64 c9, .int .i64 c10, .int .i64 c11, .int .i64 c12, .int .i64 l0, .int .i64 l1, .int .i64 l2, .int .i64 l3, .int .i64 l4]] w fun e w' => e = .returned (.agg #[.int .i64 r1, .int .i64 r2, .bool r3, .int .i64 r4]) ∧ Below w.heap.size w w' := by
  by_cases h1 : k = 1
  · subst h1
    simp [plan_Response.f] at h
    obtain ⟨rfl, rfl, rfl, rfl⟩ := h
    go_enter Try.func16, Try.ntmps16
    go_wp2
    refine bodyPost_ret (v := .agg #[.int .i64 1, .int .i64 n, .bool false, .int .i64 0]) (by simp [results, go_sem]) rfl ?_
    go_wp2
    refine bodyPost_ret (v := .agg #[.int .i64 1, .int .i64 n, .bool false, .int .i64 0]) (by simp [results, Try.results16, go_sem]) rfl ⟨by simp, ?_⟩
    (repeat (first | exact Below.refl _ _ | apply below_alloc))
  by_cases h2 : k = 2
  · subst h2
    by_cases h3 : 0 < minor
    · simp [plan_Response.f, h3] at h
      obtain ⟨rfl, rfl, rfl, rfl⟩ := h
      go_enter Try.func16, Try.ntmps16
      go_wp2
      refine bodyPost_ret (v := .agg #[.int .i64 2, .int .i64 0, .bool false, .int .i64 0]) (by simp [results, go_sem]) rfl ?_
      go_wp2
      refine bodyPost_ret (v := .agg #[.int .i64 2, .int .i64 0, .bool false, .int .i64 0]) (by simp [results, Try.results16, go_sem]) rfl ⟨by simp, ?_⟩
      (repeat (first | exact Below.refl _ _ | apply below_alloc))
    by_cases h4 : s = 0
    · subst h4
      simp [plan_Response.f, h3] at h
      obtain ⟨rfl, rfl, rfl, rfl⟩ := h
      go_enter Try.func16, Try.ntmps16
      go_wp2
      refine bodyPost_ret (v := .agg #[.int .i64 1, .int .i64 0, .bool true, .int .i64 0]) (by simp [results, go_sem]) rfl ?_
      go_wp2
      refine bodyPost_ret (v := .agg #[.int .i64 1, .int .i64 0, .bool true, .int .i64 0]) (by simp [results, Try.results16, go_sem]) rfl ⟨by simp, ?_⟩
      (repeat (first | exact Below.refl _ _ | apply below_alloc))
    · simp [plan_Response.f, h3, h4] at h
      obtain ⟨rfl, rfl, rfl, rfl⟩ := h
      go_enter Try.func16, Try.ntmps16
      go_wp2
      refine bodyPost_ret (v := .agg #[.int .i64 3, .int .i64 0, .bool false, .int .i64 0]) (by simp [results, go_sem]) rfl ?_
      go_wp2
      refine bodyPost_ret (v := .agg #[.int .i64 3, .int .i64 0, .bool false, .int .i64 0]) (by simp [results, Try.results16, go_sem]) rfl ⟨by simp, ?_⟩
      (repeat (first | exact Below.refl _ _ | apply below_alloc))
  by_cases h5 : k = 3
  · subst h5
    by_cases h3 : 0 < minor
    · simp [plan_Response.f, h3] at h
      obtain ⟨rfl, rfl, rfl, rfl⟩ := h
      go_enter Try.func16, Try.ntmps16
      go_wp2
      refine bodyPost_ret (v := .agg #[.int .i64 2, .int .i64 0, .bool false, .int .i64 ck]) (by simp [results, Try.results16, go_sem]) rfl ⟨by simp, ?_⟩
      (repeat (first | exact Below.refl _ _ | apply below_alloc))
    · simp [plan_Response.f, h3] at h
      obtain ⟨rfl, rfl, rfl, rfl⟩ := h
      go_enter Try.func16, Try.ntmps16
      go_wp2
      refine bodyPost_ret (v := .agg #[.int .i64 3, .int .i64 0, .bool false, .int .i64 0]) (by simp [results, go_sem]) rfl ?_
      go_wp2
      refine bodyPost_ret (v := .agg #[.int .i64 3, .int .i64 0, .bool false, .int .i64 0]) (by simp [results, Try.results16, go_sem]) rfl ⟨by simp, ?_⟩
      (repeat (first | exact Below.refl _ _ | apply below_alloc))
  · have e1 : (k == 1) = false := by simpa using h1
    have e2 : (k == 2) = false := by simpa using h2
    have e3 : (k == 3) = false := by simpa using h5
    simp [plan_Response.f, h1, h2, h5] at h
    obtain ⟨rfl, rfl, rfl, rfl⟩ := h
    go_enter Try.func16, Try.ntmps16
    go_wp2
    refine bodyPost_ret (v := .agg #[.int .i64 0, .int .i64 0, .bool false, .int .i64 0]) (by simp [results, go_sem]) rfl ?_
    go_wp2
    refine bodyPost_ret (v := .agg #[.int .i64 0, .int .i64 0, .bool false, .int .i64 0]) (by simp [results, Try.results16, go_sem]) rfl ⟨by simp, ?_⟩
    (repeat (first | exact Below.refl _ _ | apply below_alloc))
end Go.Proofs.Ytjnhghplfdiijaa.Q
