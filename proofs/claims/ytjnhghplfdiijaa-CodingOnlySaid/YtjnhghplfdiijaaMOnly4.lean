/- Only, part 4: contracts of functions and plain laws, one behind the other (joined by wip/merge.py out of: Hparams Hone Hparam Q77 Hpre5 Q74 Htrailers Q28 Q29 Q31 Hcoding). -/
import Derived.Test.YtjnhghplfdiijaaMOnly0
import Derived.Test.YtjnhghplfdiijaaMOnly1
import Derived.Test.YtjnhghplfdiijaaMOnly2
import Derived.Test.YtjnhghplfdiijaaMOnly3
import Derived.IntWalk
namespace Go.Proofs.Ytjnhghplfdiijaa.Q
open Go.RowKit Go.Proofs.YtjnhghplfdiijaaW.PrintWords Go.Proofs.YtjnhghplfdiijaaW.PrintLast Go.Lib Go.Shelf
set_option linter.unusedVariables false
set_option linter.unusedSimpArgs false
def params_Parse.l0 (k : Nat) : Nat → ByteArray → Int → List S141 → Option (Bool × List S141)
  | 0, _, _, _ => none
  | n + 1, s, a, l => if l.length < 1000000000 then (params_next.f k s a).bind fun t => if t.1.2.2 = true then params_Parse.l0 k n t.2.1 t.2.2 (l ++ [t.1.2.1]) else some (t.1.1, l ++ [t.1.2.1]) else none
def params_Parse.g (k : Nat) (s : ByteArray) : Option (ByteArray × List S141 × Int) :=
  if s.toList = [] then some (⟨#[]⟩, [], 2) else (cursor_Cursor_Token.f s 0).bind fun q => (octet_Lower.f q.1).bind fun name =>
    if name.toList = [] then some (⟨#[]⟩, [], 3) else (cursor_Cursor_Done.f q.2.1 q.2.2).bind fun d =>
      if d.1 = true then some (name, [], 0) else (params_Parse.l0 k k d.2.1 d.2.2 []).bind fun r => if r.1 = true then some (⟨#[]⟩, [], 3) else some (name, r.2, 0)
def params_Parse.f (s : ByteArray) : Option (ByteArray × List S141 × Int) := params_Parse.g (3 * s.size + 10) s
theorem params_next.more {k : Nat} {s s' : ByteArray} {a a' : Int} {bad : Bool} {p : S141} (h : params_next.f k s a = some ((bad, p, true), s', a')) : bad = false := by
  unfold params_next.f at h
  obtain ⟨x, _, h⟩ := Option.bind_eq_some_iff.1 h
  obtain ⟨y, _, h⟩ := Option.bind_eq_some_iff.1 h
  obtain ⟨z, _, h⟩ := Option.bind_eq_some_iff.1 h
  obtain ⟨q, _, h⟩ := Option.bind_eq_some_iff.1 h
  obtain ⟨n, _, h⟩ := Option.bind_eq_some_iff.1 h
  obtain ⟨v, _, h⟩ := Option.bind_eq_some_iff.1 h
  split at h
  · simp at h
  · obtain ⟨d, _, h⟩ := Option.bind_eq_some_iff.1 h
    simp only [Option.some.injEq, Prod.mk.injEq] at h
    exact h.1.1.symm
/-- What the loop has come to. -/
def PL (k n : Nat) (more bad : Bool) (l : List S141) (s : ByteArray) (a : Int) (r : Bool × List S141) : Prop :=
  if more = true then bad = false ∧ params_Parse.l0 k n s a l = some r else r = (bad, l)
set_option maxRecDepth 100000 in
set_option maxHeartbeats 4000000 in
theorem params_Parse.empty_ (a0 : ByteArray) (w : World) (hs : a0.toList = []) :
    Calls Try.prog 120 #[.string a0] w fun e w' => ∃ v0_ : Value, e = .returned (.tuple #[.string ⟨#[]⟩, v0_, .int .i64 2]) ∧ Kd.R k141 141 w' w.heap.size (fun _ => True) v0_ [] ∧ Below w.heap.size w w' := by
  have e1 : (a0.toList == ([] : List UInt8)) = true := beq_iff_eq.mpr hs
  have e3 : a0.toList.isEmpty = true := by rw [hs]; rfl
  clear hs
  go_enter Try.func120, Try.ntmps120
  go_wp2
  refine bodyPost_ret (v := .tuple #[.string ⟨#[]⟩, .slice none 0 0, .int .i64 2]) (by simp [results, Try.results120, go_sem]) rfl ⟨_, rfl, Kd.R_nil _ _ _ _ _, ?_⟩
  (repeat (first | exact Below.refl _ _ | apply below_alloc))
set_option maxRecDepth 100000 in
set_option maxHeartbeats 4000000 in
theorem params_Parse.main_ (k : Nat) (a0 : ByteArray) (r1 : ByteArray) (r2 : List S141) (r3 : Int) (w : World) (hs : a0.toList ≠ []) (h : params_Parse.g k a0 = some (r1, r2, r3)) :
    Calls Try.prog 120 #[.string a0] w fun e w' => ∃ v0_ : Value, e = .returned (.tuple #[.string r1, v0_, .int .i64 r3]) ∧ Kd.R k141 141 w' w.heap.size (fun _ => True) v0_ r2 ∧ Below w.heap.size w w' := by
  have e1 : (a0.toList == ([] : List UInt8)) = false := beq_eq_false_iff_ne.mpr hs
  have e3 : a0.toList.isEmpty = false := by cases h : a0.toList with | nil => exact absurd h hs | cons a b => rfl
  unfold params_Parse.g at h
  rw [if_neg hs] at h
  obtain ⟨⟨q1, q2, q3⟩, hQ, h⟩ := Option.bind_eq_some_iff.1 h
  obtain ⟨nm, hL, h⟩ := Option.bind_eq_some_iff.1 h
  dsimp only at h hL
  have HQ := Aside0.mk hQ
  have HL := Aside0.mk hL
  have HH := Aside0.mk h
  clear hs hQ hL h
  go_enter Try.func120, Try.ntmps120
  go_wp2_with fail
  refine (cursor_New.calls a0 a0 0 w _ ((Below.refl _ _).alloc (Nat.le_refl _) _) rfl).mono ?_
  rintro e w1 ⟨g, rfl, hI, hB, hB2⟩
  have HL1 : Aside0 (w1.heap[w.heap.size]? = some (.cells #[.slice none 0 0] 98 (0, 0))) := ⟨blk_below (blk_new w _) hB2⟩
  have HN1 : Aside0 (Below w.heap.size w w1) := ⟨hB⟩
  have HI1 := Aside0.mk hI
  clear hI hB hB2
  go_wp2_with fail
  obtain ⟨W1, hW1⟩ : ∃ W1, w1.alloc (.cells #[.pointer (some ⟨g, 0, none⟩)] 150) = W1 := ⟨_, rfl⟩
  have HC1 : Aside0 (W1.heap[w1.heap.size]? = some (.cells #[.pointer (some ⟨g, 0, none⟩)] 150 (0, 0))) := ⟨by rw [← hW1]; exact blk_new w1 _⟩
  have HL2 : Aside0 (W1.heap[w.heap.size]? = some (.cells #[.slice none 0 0] 98 (0, 0))) := ⟨by rw [← hW1]; exact blk_alloc HL1.out _⟩
  have HI2 : Aside0 (IsS176 w W1 g a0 0) := ⟨by rw [← hW1]; exact HI1.out.alloc _⟩
  have HN2 : Aside0 (Below w.heap.size w W1) := ⟨by rw [← hW1]; exact HN1.out.alloc HN1.out.size _⟩
  have HZ2 : Aside0 (w.heap.size ≤ w1.heap.size) := ⟨HN1.out.size⟩
  rw [hW1]
  clear hW1 HL1 HN1 HI1
  refine (cursor_Cursor_Token.calls g _ _ _ _ _ w _ HI2.out HN2.out HQ.out).mono ?_
  rintro e w2 ⟨rfl, hI, hB, hK⟩
  have HC3 := Aside0.mk (hK.blk HC1.out (blk_ne HC1.out HI2.out.1 (by decide)) (by simp))
  have HL3 := Aside0.mk (hK.blk HL2.out (blk_ne HL2.out HI2.out.1 (by decide)) (by simp))
  have HI3 := Aside0.mk hI
  have HN3 := Aside0.mk hB
  clear hI hB hK HC1 HL2 HI2 HN2
  go_wp2_with fail
  refine (octet_Lower.calls _ _ _ HL.out).mono ?_
  rintro e w3 ⟨rfl, hb⟩
  have HC4 := Aside0.mk (blk_below HC3.out hb)
  have HL4 := Aside0.mk (blk_below HL3.out hb)
  have HI4 := Aside0.mk (HI3.out.below hb)
  have HN4 := Aside0.mk (HN3.out.trans (hb.mono HN3.out.size))
  clear hb HC3 HL3 HI3 HN3 HQ HL
  by_cases hn : nm.toList = []
  · have h := HH.out
    rw [if_pos hn] at h
    simp only [Option.some.injEq, Prod.mk.injEq] at h
    obtain ⟨rfl, rfl, rfl⟩ := h
    have f1 : (nm.toList == ([] : List UInt8)) = true := beq_iff_eq.mpr hn
    have f3 : nm.toList.isEmpty = true := by rw [hn]; rfl
    clear hn
    have cc := blk_cell HC4.out 0
    have cl := blk_cell (blk_alloc HL4.out (.cells #[.bool true] 4)) 0
    have fl := blk_frozen (blk_alloc HL4.out (.cells #[.bool true] 4)) 0
    have cb := blk_cell (blk_new w3 (.cells #[.bool true] 4 (0, 0))) 0
    simp only [List.getElem?_toArray, List.getElem?_cons_zero] at cc cl cb
    go_wp2_with fail
    refine wp_loop_rounds 1 ?_
    rw [rounds_succ]
    go_wp2
    refine bodyPost_ret (v := .tuple #[.string ⟨#[]⟩, .slice none 0 0, .int .i64 3]) (by simp [results, Try.results120, go_sem, *]) rfl ⟨_, rfl, Kd.R_nil _ _ _ _ _, ?_⟩
    exact (HN4.out.alloc HN4.out.size _).setCell (Nat.le_refl _) _
  · have h := HH.out
    rw [if_neg hn] at h
    obtain ⟨⟨d1, d2, d3⟩, hD, h⟩ := Option.bind_eq_some_iff.1 h
    dsimp only at h
    have HD := Aside0.mk hD
    have HH2 := Aside0.mk h
    have hn : nm.toList ≠ [] := hn
    have f1 : (nm.toList == ([] : List UInt8)) = false := beq_eq_false_iff_ne.mpr hn
    have f3 : nm.toList.isEmpty = false := by cases h : nm.toList with | nil => exact absurd h hn | cons a b => rfl
    clear hn h hD HH
    have cc := blk_cell (blk_alloc HC4.out (.cells #[.bool false] 4)) 0
    have cl := blk_cell (blk_alloc HL4.out (.cells #[.bool false] 4)) 0
    have fl := blk_frozen (blk_alloc HL4.out (.cells #[.bool false] 4)) 0
    have cb := blk_cell (blk_new w3 (.cells #[.bool false] 4 (0, 0))) 0
    simp only [List.getElem?_toArray, List.getElem?_cons_zero] at cc cl cb
    have HN5 : Aside0 (NI w (w3.alloc (.cells #[.bool false] 4)) (fun _ => True) w1.heap.size w3.heap.size w.heap.size g false (.slice none 0 0) [] q2 q3) :=
      ⟨blk_alloc HC4.out _, blk_new w3 _, blk_alloc HL4.out _, Kd.R_nil _ _ _ _ _, HI4.out.alloc _, HN4.out.alloc HN4.out.size _, HZ2.out, HN4.out.size, Nat.le_refl _⟩
    have e5 := HN5.out.cc
    have e6 := HN5.out.cb
    clear HC4 HL4 HI4 HN4
    go_wp2_with fail
    refine (cursor_Cursor_Done.calls g _ _ _ _ _ w _ HN5.out.cur HN5.out.bel HD.out).mono ?_
    rintro e w4 ⟨rfl, hI, hB, hK⟩
    have HN6 := Aside0.mk (HN5.out.keep hK hI hB)
    clear hI hB hK HN5
    cases d1 with
    | true =>
      have h := HH2.out
      rw [if_pos rfl] at h
      simp only [Option.some.injEq, Prod.mk.injEq] at h
      obtain ⟨rfl, rfl, rfl⟩ := h
      have cc := HN6.out.cc
      have cb := HN6.out.cb
      have cl := HN6.out.cl
      have fl := HN6.out.fl
      go_wp2_with fail
      refine wp_loop_rounds 1 ?_
      rw [rounds_succ]
      go_wp2
      go_region
      go_wp2
      refine bodyPost_ret (v := .tuple #[.string nm, .slice none 0 0, .int .i64 0]) (by simp [results, Try.results120, go_sem, *]) rfl ⟨_, rfl, Kd.R_nil _ _ _ _ _, ?_⟩
      exact below_drew1 (HN6.out.bel.setCell (Nat.le_refl _) _)
    | false =>
      have h := HH2.out
      rw [if_neg (by simp)] at h
      obtain ⟨⟨b, l⟩, hl, h⟩ := Option.bind_eq_some_iff.1 h
      dsimp only at h
      have HLL := Aside0.mk hl
      have HH3 := Aside0.mk h
      clear hl h HH2
      go_wp2_with fail
      go_loopg [8] k (fun gg vm wr => ∃ (n : Nat) (more bad : Bool) (v : Value) (l1 : List S141) (s : ByteArray) (a : Int), vm = .bool more ∧ n ≤ gg ∧ Aside0 (PL k n more bad l1 s a (b, l)) ∧ Aside0 (NI w wr (fun _ => True) w1.heap.size w3.heap.size w.heap.size g bad v l1 s a))
      case atStart => exact ⟨k, true, false, _, [], _, _, rfl, Nat.le_refl _, ⟨by unfold PL; exact ⟨rfl, HLL.out⟩⟩, HN6⟩
      case round =>
        obtain ⟨n, more, bad, v, l1, s, a, rfl, hn, HP, HN⟩ := hrel
        have cc := HN.out.cc
        have cb := HN.out.cb
        have cl := HN.out.cl
        have fl := HN.out.fl
        cases more with
        | true =>
          have hp := HP.out
          unfold PL at hp
          rw [if_pos rfl] at hp
          obtain ⟨rfl, hp⟩ := hp
          cases n with
          | zero => exact absurd hp (by simp [params_Parse.l0])
          | succ n =>
            simp only [params_Parse.l0] at hp
            split at hp
            · rename_i hlt
              obtain ⟨⟨⟨b1, p1, m1⟩, s1, a1⟩, hx, hp⟩ := Option.bind_eq_some_iff.1 hp
              dsimp only at hp
              have HX := Aside0.mk hx
              have HPP := Aside0.mk hp
              have HLT := Aside0.mk hlt
              clear hx hp hlt HP
              go_wp2_with fail
              refine (params_next.calls k _ _ _ g v l1 s a b1 m1 p1 s1 a1 w _ HLT.out HN.out HX.out).mono ?_
              rintro e w5 ⟨rfl, v5, hN⟩
              have HN7 := Aside0.mk hN
              clear hN HN cc cb cl fl
              go_wp2
              go_roundg (gk - 1)
              case measure => omega
              case rel =>
                refine ⟨n, m1, b1, v5, _, s1, a1, rfl, by omega, ⟨?_⟩, HN7⟩
                unfold PL
                have hp := HPP.out
                cases m1 with
                | true =>
                  rw [if_pos rfl] at hp ⊢
                  exact ⟨params_next.more HX.out, hp⟩
                | false =>
                  rw [if_neg (by simp)] at hp ⊢
                  exact (Option.some.inj hp).symm
            · exact absurd hp (by simp)
        | false =>
          have hp := HP.out
          unfold PL at hp
          rw [if_neg (by simp)] at hp
          injection hp with hp1 hp2
          subst hp1 hp2
          cases b with
          | true =>
            have h := HH3.out
            rw [if_pos rfl] at h
            simp only [Option.some.injEq, Prod.mk.injEq] at h
            obtain ⟨rfl, rfl, rfl⟩ := h
            go_wp2
            refine bodyPost_ret (v := .tuple #[.string ⟨#[]⟩, .slice none 0 0, .int .i64 3]) (by simp [results, Try.results120, go_sem, *]) rfl ⟨_, rfl, Kd.R_nil _ _ _ _ _, ?_⟩
            exact HN.out.bel.setCell (Nat.le_refl _) _
          | false =>
            have h := HH3.out
            rw [if_neg (by simp)] at h
            simp only [Option.some.injEq, Prod.mk.injEq] at h
            obtain ⟨rfl, rfl, rfl⟩ := h
            obtain ⟨A9, c9, e9⟩ := Kd.R_slice HN.out.row
            obtain ⟨n9, hn9⟩ : ∃ n9, l.length = n9 := ⟨_, rfl⟩
            rw [hn9] at e9
            clear hn9
            subst e9
            go_wp2
            go_region
            go_wp2
            refine bodyPost_ret (v := .tuple #[.string nm, .slice A9 n9 c9, .int .i64 0]) (by simp [results, Try.results120, go_sem, *]) rfl ⟨_, rfl, ?_, ?_⟩
            · exact Kd.R_drew (Kd.R_set HN.out.row HN.out.2.2.1 (by intro q hq; change q ∈ [141] at hq; rw [List.mem_singleton.1 hq]; decide) 0 _)
            · exact below_drew1 (HN.out.bel.setCell (Nat.le_refl _) _)
theorem params_Parse.calls (a0 : ByteArray) (r1 : ByteArray) (r2 : List S141) (r3 : Int) (w : World) (h : params_Parse.f a0 = some (r1, r2, r3)) :
    Calls Try.prog 120 #[.string a0] w fun e w' => ∃ v0_ : Value, e = .returned (.tuple #[.string r1, v0_, .int .i64 r3]) ∧ Kd.R k141 141 w' w.heap.size (fun _ => True) v0_ r2 ∧ Below w.heap.size w w' := by
  by_cases hs : a0.toList = []
  · unfold params_Parse.f params_Parse.g at h
    rw [if_pos hs] at h
    simp only [Option.some.injEq, Prod.mk.injEq] at h
    obtain ⟨rfl, rfl, rfl⟩ := h
    exact params_Parse.empty_ a0 w hs
  · exact params_Parse.main_ _ a0 r1 r2 r3 w hs h
end Go.Proofs.Ytjnhghplfdiijaa.Q

namespace Go.Proofs.Ytjnhghplfdiijaa.Q
open Go.RowKit Go.Proofs.YtjnhghplfdiijaaW.PrintWords Go.Proofs.YtjnhghplfdiijaaW.PrintLast Go.Lib Go.Shelf
set_option linter.unusedVariables false
set_option linter.unusedSimpArgs false
theorem rTok_any (s : ByteArray) (hs : s.size ≤ 1000000000) (W : World) : Calls Try.prog 124 #[.string s] W fun e w' => e = .returned (.int .i64 (spanN tcharI s : Nat)) ∧ Below W.heap.size W w' := by
  obtain ⟨K, hK⟩ := ev_tok s (by omega)
  exact (abutmentref04_Token.calls K s _ W (hK K (Nat.le_refl _))).mono fun e w' ⟨h1, h2⟩ => ⟨h1, h2.below⟩
theorem rSkip_any (s : ByteArray) (hs : s.size ≤ 1000000000) (W : World) : Calls Try.prog 170 #[.string s] W fun e w' => e = .returned (.int .i64 (spanN blankB s : Nat)) ∧ Below W.heap.size W w' := by
  obtain ⟨K, hK⟩ := ev_skip s (by omega)
  exact (abutmentref04_Skip.calls K s _ W (hK K (Nat.le_refl _))).mono fun e w' ⟨h1, h2⟩ => ⟨h1, h2.below⟩
theorem rLower_any (s : ByteArray) (hs : s.size ≤ 1000000000) (W : World) : Calls Try.prog 83 #[.string s] W fun e w' => e = .returned (.string (lowerS s)) ∧ Below W.heap.size W w' := by
  obtain ⟨K, hK⟩ := ev_lower s hs
  exact abutmentref01_Lower.calls K s _ W (hK K (Nat.le_refl _))
theorem rQuoted_any (s : ByteArray) (hs : s.size ≤ 1000000000) (W : World) : Calls Try.prog 138 #[.string s] W fun e w' => e = .returned (.tuple #[.string (quotedR s).1, .int .i64 (quotedR s).2]) ∧ Below W.heap.size W w' := by
  obtain ⟨K, hK⟩ := ev_quoted s hs
  exact (abutmentref04_Quoted.calls K s (quotedR s).1 (quotedR s).2 W (hK K (Nat.le_refl _))).mono fun e w' ⟨h1, h2⟩ => ⟨h1, h2.below⟩
theorem quotedR_range (s : ByteArray) : 0 ≤ (quotedR s).2 ∧ (quotedR s).2 ≤ s.size := by
  unfold quotedR
  split <;> simp <;> omega
theorem put3 {w : World} {g t : Nat} {a0 b0 c0 : Value} (h : w.heap[g]? = some (.cells #[a0, b0, c0] t (0, 0))) (a b c : Value) : (((w.setCell ⟨g, 0, none⟩ a).setCell ⟨g, 1, none⟩ b).setCell ⟨g, 2, none⟩ c).heap[g]? = some (.cells #[a, b, c] t (0, 0)) :=
  blk_put (blk_put (blk_put h 0 a rfl) 1 b rfl) 2 c rfl
theorem below3 {B : Nat} {w0 w : World} (h : Below B w0 w) {g : Nat} (hg : B ≤ g) (a b c : Value) : Below B w0 (((w.setCell ⟨g, 0, none⟩ a).setCell ⟨g, 1, none⟩ b).setCell ⟨g, 2, none⟩ c) := ((h.setCell hg _).setCell hg _).setCell hg _
def oneR (s : ByteArray) : ByteArray × ByteArray × Bool × Bool :=
  if spanN tcharI s = 0 ∨ spanN tcharI s = s.size then (lowerS (s.extract 0 (spanN tcharI s)), ⟨#[]⟩, false, decide (0 < spanN tcharI s))
  else if bt s (spanN tcharI s : Nat) ≠ 61 then (lowerS (s.extract 0 (spanN tcharI s)), ⟨#[]⟩, false, false)
  else if 0 < spanN tcharI (s.extract (spanN tcharI s + 1) s.size) then
    (lowerS (s.extract 0 (spanN tcharI s)), (s.extract (spanN tcharI s + 1) s.size).extract 0 (spanN tcharI (s.extract (spanN tcharI s + 1) s.size)), true, decide (spanN tcharI (s.extract (spanN tcharI s + 1) s.size) = (s.extract (spanN tcharI s + 1) s.size).size))
  else (lowerS (s.extract 0 (spanN tcharI s)), (quotedR (s.extract (spanN tcharI s + 1) s.size)).1, true, decide (0 < (quotedR (s.extract (spanN tcharI s + 1) s.size)).2 ∧ (quotedR (s.extract (spanN tcharI s + 1) s.size)).2 = ((s.extract (spanN tcharI s + 1) s.size).size : Int)))
def abutmentref21_One.f (s : ByteArray) : Option (ByteArray × ByteArray × Bool × Bool) := if s.size ≤ 1000000000 then some (oneR s) else none
set_option maxHeartbeats 4000000 in
set_option maxRecDepth 100000 in
theorem one_short (s : ByteArray) (hs : s.size ≤ 1000000000) (n : Nat) (hn : spanN tcharI s = n) (hz : n = 0 ∨ n = s.size) (w : World) :
    Calls Try.prog 87 #[.string s] w fun e w' => e = .returned (.tuple #[.agg #[.string (lowerS (s.extract 0 n)), .string ⟨#[]⟩, .bool false], .bool (decide (0 < n))]) ∧ Below w.heap.size w w' := by
  have HT := Aside0.mk (fun W => rTok_any s hs W)
  have hnle := spanN_le tcharI s
  rw [hn] at HT hnle
  clear hn
  have hnle2 : (n : Int) ≤ (s.size : Int) := by omega
  have HL := Aside0.mk (fun W => rLower_any (s.extract 0 n) (by simp; omega) W)
  obtain ⟨nm, hnm⟩ : ∃ nm, lowerS (s.extract 0 n) = nm := ⟨_, rfl⟩
  rw [hnm] at HL ⊢
  clear hnm
  have hz2 : (((n : Int) == 0) = true ∧ decide (0 < n) = false ∧ decide ((0 : Int) < (n : Int)) = false) ∨ (((n : Int) == 0) = false ∧ ((n : Int) == (s.size : Int)) = true ∧ decide (0 < n) = true ∧ decide ((0 : Int) < (n : Int)) = true) := by
    by_cases e : n = 0
    · left; subst e; exact ⟨rfl, rfl, rfl⟩
    · right; exact ⟨beq_eq_false_iff_ne.mpr (by omega), beq_iff_eq.mpr (by omega), decide_eq_true (by omega), decide_eq_true (by omega)⟩
  go_enter Try.func87, Try.ntmps87
  go_wp2_with fail
  refine (HT.out _).mono ?_
  rintro e w1 ⟨rfl, hb⟩
  have G1 := Aside0.mk (blk_below (blk_new w (.cells #[.string ⟨#[]⟩, .string ⟨#[]⟩, .bool false] 51 (0, 0))) hb)
  have B1 : Aside0 (Below w.heap.size w w1) := ⟨((Below.refl _ _).alloc (Nat.le_refl _) _).trans (hb.mono (by simp))⟩
  clear hb HT
  go_wp2_with fail
  refine (HL.out _).mono ?_
  rintro e w2 ⟨rfl, hb⟩
  have G2 := Aside0.mk (blk_below G1.out hb)
  have B2 := Aside0.mk (B1.out.trans (hb.mono B1.out.size))
  clear hb HL G1 B1
  have G3 := Aside0.mk (blk_alloc G2.out (.cells #[.string nm, .string ⟨#[]⟩, .bool false] 51))
  have D3 := Aside0.mk (blk_new w2 (.cells #[.string nm, .string ⟨#[]⟩, .bool false] 51 (0, 0)))
  have B3 := Aside0.mk (B2.out.alloc B2.out.size (.cells #[.string nm, .string ⟨#[]⟩, .bool false] 51))
  have N3 : w.heap.size ≠ w2.heap.size := fun e => by have := blk_lt G2.out; omega
  have N4 : w2.heap.size ≠ w.heap.size := fun e => N3 e.symm
  have Z3 := Aside0.mk B2.out.size
  clear G2 B2
  have q0_0 := blk_cell G3.out 0
  have q0_1 := blk_cell G3.out 1
  have q0_2 := blk_cell G3.out 2
  simp only [List.getElem?_toArray, List.getElem?_cons_zero, List.getElem?_cons_succ] at q0_0 q0_1 q0_2
  have f0_0 := blk_frozen G3.out 0
  have f0_1 := blk_frozen G3.out 1
  have f0_2 := blk_frozen G3.out 2
  rcases hz2 with ⟨z1, z2, z3⟩ | ⟨z1, z2, z3, z4⟩
  all_goals
    go_wp2
    refine bodyPost_ret (results_ct rfl _ _ w.heap.size 51 #[.string nm, .string ⟨#[]⟩, .bool false] (0, 0) _ rfl (put3 G3.out _ _ _) Try.underlying51 rfl (by kernel_rfl)) rfl ⟨(by first | (rw [z2]; rfl) | (rw [z3]; rfl)), below3 B3.out (Nat.le_refl _) _ _ _⟩
set_option maxHeartbeats 4000000 in
set_option maxRecDepth 100000 in
theorem one_other (s : ByteArray) (hs : s.size ≤ 1000000000) (n : Nat) (hn : spanN tcharI s = n) (hz : n ≠ 0) (hz2 : n ≠ s.size) (hb61 : bt s (n : Int) ≠ 61) (w : World) :
    Calls Try.prog 87 #[.string s] w fun e w' => e = .returned (.tuple #[.agg #[.string (lowerS (s.extract 0 n)), .string ⟨#[]⟩, .bool false], .bool false]) ∧ Below w.heap.size w w' := by
  have HT := Aside0.mk (fun W => rTok_any s hs W)
  have hnle := spanN_le tcharI s
  rw [hn] at HT hnle
  clear hn
  have hnle2 : (n : Int) ≤ (s.size : Int) := by omega
  have HL := Aside0.mk (fun W => rLower_any (s.extract 0 n) (by simp; omega) W)
  obtain ⟨nm, hnm⟩ : ∃ nm, lowerS (s.extract 0 n) = nm := ⟨_, rfl⟩
  rw [hnm] at HL ⊢
  clear hnm
  have hlt : n < s.size := by omega
  have z1 : ((n : Int) == 0) = false := beq_eq_false_iff_ne.mpr (by omega)
  have z2 : ((n : Int) == (s.size : Int)) = false := beq_eq_false_iff_ne.mpr (by omega)
  have hbt : ∀ h : n < s.size, ((s[n]'h).toNat : Int) = bt s (n : Int) := fun h => bt_at s (n : Int) h
  have p1 : (0 : Int) ≤ (n : Int) := by omega
  have p2 : (n : Int) < (s.size : Int) := by omega
  clear hz hz2
  have c1 : ((bt s (n : Int)) == 61) = false := beq_eq_false_iff_ne.mpr hb61
  have c2 : ((bt s (n : Int)) != 61) = true := bne_iff_ne.mpr hb61
  clear hb61
  go_enter Try.func87, Try.ntmps87
  go_wp2_with fail
  refine (HT.out _).mono ?_
  rintro e w1 ⟨rfl, hb⟩
  have G1 := Aside0.mk (blk_below (blk_new w (.cells #[.string ⟨#[]⟩, .string ⟨#[]⟩, .bool false] 51 (0, 0))) hb)
  have B1 : Aside0 (Below w.heap.size w w1) := ⟨((Below.refl _ _).alloc (Nat.le_refl _) _).trans (hb.mono (by simp))⟩
  clear hb HT
  go_wp2_with fail
  refine (HL.out _).mono ?_
  rintro e w2 ⟨rfl, hb⟩
  have G2 := Aside0.mk (blk_below G1.out hb)
  have B2 := Aside0.mk (B1.out.trans (hb.mono B1.out.size))
  clear hb HL G1 B1
  have G3 := Aside0.mk (blk_alloc G2.out (.cells #[.string nm, .string ⟨#[]⟩, .bool false] 51))
  have D3 := Aside0.mk (blk_new w2 (.cells #[.string nm, .string ⟨#[]⟩, .bool false] 51 (0, 0)))
  have B3 := Aside0.mk (B2.out.alloc B2.out.size (.cells #[.string nm, .string ⟨#[]⟩, .bool false] 51))
  have N3 : w.heap.size ≠ w2.heap.size := fun e => by have := blk_lt G2.out; omega
  have N4 : w2.heap.size ≠ w.heap.size := fun e => N3 e.symm
  have Z3 := Aside0.mk B2.out.size
  clear G2 B2
  have q0_0 := blk_cell G3.out 0
  have q0_1 := blk_cell G3.out 1
  have q0_2 := blk_cell G3.out 2
  simp only [List.getElem?_toArray, List.getElem?_cons_zero, List.getElem?_cons_succ] at q0_0 q0_1 q0_2
  have f0_0 := blk_frozen G3.out 0
  have f0_1 := blk_frozen G3.out 1
  have f0_2 := blk_frozen G3.out 2
  go_wp2
  refine bodyPost_ret (results_ct rfl _ _ w.heap.size 51 #[.string nm, .string ⟨#[]⟩, .bool false] (0, 0) _ rfl (put3 G3.out _ _ _) Try.underlying51 rfl (by kernel_rfl)) rfl ⟨rfl, below3 B3.out (Nat.le_refl _) _ _ _⟩
set_option maxHeartbeats 4000000 in
set_option maxRecDepth 100000 in
theorem one_token (s : ByteArray) (hs : s.size ≤ 1000000000) (n : Nat) (hn : spanN tcharI s = n) (hz : n ≠ 0) (hz2 : n ≠ s.size) (hb61 : bt s (n : Int) = 61) (k : Nat) (hk : spanN tcharI (s.extract (n + 1) s.size) = k) (hk0 : 0 < k) (w : World) :
    Calls Try.prog 87 #[.string s] w fun e w' => e = .returned (.tuple #[.agg #[.string (lowerS (s.extract 0 n)), .string ((s.extract (n + 1) s.size).extract 0 k), .bool true], .bool (decide (k = (s.extract (n + 1) s.size).size))]) ∧ Below w.heap.size w w' := by
  have HT := Aside0.mk (fun W => rTok_any s hs W)
  have hnle := spanN_le tcharI s
  rw [hn] at HT hnle
  clear hn
  have hnle2 : (n : Int) ≤ (s.size : Int) := by omega
  have HL := Aside0.mk (fun W => rLower_any (s.extract 0 n) (by simp; omega) W)
  obtain ⟨nm, hnm⟩ : ∃ nm, lowerS (s.extract 0 n) = nm := ⟨_, rfl⟩
  rw [hnm] at HL ⊢
  clear hnm
  have hlt : n < s.size := by omega
  have z1 : ((n : Int) == 0) = false := beq_eq_false_iff_ne.mpr (by omega)
  have z2 : ((n : Int) == (s.size : Int)) = false := beq_eq_false_iff_ne.mpr (by omega)
  have hbt : ∀ h : n < s.size, ((s[n]'h).toNat : Int) = bt s (n : Int) := fun h => bt_at s (n : Int) h
  have p1 : (0 : Int) ≤ (n : Int) := by omega
  have p2 : (n : Int) < (s.size : Int) := by omega
  clear hz hz2
  have c1 : ((bt s (n : Int)) == 61) = true := beq_iff_eq.mpr hb61
  have c2 : ((bt s (n : Int)) != 61) = false := bne_eq_false_iff_eq.mpr hb61
  clear hb61
  have hw : IntKind.i64.wrap ((n : Int) + 1) = (n : Int) + 1 := IntWalk.i64_in _ (by omega)
  have p3 : (0 : Int) ≤ (n : Int) + 1 := by omega
  have p4 : (n : Int) + 1 ≤ (s.size : Int) := by omega
  have p5 : ((n : Int) + 1).toNat = n + 1 := by omega
  have hsz : (s.extract (n + 1) s.size).size ≤ 1000000000 := by simp; omega
  obtain ⟨t, ht⟩ : ∃ t, s.extract (n + 1) s.size = t := ⟨_, rfl⟩
  have HE := Aside0.mk ht
  rw [ht] at hsz hk ⊢
  clear ht
  have HK := Aside0.mk (fun W => rTok_any t hsz W)
  have hkle := spanN_le tcharI t
  rw [hk] at HK hkle
  clear hk
  have hkle2 : (k : Int) ≤ (t.size : Int) := by omega
  have p6 : (0 : Int) ≤ (k : Int) := by omega
  have p7 : decide ((0 : Int) < (k : Int)) = true := decide_eq_true (by omega)
  have p8 : decide (0 < k) = true := decide_eq_true hk0
  clear hk0
  obtain ⟨b, hb⟩ : ∃ b, decide (k = t.size) = b := ⟨_, rfl⟩
  have hb2 : ((k : Int) == (t.size : Int)) = b := by rw [← hb, Bool.eq_iff_iff]; simp; omega
  rw [hb]
  clear hb
  go_enter Try.func87, Try.ntmps87
  go_wp2_with fail
  refine (HT.out _).mono ?_
  rintro e w1 ⟨rfl, hb⟩
  have G1 := Aside0.mk (blk_below (blk_new w (.cells #[.string ⟨#[]⟩, .string ⟨#[]⟩, .bool false] 51 (0, 0))) hb)
  have B1 : Aside0 (Below w.heap.size w w1) := ⟨((Below.refl _ _).alloc (Nat.le_refl _) _).trans (hb.mono (by simp))⟩
  clear hb HT
  go_wp2_with fail
  refine (HL.out _).mono ?_
  rintro e w2 ⟨rfl, hb⟩
  have G2 := Aside0.mk (blk_below G1.out hb)
  have B2 := Aside0.mk (B1.out.trans (hb.mono B1.out.size))
  clear hb HL G1 B1
  have G4 := Aside0.mk (blk_alloc G2.out (.cells #[.string nm, .string ⟨#[]⟩, .bool true] 51))
  have D4 := Aside0.mk (blk_new w2 (.cells #[.string nm, .string ⟨#[]⟩, .bool true] 51 (0, 0)))
  have B4 := Aside0.mk (B2.out.alloc B2.out.size (.cells #[.string nm, .string ⟨#[]⟩, .bool true] 51))
  have N3 : w.heap.size ≠ w2.heap.size := fun e => by have := blk_lt G2.out; omega
  have N4 : w2.heap.size ≠ w.heap.size := fun e => N3 e.symm
  have Z3 := Aside0.mk B2.out.size
  clear G2 B2
  go_upto_region 9 with (fail)
  rw [HE.out]
  clear hw p3 p4 p5 c1 c2 z1 z2 hbt p1 p2
  go_wp2_with fail
  refine (HK.out _).mono ?_
  rintro e w3 ⟨rfl, hb⟩
  have G5 := Aside0.mk (blk_below G4.out hb)
  have D5 := Aside0.mk (blk_below D4.out hb)
  have B5 := Aside0.mk (B4.out.trans (hb.mono B4.out.size))
  clear hb G4 D4 B4 HK
  have q5_0 := blk_cell G5.out 0
  have q5_1 := blk_cell G5.out 1
  have q5_2 := blk_cell G5.out 2
  simp only [List.getElem?_toArray, List.getElem?_cons_zero, List.getElem?_cons_succ] at q5_0 q5_1 q5_2
  have f5_0 := blk_frozen G5.out 0
  have f5_1 := blk_frozen G5.out 1
  have f5_2 := blk_frozen G5.out 2
  have q6_0 := blk_cell D5.out 0
  have q6_1 := blk_cell D5.out 1
  have q6_2 := blk_cell D5.out 2
  simp only [List.getElem?_toArray, List.getElem?_cons_zero, List.getElem?_cons_succ] at q6_0 q6_1 q6_2
  have f6_0 := blk_frozen D5.out 0
  have f6_1 := blk_frozen D5.out 1
  have f6_2 := blk_frozen D5.out 2
  have G6 := Aside0.mk (blk_far G5.out (p := ⟨w2.heap.size, 1, none⟩) N3 (.string (t.extract 0 k)))
  have B6 := Aside0.mk (B5.out.setCell (p := ⟨w2.heap.size, 1, none⟩) Z3.out (.string (t.extract 0 k)))
  go_wp2
  refine bodyPost_ret (results_ct rfl _ _ w.heap.size 51 #[.string nm, .string (t.extract 0 k), .bool true] (0, 0) _ rfl (put3 G6.out _ _ _) Try.underlying51 rfl (by kernel_rfl)) rfl ⟨rfl, below3 B6.out (Nat.le_refl _) _ _ _⟩
set_option maxHeartbeats 4000000 in
set_option maxRecDepth 100000 in
theorem one_quoted (s : ByteArray) (hs : s.size ≤ 1000000000) (n : Nat) (hn : spanN tcharI s = n) (hz : n ≠ 0) (hz2 : n ≠ s.size) (hb61 : bt s (n : Int) = 61) (k : Nat) (hk : spanN tcharI (s.extract (n + 1) s.size) = k) (hk0 : ¬ 0 < k) (w : World) :
    Calls Try.prog 87 #[.string s] w fun e w' => e = .returned (.tuple #[.agg #[.string (lowerS (s.extract 0 n)), .string (quotedR (s.extract (n + 1) s.size)).1, .bool true], .bool (decide (0 < (quotedR (s.extract (n + 1) s.size)).2 ∧ (quotedR (s.extract (n + 1) s.size)).2 = ((s.extract (n + 1) s.size).size : Int)))]) ∧ Below w.heap.size w w' := by
  have HT := Aside0.mk (fun W => rTok_any s hs W)
  have hnle := spanN_le tcharI s
  rw [hn] at HT hnle
  clear hn
  have hnle2 : (n : Int) ≤ (s.size : Int) := by omega
  have HL := Aside0.mk (fun W => rLower_any (s.extract 0 n) (by simp; omega) W)
  obtain ⟨nm, hnm⟩ : ∃ nm, lowerS (s.extract 0 n) = nm := ⟨_, rfl⟩
  rw [hnm] at HL ⊢
  clear hnm
  have hlt : n < s.size := by omega
  have z1 : ((n : Int) == 0) = false := beq_eq_false_iff_ne.mpr (by omega)
  have z2 : ((n : Int) == (s.size : Int)) = false := beq_eq_false_iff_ne.mpr (by omega)
  have hbt : ∀ h : n < s.size, ((s[n]'h).toNat : Int) = bt s (n : Int) := fun h => bt_at s (n : Int) h
  have p1 : (0 : Int) ≤ (n : Int) := by omega
  have p2 : (n : Int) < (s.size : Int) := by omega
  clear hz hz2
  have c1 : ((bt s (n : Int)) == 61) = true := beq_iff_eq.mpr hb61
  have c2 : ((bt s (n : Int)) != 61) = false := bne_eq_false_iff_eq.mpr hb61
  clear hb61
  have hw : IntKind.i64.wrap ((n : Int) + 1) = (n : Int) + 1 := IntWalk.i64_in _ (by omega)
  have p3 : (0 : Int) ≤ (n : Int) + 1 := by omega
  have p4 : (n : Int) + 1 ≤ (s.size : Int) := by omega
  have p5 : ((n : Int) + 1).toNat = n + 1 := by omega
  have hsz : (s.extract (n + 1) s.size).size ≤ 1000000000 := by simp; omega
  obtain ⟨t, ht⟩ : ∃ t, s.extract (n + 1) s.size = t := ⟨_, rfl⟩
  have HE := Aside0.mk ht
  rw [ht] at hsz hk ⊢
  clear ht
  have HK := Aside0.mk (fun W => rTok_any t hsz W)
  have hkle := spanN_le tcharI t
  rw [hk] at HK hkle
  clear hk
  have hkle2 : (k : Int) ≤ (t.size : Int) := by omega
  have p6 : (0 : Int) ≤ (k : Int) := by omega
  have p7 : decide ((0 : Int) < (k : Int)) = false := decide_eq_false (by omega)
  have p8 : decide (0 < k) = false := decide_eq_false hk0
  clear hk0
  have hqr := quotedR_range t
  have HQ := Aside0.mk (fun W => rQuoted_any t hsz W)
  obtain ⟨v, hv⟩ : ∃ v, (quotedR t).1 = v := ⟨_, rfl⟩
  obtain ⟨q, hq⟩ : ∃ q, (quotedR t).2 = q := ⟨_, rfl⟩
  rw [hv, hq] at HQ ⊢
  rw [hq] at hqr
  clear hv hq
  obtain ⟨hq0, hq1⟩ := hqr
  obtain ⟨b, hb⟩ : ∃ b, decide (0 < q ∧ q = (t.size : Int)) = b := ⟨_, rfl⟩
  rw [hb]
  have hcase : (decide ((0 : Int) < q) = false ∧ b = false) ∨ (decide ((0 : Int) < q) = true ∧ (q == (t.size : Int)) = b) := by
    rw [← hb]
    by_cases e : 0 < q
    · right; exact ⟨decide_eq_true e, by rw [Bool.eq_iff_iff]; simp [e]⟩
    · left; exact ⟨decide_eq_false e, decide_eq_false (fun h => e h.1)⟩
  clear hb
  go_enter Try.func87, Try.ntmps87
  go_wp2_with fail
  refine (HT.out _).mono ?_
  rintro e w1 ⟨rfl, hb⟩
  have G1 := Aside0.mk (blk_below (blk_new w (.cells #[.string ⟨#[]⟩, .string ⟨#[]⟩, .bool false] 51 (0, 0))) hb)
  have B1 : Aside0 (Below w.heap.size w w1) := ⟨((Below.refl _ _).alloc (Nat.le_refl _) _).trans (hb.mono (by simp))⟩
  clear hb HT
  go_wp2_with fail
  refine (HL.out _).mono ?_
  rintro e w2 ⟨rfl, hb⟩
  have G2 := Aside0.mk (blk_below G1.out hb)
  have B2 := Aside0.mk (B1.out.trans (hb.mono B1.out.size))
  clear hb HL G1 B1
  have G4 := Aside0.mk (blk_alloc G2.out (.cells #[.string nm, .string ⟨#[]⟩, .bool true] 51))
  have D4 := Aside0.mk (blk_new w2 (.cells #[.string nm, .string ⟨#[]⟩, .bool true] 51 (0, 0)))
  have B4 := Aside0.mk (B2.out.alloc B2.out.size (.cells #[.string nm, .string ⟨#[]⟩, .bool true] 51))
  have N3 : w.heap.size ≠ w2.heap.size := fun e => by have := blk_lt G2.out; omega
  have N4 : w2.heap.size ≠ w.heap.size := fun e => N3 e.symm
  have Z3 := Aside0.mk B2.out.size
  clear G2 B2
  go_upto_region 9 with (fail)
  rw [HE.out]
  clear hw p3 p4 p5 c1 c2 z1 z2 hbt p1 p2
  go_wp2_with fail
  refine (HK.out _).mono ?_
  rintro e w3 ⟨rfl, hb⟩
  have G5 := Aside0.mk (blk_below G4.out hb)
  have D5 := Aside0.mk (blk_below D4.out hb)
  have B5 := Aside0.mk (B4.out.trans (hb.mono B4.out.size))
  clear hb G4 D4 B4 HK
  have q5_0 := blk_cell G5.out 0
  have q5_1 := blk_cell G5.out 1
  have q5_2 := blk_cell G5.out 2
  simp only [List.getElem?_toArray, List.getElem?_cons_zero, List.getElem?_cons_succ] at q5_0 q5_1 q5_2
  have f5_0 := blk_frozen G5.out 0
  have f5_1 := blk_frozen G5.out 1
  have f5_2 := blk_frozen G5.out 2
  have q6_0 := blk_cell D5.out 0
  have q6_1 := blk_cell D5.out 1
  have q6_2 := blk_cell D5.out 2
  simp only [List.getElem?_toArray, List.getElem?_cons_zero, List.getElem?_cons_succ] at q6_0 q6_1 q6_2
  have f6_0 := blk_frozen D5.out 0
  have f6_1 := blk_frozen D5.out 1
  have f6_2 := blk_frozen D5.out 2
  have G6 := Aside0.mk (blk_far G5.out (p := ⟨w2.heap.size, 1, none⟩) N3 (.string (t.extract 0 k)))
  have B6 := Aside0.mk (B5.out.setCell (p := ⟨w2.heap.size, 1, none⟩) Z3.out (.string (t.extract 0 k)))
  go_wp2_with fail
  refine (HQ.out _).mono ?_
  rintro e w4 ⟨rfl, hb⟩
  have D6 := Aside0.mk (blk_put (cs' := #[.string nm, .string (t.extract 0 k), .bool true]) D5.out 1 (.string (t.extract 0 k)) rfl)
  have G7 := Aside0.mk (blk_below G6.out hb)
  have D7 := Aside0.mk (blk_below D6.out hb)
  have B7 := Aside0.mk (B6.out.trans (hb.mono B6.out.size))
  clear hb G6 D6 B6 HQ
  clear q5_0 f5_0 q5_1 f5_1 q5_2 f5_2
  clear q6_0 f6_0 q6_1 f6_1 q6_2 f6_2
  have q7_0 := blk_cell G7.out 0
  have q7_1 := blk_cell G7.out 1
  have q7_2 := blk_cell G7.out 2
  simp only [List.getElem?_toArray, List.getElem?_cons_zero, List.getElem?_cons_succ] at q7_0 q7_1 q7_2
  have f7_0 := blk_frozen G7.out 0
  have f7_1 := blk_frozen G7.out 1
  have f7_2 := blk_frozen G7.out 2
  have q8_0 := blk_cell D7.out 0
  have q8_1 := blk_cell D7.out 1
  have q8_2 := blk_cell D7.out 2
  simp only [List.getElem?_toArray, List.getElem?_cons_zero, List.getElem?_cons_succ] at q8_0 q8_1 q8_2
  have f8_0 := blk_frozen D7.out 0
  have f8_1 := blk_frozen D7.out 1
  have f8_2 := blk_frozen D7.out 2
  have G8 := Aside0.mk (blk_far G7.out (p := ⟨w2.heap.size, 1, none⟩) N3 (.string v))
  have B8 := Aside0.mk (B7.out.setCell (p := ⟨w2.heap.size, 1, none⟩) Z3.out (.string v))
  rcases hcase with ⟨h1, rfl⟩ | ⟨h1, h2⟩
  all_goals
    go_wp2
    refine bodyPost_ret (results_ct rfl _ _ w.heap.size 51 #[.string nm, .string v, .bool true] (0, 0) _ rfl (put3 G8.out _ _ _) Try.underlying51 rfl (by kernel_rfl)) rfl ⟨rfl, below3 B8.out (Nat.le_refl _) _ _ _⟩
theorem abutmentref21_One.calls (a0 : ByteArray) (r1 : ByteArray) (r2 : ByteArray) (r3 : Bool) (r4 : Bool) (w : World) (h : abutmentref21_One.f a0 = some (r1, r2, r3, r4)) :
    Calls Try.prog 87 #[.string a0] w fun e w' => e = .returned (.tuple #[.agg #[.string r1, .string r2, .bool r3], .bool r4]) ∧ Below w.heap.size w w' := by
  unfold abutmentref21_One.f at h
  split at h
  · rename_i hs
    injection h with h
    unfold oneR at h
    by_cases c1 : spanN tcharI a0 = 0 ∨ spanN tcharI a0 = a0.size
    · rw [if_pos c1] at h
      simp only [Prod.mk.injEq] at h
      obtain ⟨rfl, rfl, rfl, rfl⟩ := h
      exact one_short a0 hs _ rfl c1 w
    · rw [if_neg c1] at h
      have c1a : spanN tcharI a0 ≠ 0 := fun e => c1 (.inl e)
      have c1b : spanN tcharI a0 ≠ a0.size := fun e => c1 (.inr e)
      by_cases c2 : bt a0 (spanN tcharI a0 : Nat) ≠ 61
      · rw [if_pos c2] at h
        simp only [Prod.mk.injEq] at h
        obtain ⟨rfl, rfl, rfl, rfl⟩ := h
        exact one_other a0 hs _ rfl c1a c1b c2 w
      · rw [if_neg c2] at h
        have c2 : bt a0 (spanN tcharI a0 : Nat) = 61 := Classical.not_not.1 c2
        by_cases c3 : 0 < spanN tcharI (a0.extract (spanN tcharI a0 + 1) a0.size)
        · rw [if_pos c3] at h
          simp only [Prod.mk.injEq] at h
          obtain ⟨rfl, rfl, rfl, rfl⟩ := h
          exact one_token a0 hs _ rfl c1a c1b c2 _ rfl c3 w
        · rw [if_neg c3] at h
          simp only [Prod.mk.injEq] at h
          obtain ⟨rfl, rfl, rfl, rfl⟩ := h
          exact one_quoted a0 hs _ rfl c1a c1b c2 _ rfl c3 w
  · exact absurd h (by simp)
end Go.Proofs.Ytjnhghplfdiijaa.Q

namespace Go.Proofs.Ytjnhghplfdiijaa.Q
open Go.RowKit Go.Proofs.YtjnhghplfdiijaaW.PrintWords Go.Proofs.YtjnhghplfdiijaaW.PrintLast Go.Lib Go.Shelf
set_option linter.unusedVariables false
set_option linter.unusedSimpArgs false
theorem put2 {w : World} {g t : Nat} {a0 b0 : Value} (h : w.heap[g]? = some (.cells #[a0, b0] t (0, 0))) (a b : Value) : ((w.setCell ⟨g, 0, none⟩ a).setCell ⟨g, 1, none⟩ b).heap[g]? = some (.cells #[a, b] t (0, 0)) :=
  blk_put (blk_put h 0 a rfl) 1 b rfl
theorem below2 {B : Nat} {w0 w : World} (h : Below B w0 w) {g : Nat} (hg : B ≤ g) (a b : Value) : Below B w0 ((w.setCell ⟨g, 0, none⟩ a).setCell ⟨g, 1, none⟩ b) := (h.setCell hg _).setCell hg _
/-- A text without the blanks that it begins with. -/
def skipS (s : ByteArray) : ByteArray := s.extract (spanN blankB s) s.size
def restS (s : ByteArray) (n : Nat) : ByteArray := s.extract n s.size
theorem restS_size (s : ByteArray) (n : Nat) : (restS s n).size = s.size - n := by simp [restS]
theorem skipS_size (s : ByteArray) : (skipS s).size ≤ s.size := by simp [skipS]
def noParam : ByteArray × ByteArray × ByteArray × Bool := (⟨#[]⟩, ⟨#[]⟩, ⟨#[]⟩, false)
/-- What stands behind a parameter's name. -/
def valueR (nm s4 : ByteArray) : ByteArray × ByteArray × ByteArray × Bool :=
  if spanN blankB s4 = s4.size ∨ bt s4 (spanN blankB s4 : Nat) ≠ 61 then (nm, ⟨#[]⟩, s4, true)
  else if spanN tcharI (skipS (restS s4 (spanN blankB s4 + 1))) = 0 then (nm, (quotedR (skipS (restS s4 (spanN blankB s4 + 1)))).1, restS (skipS (restS s4 (spanN blankB s4 + 1))) (quotedR (skipS (restS s4 (spanN blankB s4 + 1)))).2.toNat, decide (0 < (quotedR (skipS (restS s4 (spanN blankB s4 + 1)))).2))
  else (nm, (skipS (restS s4 (spanN blankB s4 + 1))).extract 0 (spanN tcharI (skipS (restS s4 (spanN blankB s4 + 1)))), restS (skipS (restS s4 (spanN blankB s4 + 1))) (spanN tcharI (skipS (restS s4 (spanN blankB s4 + 1)))), true)
def nameR (s3 : ByteArray) : ByteArray × ByteArray × ByteArray × Bool :=
  if spanN tcharI s3 = 0 then noParam else valueR (lowerS (s3.extract 0 (spanN tcharI s3))) (restS s3 (spanN tcharI s3))
def paramR (s : ByteArray) : ByteArray × ByteArray × ByteArray × Bool :=
  if (skipS s).size = 0 ∨ bt (skipS s) 0 ≠ 59 then noParam else nameR (skipS (restS (skipS s) 1))
def abutmentref08_Param.f (s : ByteArray) : Option (ByteArray × ByteArray × ByteArray × Bool) := if s.size ≤ 1000000000 then some (paramR s) else none
set_option maxHeartbeats 4000000 in
set_option maxRecDepth 100000 in
theorem param_fail1 (s : ByteArray) (hs : s.size ≤ 1000000000) (s1 : ByteArray) (h1 : skipS s = s1) (hf : s1.size = 0 ∨ bt s1 0 ≠ 59) (w : World) :
    Calls Try.prog 125 #[.string s] w fun e w' => e = .returned (.tuple #[.agg #[.string ⟨#[]⟩, .string ⟨#[]⟩], .string ⟨#[]⟩, .bool false]) ∧ Below w.heap.size w w' := by
  have HKs1 := Aside0.mk (fun W => rSkip_any s (show s.size ≤ 1000000000 from hs) W)
  have hls1 := spanN_le blankB s
  have hzs1 := skipS_size s
  rw [h1] at hzs1
  unfold skipS at h1
  generalize spanN blankB s = n_s1 at HKs1 hls1 h1
  have HEs1 := Aside0.mk h1
  clear h1
  have hss1 : s1.size ≤ 1000000000 := Nat.le_trans hzs1 hs
  have lis1 : (n_s1 : Int) ≤ (s.size : Int) := by omega
  have hz2 : ((s1.size : Int) == 0) = true ∨ (((s1.size : Int) == 0) = false ∧ 0 < s1.size ∧ (bt s1 0 == 59) = false ∧ (bt s1 0 != 59) = true) := by
    by_cases e : s1.size = 0
    · left; exact beq_iff_eq.mpr (by omega)
    · right
      have hb := hf.resolve_left e
      exact ⟨beq_eq_false_iff_ne.mpr (by omega), by omega, beq_eq_false_iff_ne.mpr hb, bne_iff_ne.mpr hb⟩
  clear hf
  have hbt : ∀ h : 0 < s1.size, ((s1[0]'h).toNat : Int) = bt s1 0 := fun h => bt_at s1 0 h
  go_enter Try.func125, Try.ntmps125
  have G0 := Aside0.mk (blk_new w (.cells #[.string ⟨#[]⟩, .string ⟨#[]⟩] 141 (0, 0)))
  have B0 := Aside0.mk ((Below.refl w.heap.size w).alloc (Nat.le_refl _) (.cells #[.string ⟨#[]⟩, .string ⟨#[]⟩] 141))
  go_wp2_with fail
  refine (HKs1.out _).mono ?_
  rintro e w1 ⟨rfl, hb⟩
  have G1 := Aside0.mk (blk_below G0.out hb)
  have B1 := Aside0.mk (B0.out.trans (hb.mono B0.out.size))
  clear hb G0 B0 HKs1
  go_upto_region 2 with (fail)
  rw [HEs1.out]
  clear lis1
  have q1_0 := blk_cell G1.out 0
  have q1_1 := blk_cell G1.out 1
  simp only [List.getElem?_toArray, List.getElem?_cons_zero, List.getElem?_cons_succ] at q1_0 q1_1
  have f1_0 := blk_frozen G1.out 0
  have f1_1 := blk_frozen G1.out 1
  rcases hz2 with z1 | ⟨z1, z2, z3, z4⟩
  all_goals
    go_wp2
    refine bodyPost_ret (results_ctt rfl _ _ w.heap.size 141 #[.string ⟨#[]⟩, .string ⟨#[]⟩] (0, 0) _ rfl (put2 G1.out _ _) Try.underlying141 rfl (by kernel_rfl)) rfl ⟨rfl, below2 B1.out (Nat.le_refl _) _ _⟩
set_option maxHeartbeats 4000000 in
set_option maxRecDepth 100000 in
theorem param_fail2 (s : ByteArray) (hs : s.size ≤ 1000000000) (s1 : ByteArray) (h1 : skipS s = s1) (hp : 0 < s1.size) (hb59 : bt s1 0 = 59) (s2 : ByteArray) (h2 : restS s1 1 = s2) (s3 : ByteArray) (h3 : skipS s2 = s3) (hn : spanN tcharI s3 = 0) (w : World) :
    Calls Try.prog 125 #[.string s] w fun e w' => e = .returned (.tuple #[.agg #[.string ⟨#[]⟩, .string ⟨#[]⟩], .string ⟨#[]⟩, .bool false]) ∧ Below w.heap.size w w' := by
  have HKs1 := Aside0.mk (fun W => rSkip_any s (show s.size ≤ 1000000000 from hs) W)
  have hls1 := spanN_le blankB s
  have hzs1 := skipS_size s
  rw [h1] at hzs1
  unfold skipS at h1
  generalize spanN blankB s = n_s1 at HKs1 hls1 h1
  have HEs1 := Aside0.mk h1
  clear h1
  have hss1 : s1.size ≤ 1000000000 := Nat.le_trans hzs1 hs
  have lis1 : (n_s1 : Int) ≤ (s.size : Int) := by omega
  have z1 : ((s1.size : Int) == 0) = false := beq_eq_false_iff_ne.mpr (by omega)
  have z5 : (0 : Int) < (s1.size : Int) := by omega
  have z6 : (1 : Int) ≤ (s1.size : Int) := by omega
  have z3 : (bt s1 0 == 59) = true := beq_iff_eq.mpr hb59
  have z4 : (bt s1 0 != 59) = false := bne_eq_false_iff_eq.mpr hb59
  clear hb59
  have hbt : ∀ h : 0 < s1.size, ((s1[0]'h).toNat : Int) = bt s1 0 := fun h => bt_at s1 0 h
  have hz2 := restS_size s1 1
  rw [h2] at hz2
  unfold restS at h2
  have HE2 := Aside0.mk h2
  clear h2
  have hs2 : s2.size ≤ 1000000000 := by omega
  have HKs3 := Aside0.mk (fun W => rSkip_any s2 (show s2.size ≤ 1000000000 from hs2) W)
  have hls3 := spanN_le blankB s2
  have hzs3 := skipS_size s2
  rw [h3] at hzs3
  unfold skipS at h3
  generalize spanN blankB s2 = n_s3 at HKs3 hls3 h3
  have HEs3 := Aside0.mk h3
  clear h3
  have hss3 : s3.size ≤ 1000000000 := Nat.le_trans hzs3 hs2
  have lis3 : (n_s3 : Int) ≤ (s2.size : Int) := by omega
  have HT := Aside0.mk (fun W => rTok_any s3 hss3 W)
  rw [hn] at HT
  clear hn
  go_enter Try.func125, Try.ntmps125
  have G0 := Aside0.mk (blk_new w (.cells #[.string ⟨#[]⟩, .string ⟨#[]⟩] 141 (0, 0)))
  have B0 := Aside0.mk ((Below.refl w.heap.size w).alloc (Nat.le_refl _) (.cells #[.string ⟨#[]⟩, .string ⟨#[]⟩] 141))
  go_wp2_with fail
  refine (HKs1.out _).mono ?_
  rintro e w1 ⟨rfl, hb⟩
  have G1 := Aside0.mk (blk_below G0.out hb)
  have B1 := Aside0.mk (B0.out.trans (hb.mono B0.out.size))
  clear hb G0 B0 HKs1
  go_upto_region 2 with (fail)
  rw [HEs1.out]
  clear lis1
  go_upto_region 5 with (fail)
  rw [HE2.out]
  clear z1 z5 z6 z3 z4 hbt hz2
  go_wp2_with fail
  refine (HKs3.out _).mono ?_
  rintro e w2 ⟨rfl, hb⟩
  have G2 := Aside0.mk (blk_below G1.out hb)
  have B2 := Aside0.mk (B1.out.trans (hb.mono B1.out.size))
  clear hb G1 B1 HKs3
  go_upto_region 6 with (fail)
  rw [HEs3.out]
  clear lis3
  go_wp2_with fail
  refine (HT.out _).mono ?_
  rintro e w3 ⟨rfl, hb⟩
  have G3 := Aside0.mk (blk_below G2.out hb)
  have B3 := Aside0.mk (B2.out.trans (hb.mono B2.out.size))
  clear hb G2 B2 HT
  have q3_0 := blk_cell G3.out 0
  have q3_1 := blk_cell G3.out 1
  simp only [List.getElem?_toArray, List.getElem?_cons_zero, List.getElem?_cons_succ] at q3_0 q3_1
  have f3_0 := blk_frozen G3.out 0
  have f3_1 := blk_frozen G3.out 1
  go_wp2
  refine bodyPost_ret (results_ctt rfl _ _ w.heap.size 141 #[.string ⟨#[]⟩, .string ⟨#[]⟩] (0, 0) _ rfl (put2 G3.out _ _) Try.underlying141 rfl (by kernel_rfl)) rfl ⟨rfl, below2 B3.out (Nat.le_refl _) _ _⟩
set_option maxHeartbeats 4000000 in
set_option maxRecDepth 100000 in
theorem param_plain (s : ByteArray) (hs : s.size ≤ 1000000000) (s1 : ByteArray) (h1 : skipS s = s1) (hp : 0 < s1.size) (hb59 : bt s1 0 = 59) (s2 : ByteArray) (h2 : restS s1 1 = s2) (s3 : ByteArray) (h3 : skipS s2 = s3) (n : Nat) (hn : spanN tcharI s3 = n) (hn0 : n ≠ 0) (nm : ByteArray) (hnm : lowerS (s3.extract 0 n) = nm) (s4 : ByteArray) (h4 : restS s3 n = s4) (k : Nat) (hk : spanN blankB s4 = k) (hf : k = s4.size ∨ bt s4 (k : Int) ≠ 61) (w : World) :
    Calls Try.prog 125 #[.string s] w fun e w' => e = .returned (.tuple #[.agg #[.string nm, .string ⟨#[]⟩], .string s4, .bool true]) ∧ Below w.heap.size w w' := by
  have HKs1 := Aside0.mk (fun W => rSkip_any s (show s.size ≤ 1000000000 from hs) W)
  have hls1 := spanN_le blankB s
  have hzs1 := skipS_size s
  rw [h1] at hzs1
  unfold skipS at h1
  generalize spanN blankB s = n_s1 at HKs1 hls1 h1
  have HEs1 := Aside0.mk h1
  clear h1
  have hss1 : s1.size ≤ 1000000000 := Nat.le_trans hzs1 hs
  have lis1 : (n_s1 : Int) ≤ (s.size : Int) := by omega
  have z1 : ((s1.size : Int) == 0) = false := beq_eq_false_iff_ne.mpr (by omega)
  have z5 : (0 : Int) < (s1.size : Int) := by omega
  have z6 : (1 : Int) ≤ (s1.size : Int) := by omega
  have z3 : (bt s1 0 == 59) = true := beq_iff_eq.mpr hb59
  have z4 : (bt s1 0 != 59) = false := bne_eq_false_iff_eq.mpr hb59
  clear hb59
  have hbt : ∀ h : 0 < s1.size, ((s1[0]'h).toNat : Int) = bt s1 0 := fun h => bt_at s1 0 h
  have hz2 := restS_size s1 1
  rw [h2] at hz2
  unfold restS at h2
  have HE2 := Aside0.mk h2
  clear h2
  have hs2 : s2.size ≤ 1000000000 := by omega
  have HKs3 := Aside0.mk (fun W => rSkip_any s2 (show s2.size ≤ 1000000000 from hs2) W)
  have hls3 := spanN_le blankB s2
  have hzs3 := skipS_size s2
  rw [h3] at hzs3
  unfold skipS at h3
  generalize spanN blankB s2 = n_s3 at HKs3 hls3 h3
  have HEs3 := Aside0.mk h3
  clear h3
  have hss3 : s3.size ≤ 1000000000 := Nat.le_trans hzs3 hs2
  have lis3 : (n_s3 : Int) ≤ (s2.size : Int) := by omega
  have HT := Aside0.mk (fun W => rTok_any s3 hss3 W)
  have hnle := spanN_le tcharI s3
  rw [hn] at HT hnle
  clear hn
  have hnle2 : (n : Int) ≤ (s3.size : Int) := by omega
  have y1 : ((n : Int) == 0) = false := beq_eq_false_iff_ne.mpr (by omega)
  clear hn0
  have HL := Aside0.mk (fun W => rLower_any (s3.extract 0 n) (by simp; omega) W)
  rw [hnm] at HL
  clear hnm
  have hz4 := restS_size s3 n
  rw [h4] at hz4
  unfold restS at h4
  have HE4 := Aside0.mk h4
  clear h4
  have hs4 : s4.size ≤ 1000000000 := by omega
  have HK4 := Aside0.mk (fun W => rSkip_any s4 hs4 W)
  have hkle := spanN_le blankB s4
  rw [hk] at HK4 hkle
  clear hk
  have hkle2 : (k : Int) ≤ (s4.size : Int) := by omega
  have hz9 : ((k : Int) == (s4.size : Int)) = true ∨ (((k : Int) == (s4.size : Int)) = false ∧ k < s4.size ∧ (bt s4 (k : Int) == 61) = false ∧ (bt s4 (k : Int) != 61) = true) := by
    by_cases e : k = s4.size
    · left; exact beq_iff_eq.mpr (by omega)
    · right
      have hb := hf.resolve_left e
      exact ⟨beq_eq_false_iff_ne.mpr (by omega), by omega, beq_eq_false_iff_ne.mpr hb, bne_iff_ne.mpr hb⟩
  clear hf
  have hbk : ∀ h : k < s4.size, ((s4[k]'h).toNat : Int) = bt s4 (k : Int) := fun h => bt_at s4 (k : Int) h
  go_enter Try.func125, Try.ntmps125
  have G0 := Aside0.mk (blk_new w (.cells #[.string ⟨#[]⟩, .string ⟨#[]⟩] 141 (0, 0)))
  have B0 := Aside0.mk ((Below.refl w.heap.size w).alloc (Nat.le_refl _) (.cells #[.string ⟨#[]⟩, .string ⟨#[]⟩] 141))
  go_wp2_with fail
  refine (HKs1.out _).mono ?_
  rintro e w1 ⟨rfl, hb⟩
  have G1 := Aside0.mk (blk_below G0.out hb)
  have B1 := Aside0.mk (B0.out.trans (hb.mono B0.out.size))
  clear hb G0 B0 HKs1
  go_upto_region 2 with (fail)
  rw [HEs1.out]
  clear lis1
  go_upto_region 5 with (fail)
  rw [HE2.out]
  clear z1 z5 z6 z3 z4 hbt hz2
  go_wp2_with fail
  refine (HKs3.out _).mono ?_
  rintro e w2 ⟨rfl, hb⟩
  have G2 := Aside0.mk (blk_below G1.out hb)
  have B2 := Aside0.mk (B1.out.trans (hb.mono B1.out.size))
  clear hb G1 B1 HKs3
  go_upto_region 6 with (fail)
  rw [HEs3.out]
  clear lis3
  go_wp2_with fail
  refine (HT.out _).mono ?_
  rintro e w3 ⟨rfl, hb⟩
  have G3 := Aside0.mk (blk_below G2.out hb)
  have B3 := Aside0.mk (B2.out.trans (hb.mono B2.out.size))
  clear hb G2 B2 HT
  go_wp2_with fail
  refine (HL.out _).mono ?_
  rintro e w4 ⟨rfl, hb⟩
  have G4 := Aside0.mk (blk_below G3.out hb)
  have B4 := Aside0.mk (B3.out.trans (hb.mono B3.out.size))
  clear hb G3 B3 HL
  have G5 := Aside0.mk (blk_alloc G4.out (.cells #[.string nm, .string ⟨#[]⟩] 141))
  have D5 := Aside0.mk (blk_new w4 (.cells #[.string nm, .string ⟨#[]⟩] 141 (0, 0)))
  have B5 := Aside0.mk (B4.out.alloc B4.out.size (.cells #[.string nm, .string ⟨#[]⟩] 141))
  have N3 : w.heap.size ≠ w4.heap.size := fun e => by have := blk_lt G4.out; omega
  have N4 : w4.heap.size ≠ w.heap.size := fun e => N3 e.symm
  have Z3 := Aside0.mk B4.out.size
  clear G4 B4
  go_upto_region 11 with (fail)
  rw [HE4.out]
  clear y1 hnle2 hz4
  go_wp2_with fail
  refine (HK4.out _).mono ?_
  rintro e w6 ⟨rfl, hb⟩
  have G6 := Aside0.mk (blk_below G5.out hb)
  have B6 := Aside0.mk (B5.out.trans (hb.mono B5.out.size))
  have D6 := Aside0.mk (blk_below D5.out hb)
  clear hb G5 B5 D5 HK4
  have q6_0 := blk_cell G6.out 0
  have q6_1 := blk_cell G6.out 1
  simp only [List.getElem?_toArray, List.getElem?_cons_zero, List.getElem?_cons_succ] at q6_0 q6_1
  have f6_0 := blk_frozen G6.out 0
  have f6_1 := blk_frozen G6.out 1
  have q7_0 := blk_cell D6.out 0
  have q7_1 := blk_cell D6.out 1
  simp only [List.getElem?_toArray, List.getElem?_cons_zero, List.getElem?_cons_succ] at q7_0 q7_1
  have f7_0 := blk_frozen D6.out 0
  have f7_1 := blk_frozen D6.out 1
  rcases hz9 with x1 | ⟨x1, x2, x3, x4⟩
  all_goals
    go_wp2
    refine bodyPost_ret (results_ctt rfl _ _ w.heap.size 141 #[.string nm, .string ⟨#[]⟩] (0, 0) _ rfl (put2 G6.out _ _) Try.underlying141 rfl (by kernel_rfl)) rfl ⟨rfl, below2 B6.out (Nat.le_refl _) _ _⟩
set_option maxHeartbeats 4000000 in
set_option maxRecDepth 100000 in
theorem param_token (s : ByteArray) (hs : s.size ≤ 1000000000) (s1 : ByteArray) (h1 : skipS s = s1) (hp : 0 < s1.size) (hb59 : bt s1 0 = 59) (s2 : ByteArray) (h2 : restS s1 1 = s2) (s3 : ByteArray) (h3 : skipS s2 = s3) (n : Nat) (hn : spanN tcharI s3 = n) (hn0 : n ≠ 0) (nm : ByteArray) (hnm : lowerS (s3.extract 0 n) = nm) (s4 : ByteArray) (h4 : restS s3 n = s4) (k : Nat) (hk : spanN blankB s4 = k) (hk2 : k < s4.size) (hb61 : bt s4 (k : Int) = 61) (s5 : ByteArray) (h5 : restS s4 (k + 1) = s5) (s6 : ByteArray) (h6 : skipS s5 = s6) (m : Nat) (hm : spanN tcharI s6 = m) (hm0 : m ≠ 0) (w : World) :
    Calls Try.prog 125 #[.string s] w fun e w' => e = .returned (.tuple #[.agg #[.string nm, .string (s6.extract 0 m)], .string (restS s6 m), .bool true]) ∧ Below w.heap.size w w' := by
  have HKs1 := Aside0.mk (fun W => rSkip_any s (show s.size ≤ 1000000000 from hs) W)
  have hls1 := spanN_le blankB s
  have hzs1 := skipS_size s
  rw [h1] at hzs1
  unfold skipS at h1
  generalize spanN blankB s = n_s1 at HKs1 hls1 h1
  have HEs1 := Aside0.mk h1
  clear h1
  have hss1 : s1.size ≤ 1000000000 := Nat.le_trans hzs1 hs
  have lis1 : (n_s1 : Int) ≤ (s.size : Int) := by omega
  have z1 : ((s1.size : Int) == 0) = false := beq_eq_false_iff_ne.mpr (by omega)
  have z5 : (0 : Int) < (s1.size : Int) := by omega
  have z6 : (1 : Int) ≤ (s1.size : Int) := by omega
  have z3 : (bt s1 0 == 59) = true := beq_iff_eq.mpr hb59
  have z4 : (bt s1 0 != 59) = false := bne_eq_false_iff_eq.mpr hb59
  clear hb59
  have hbt : ∀ h : 0 < s1.size, ((s1[0]'h).toNat : Int) = bt s1 0 := fun h => bt_at s1 0 h
  have hz2 := restS_size s1 1
  rw [h2] at hz2
  unfold restS at h2
  have HE2 := Aside0.mk h2
  clear h2
  have hs2 : s2.size ≤ 1000000000 := by omega
  have HKs3 := Aside0.mk (fun W => rSkip_any s2 (show s2.size ≤ 1000000000 from hs2) W)
  have hls3 := spanN_le blankB s2
  have hzs3 := skipS_size s2
  rw [h3] at hzs3
  unfold skipS at h3
  generalize spanN blankB s2 = n_s3 at HKs3 hls3 h3
  have HEs3 := Aside0.mk h3
  clear h3
  have hss3 : s3.size ≤ 1000000000 := Nat.le_trans hzs3 hs2
  have lis3 : (n_s3 : Int) ≤ (s2.size : Int) := by omega
  have HT := Aside0.mk (fun W => rTok_any s3 hss3 W)
  have hnle := spanN_le tcharI s3
  rw [hn] at HT hnle
  clear hn
  have hnle2 : (n : Int) ≤ (s3.size : Int) := by omega
  have y1 : ((n : Int) == 0) = false := beq_eq_false_iff_ne.mpr (by omega)
  clear hn0
  have HL := Aside0.mk (fun W => rLower_any (s3.extract 0 n) (by simp; omega) W)
  rw [hnm] at HL
  clear hnm
  have hz4 := restS_size s3 n
  rw [h4] at hz4
  unfold restS at h4
  have HE4 := Aside0.mk h4
  clear h4
  have hs4 : s4.size ≤ 1000000000 := by omega
  have HK4 := Aside0.mk (fun W => rSkip_any s4 hs4 W)
  have hkle := spanN_le blankB s4
  rw [hk] at HK4 hkle
  clear hk
  have hkle2 : (k : Int) ≤ (s4.size : Int) := by omega
  have x1 : ((k : Int) == (s4.size : Int)) = false := beq_eq_false_iff_ne.mpr (by omega)
  have x3 : (bt s4 (k : Int) == 61) = true := beq_iff_eq.mpr hb61
  have x4 : (bt s4 (k : Int) != 61) = false := bne_eq_false_iff_eq.mpr hb61
  clear hb61
  have hbk : ∀ h : k < s4.size, ((s4[k]'h).toNat : Int) = bt s4 (k : Int) := fun h => bt_at s4 (k : Int) h
  have x5 : (0 : Int) ≤ (k : Int) + 1 := by omega
  have x6 : (k : Int) + 1 ≤ (s4.size : Int) := by omega
  have x7 : ((k : Int) + 1).toNat = k + 1 := by omega
  have hz5 := restS_size s4 (k + 1)
  rw [h5] at hz5
  unfold restS at h5
  have HE5 := Aside0.mk h5
  clear h5
  have hs5 : s5.size ≤ 1000000000 := by omega
  have HKs6 := Aside0.mk (fun W => rSkip_any s5 (show s5.size ≤ 1000000000 from hs5) W)
  have hls6 := spanN_le blankB s5
  have hzs6 := skipS_size s5
  rw [h6] at hzs6
  unfold skipS at h6
  generalize spanN blankB s5 = n_s6 at HKs6 hls6 h6
  have HEs6 := Aside0.mk h6
  clear h6
  have hss6 : s6.size ≤ 1000000000 := Nat.le_trans hzs6 hs5
  have lis6 : (n_s6 : Int) ≤ (s5.size : Int) := by omega
  have HT6 := Aside0.mk (fun W => rTok_any s6 hss6 W)
  have hmle := spanN_le tcharI s6
  rw [hm] at HT6 hmle
  clear hm
  have hmle2 : (m : Int) ≤ (s6.size : Int) := by omega
  have y2 : ((m : Int) == 0) = false := beq_eq_false_iff_ne.mpr (by omega)
  have y3 : decide ((0 : Int) < (m : Int)) = true := decide_eq_true (by omega)
  have y4 : decide (0 < m) = true := decide_eq_true (by omega)
  have y5 : (0 : Int) ≤ (m : Int) := by omega
  clear hm0
  go_enter Try.func125, Try.ntmps125
  have G0 := Aside0.mk (blk_new w (.cells #[.string ⟨#[]⟩, .string ⟨#[]⟩] 141 (0, 0)))
  have B0 := Aside0.mk ((Below.refl w.heap.size w).alloc (Nat.le_refl _) (.cells #[.string ⟨#[]⟩, .string ⟨#[]⟩] 141))
  go_wp2_with fail
  refine (HKs1.out _).mono ?_
  rintro e w1 ⟨rfl, hb⟩
  have G1 := Aside0.mk (blk_below G0.out hb)
  have B1 := Aside0.mk (B0.out.trans (hb.mono B0.out.size))
  clear hb G0 B0 HKs1
  go_upto_region 2 with (fail)
  rw [HEs1.out]
  clear lis1
  go_upto_region 5 with (fail)
  rw [HE2.out]
  clear z1 z5 z6 z3 z4 hbt hz2
  go_wp2_with fail
  refine (HKs3.out _).mono ?_
  rintro e w2 ⟨rfl, hb⟩
  have G2 := Aside0.mk (blk_below G1.out hb)
  have B2 := Aside0.mk (B1.out.trans (hb.mono B1.out.size))
  clear hb G1 B1 HKs3
  go_upto_region 6 with (fail)
  rw [HEs3.out]
  clear lis3
  go_wp2_with fail
  refine (HT.out _).mono ?_
  rintro e w3 ⟨rfl, hb⟩
  have G3 := Aside0.mk (blk_below G2.out hb)
  have B3 := Aside0.mk (B2.out.trans (hb.mono B2.out.size))
  clear hb G2 B2 HT
  go_wp2_with fail
  refine (HL.out _).mono ?_
  rintro e w4 ⟨rfl, hb⟩
  have G4 := Aside0.mk (blk_below G3.out hb)
  have B4 := Aside0.mk (B3.out.trans (hb.mono B3.out.size))
  clear hb G3 B3 HL
  have G5 := Aside0.mk (blk_alloc G4.out (.cells #[.string nm, .string ⟨#[]⟩] 141))
  have D5 := Aside0.mk (blk_new w4 (.cells #[.string nm, .string ⟨#[]⟩] 141 (0, 0)))
  have B5 := Aside0.mk (B4.out.alloc B4.out.size (.cells #[.string nm, .string ⟨#[]⟩] 141))
  have N3 : w.heap.size ≠ w4.heap.size := fun e => by have := blk_lt G4.out; omega
  have N4 : w4.heap.size ≠ w.heap.size := fun e => N3 e.symm
  have Z3 := Aside0.mk B4.out.size
  clear G4 B4
  go_upto_region 11 with (fail)
  rw [HE4.out]
  clear y1 hnle2 hz4
  go_wp2_with fail
  refine (HK4.out _).mono ?_
  rintro e w6 ⟨rfl, hb⟩
  have G6 := Aside0.mk (blk_below G5.out hb)
  have B6 := Aside0.mk (B5.out.trans (hb.mono B5.out.size))
  have D6 := Aside0.mk (blk_below D5.out hb)
  clear hb G5 B5 D5 HK4
  go_upto_region 15 with (fail)
  rw [HE5.out]
  clear x1 x3 x4 x5 x6 x7 hbk hz5
  go_wp2_with fail
  refine (HKs6.out _).mono ?_
  rintro e w7 ⟨rfl, hb⟩
  have G7 := Aside0.mk (blk_below G6.out hb)
  have D7 := Aside0.mk (blk_below D6.out hb)
  have B7 := Aside0.mk (B6.out.trans (hb.mono B6.out.size))
  clear hb G6 D6 B6 HKs6
  go_upto_region 16 with (fail)
  rw [HEs6.out]
  clear lis6
  go_wp2_with fail
  refine (HT6.out _).mono ?_
  rintro e w8 ⟨rfl, hb⟩
  have G8 := Aside0.mk (blk_below G7.out hb)
  have D8 := Aside0.mk (blk_below D7.out hb)
  have B8 := Aside0.mk (B7.out.trans (hb.mono B7.out.size))
  clear hb G7 D7 B7 HT6
  have q8_0 := blk_cell G8.out 0
  have q8_1 := blk_cell G8.out 1
  simp only [List.getElem?_toArray, List.getElem?_cons_zero, List.getElem?_cons_succ] at q8_0 q8_1
  have f8_0 := blk_frozen G8.out 0
  have f8_1 := blk_frozen G8.out 1
  have q9_0 := blk_cell D8.out 0
  have q9_1 := blk_cell D8.out 1
  simp only [List.getElem?_toArray, List.getElem?_cons_zero, List.getElem?_cons_succ] at q9_0 q9_1
  have f9_0 := blk_frozen D8.out 0
  have f9_1 := blk_frozen D8.out 1
  have G9 := Aside0.mk (blk_far G8.out (p := ⟨w4.heap.size, 1, none⟩) N3 (.string (s6.extract 0 m)))
  have D9 := Aside0.mk (blk_put (cs' := #[.string nm, .string (s6.extract 0 m)]) D8.out 1 (.string (s6.extract 0 m)) rfl)
  have B9 := Aside0.mk (B8.out.setCell (p := ⟨w4.heap.size, 1, none⟩) Z3.out (.string (s6.extract 0 m)))
  have q10_0 := blk_cell G9.out 0
  have q10_1 := blk_cell G9.out 1
  simp only [List.getElem?_toArray, List.getElem?_cons_zero, List.getElem?_cons_succ] at q10_0 q10_1
  have f10_0 := blk_frozen G9.out 0
  have f10_1 := blk_frozen G9.out 1
  have q11_0 := blk_cell D9.out 0
  have q11_1 := blk_cell D9.out 1
  simp only [List.getElem?_toArray, List.getElem?_cons_zero, List.getElem?_cons_succ] at q11_0 q11_1
  have f11_0 := blk_frozen D9.out 0
  have f11_1 := blk_frozen D9.out 1
  have y6 : (m : Int) ≤ (s6.size : Int) := hmle2
  go_wp2
  go_region
  go_wp2
  show bodyPost _ _ _ _ _ _
  refine bodyPost_ret (results_ctt rfl _ _ w.heap.size 141 #[.string nm, .string (s6.extract 0 m)] (0, 0) _ rfl (blk_drew (put2 G9.out _ _)) Try.underlying141 rfl (by kernel_rfl)) rfl ⟨rfl, below_drew1 (below2 B9.out (Nat.le_refl _) _ _)⟩
set_option maxHeartbeats 4000000 in
set_option maxRecDepth 100000 in
theorem param_quoted (s : ByteArray) (hs : s.size ≤ 1000000000) (s1 : ByteArray) (h1 : skipS s = s1) (hp : 0 < s1.size) (hb59 : bt s1 0 = 59) (s2 : ByteArray) (h2 : restS s1 1 = s2) (s3 : ByteArray) (h3 : skipS s2 = s3) (n : Nat) (hn : spanN tcharI s3 = n) (hn0 : n ≠ 0) (nm : ByteArray) (hnm : lowerS (s3.extract 0 n) = nm) (s4 : ByteArray) (h4 : restS s3 n = s4) (k : Nat) (hk : spanN blankB s4 = k) (hk2 : k < s4.size) (hb61 : bt s4 (k : Int) = 61) (s5 : ByteArray) (h5 : restS s4 (k + 1) = s5) (s6 : ByteArray) (h6 : skipS s5 = s6) (m : Nat) (hm : spanN tcharI s6 = m) (hm0 : m = 0) (w : World) :
    Calls Try.prog 125 #[.string s] w fun e w' => e = .returned (.tuple #[.agg #[.string nm, .string (quotedR s6).1], .string (restS s6 (quotedR s6).2.toNat), .bool (decide (0 < (quotedR s6).2))]) ∧ Below w.heap.size w w' := by
  have HKs1 := Aside0.mk (fun W => rSkip_any s (show s.size ≤ 1000000000 from hs) W)
  have hls1 := spanN_le blankB s
  have hzs1 := skipS_size s
  rw [h1] at hzs1
  unfold skipS at h1
  generalize spanN blankB s = n_s1 at HKs1 hls1 h1
  have HEs1 := Aside0.mk h1
  clear h1
  have hss1 : s1.size ≤ 1000000000 := Nat.le_trans hzs1 hs
  have lis1 : (n_s1 : Int) ≤ (s.size : Int) := by omega
  have z1 : ((s1.size : Int) == 0) = false := beq_eq_false_iff_ne.mpr (by omega)
  have z5 : (0 : Int) < (s1.size : Int) := by omega
  have z6 : (1 : Int) ≤ (s1.size : Int) := by omega
  have z3 : (bt s1 0 == 59) = true := beq_iff_eq.mpr hb59
  have z4 : (bt s1 0 != 59) = false := bne_eq_false_iff_eq.mpr hb59
  clear hb59
  have hbt : ∀ h : 0 < s1.size, ((s1[0]'h).toNat : Int) = bt s1 0 := fun h => bt_at s1 0 h
  have hz2 := restS_size s1 1
  rw [h2] at hz2
  unfold restS at h2
  have HE2 := Aside0.mk h2
  clear h2
  have hs2 : s2.size ≤ 1000000000 := by omega
  have HKs3 := Aside0.mk (fun W => rSkip_any s2 (show s2.size ≤ 1000000000 from hs2) W)
  have hls3 := spanN_le blankB s2
  have hzs3 := skipS_size s2
  rw [h3] at hzs3
  unfold skipS at h3
  generalize spanN blankB s2 = n_s3 at HKs3 hls3 h3
  have HEs3 := Aside0.mk h3
  clear h3
  have hss3 : s3.size ≤ 1000000000 := Nat.le_trans hzs3 hs2
  have lis3 : (n_s3 : Int) ≤ (s2.size : Int) := by omega
  have HT := Aside0.mk (fun W => rTok_any s3 hss3 W)
  have hnle := spanN_le tcharI s3
  rw [hn] at HT hnle
  clear hn
  have hnle2 : (n : Int) ≤ (s3.size : Int) := by omega
  have y1 : ((n : Int) == 0) = false := beq_eq_false_iff_ne.mpr (by omega)
  clear hn0
  have HL := Aside0.mk (fun W => rLower_any (s3.extract 0 n) (by simp; omega) W)
  rw [hnm] at HL
  clear hnm
  have hz4 := restS_size s3 n
  rw [h4] at hz4
  unfold restS at h4
  have HE4 := Aside0.mk h4
  clear h4
  have hs4 : s4.size ≤ 1000000000 := by omega
  have HK4 := Aside0.mk (fun W => rSkip_any s4 hs4 W)
  have hkle := spanN_le blankB s4
  rw [hk] at HK4 hkle
  clear hk
  have hkle2 : (k : Int) ≤ (s4.size : Int) := by omega
  have x1 : ((k : Int) == (s4.size : Int)) = false := beq_eq_false_iff_ne.mpr (by omega)
  have x3 : (bt s4 (k : Int) == 61) = true := beq_iff_eq.mpr hb61
  have x4 : (bt s4 (k : Int) != 61) = false := bne_eq_false_iff_eq.mpr hb61
  clear hb61
  have hbk : ∀ h : k < s4.size, ((s4[k]'h).toNat : Int) = bt s4 (k : Int) := fun h => bt_at s4 (k : Int) h
  have x5 : (0 : Int) ≤ (k : Int) + 1 := by omega
  have x6 : (k : Int) + 1 ≤ (s4.size : Int) := by omega
  have x7 : ((k : Int) + 1).toNat = k + 1 := by omega
  have hz5 := restS_size s4 (k + 1)
  rw [h5] at hz5
  unfold restS at h5
  have HE5 := Aside0.mk h5
  clear h5
  have hs5 : s5.size ≤ 1000000000 := by omega
  have HKs6 := Aside0.mk (fun W => rSkip_any s5 (show s5.size ≤ 1000000000 from hs5) W)
  have hls6 := spanN_le blankB s5
  have hzs6 := skipS_size s5
  rw [h6] at hzs6
  unfold skipS at h6
  generalize spanN blankB s5 = n_s6 at HKs6 hls6 h6
  have HEs6 := Aside0.mk h6
  clear h6
  have hss6 : s6.size ≤ 1000000000 := Nat.le_trans hzs6 hs5
  have lis6 : (n_s6 : Int) ≤ (s5.size : Int) := by omega
  have HT6 := Aside0.mk (fun W => rTok_any s6 hss6 W)
  have hmle := spanN_le tcharI s6
  rw [hm] at HT6 hmle
  clear hm
  have hmle2 : (m : Int) ≤ (s6.size : Int) := by omega
  have hqr := quotedR_range s6
  have HQ := Aside0.mk (fun W => rQuoted_any s6 hss6 W)
  obtain ⟨v, hv⟩ : ∃ v, (quotedR s6).1 = v := ⟨_, rfl⟩
  obtain ⟨q, hq⟩ : ∃ q, (quotedR s6).2 = q := ⟨_, rfl⟩
  rw [hv, hq] at HQ ⊢
  rw [hq] at hqr
  clear hv hq
  obtain ⟨q, rfl⟩ := Int.eq_ofNat_of_zero_le hqr.1
  have hq1 : (q : Int) ≤ (s6.size : Int) := hqr.2
  clear hqr
  rw [Int.toNat_natCast]
  obtain ⟨b, hb⟩ : ∃ b, decide ((0 : Int) < (q : Int)) = b := ⟨_, rfl⟩
  have hb2 : decide (0 < q) = b := by rw [← hb, decide_eq_decide]; omega
  rw [hb]
  have y2 : ((m : Int) == 0) = true := beq_iff_eq.mpr (by omega)
  have y5 : (0 : Int) ≤ (m : Int) := by omega
  clear hm0
  clear hb
  go_enter Try.func125, Try.ntmps125
  have G0 := Aside0.mk (blk_new w (.cells #[.string ⟨#[]⟩, .string ⟨#[]⟩] 141 (0, 0)))
  have B0 := Aside0.mk ((Below.refl w.heap.size w).alloc (Nat.le_refl _) (.cells #[.string ⟨#[]⟩, .string ⟨#[]⟩] 141))
  go_wp2_with fail
  refine (HKs1.out _).mono ?_
  rintro e w1 ⟨rfl, hb⟩
  have G1 := Aside0.mk (blk_below G0.out hb)
  have B1 := Aside0.mk (B0.out.trans (hb.mono B0.out.size))
  clear hb G0 B0 HKs1
  go_upto_region 2 with (fail)
  rw [HEs1.out]
  clear lis1
  go_upto_region 5 with (fail)
  rw [HE2.out]
  clear z1 z5 z6 z3 z4 hbt hz2
  go_wp2_with fail
  refine (HKs3.out _).mono ?_
  rintro e w2 ⟨rfl, hb⟩
  have G2 := Aside0.mk (blk_below G1.out hb)
  have B2 := Aside0.mk (B1.out.trans (hb.mono B1.out.size))
  clear hb G1 B1 HKs3
  go_upto_region 6 with (fail)
  rw [HEs3.out]
  clear lis3
  go_wp2_with fail
  refine (HT.out _).mono ?_
  rintro e w3 ⟨rfl, hb⟩
  have G3 := Aside0.mk (blk_below G2.out hb)
  have B3 := Aside0.mk (B2.out.trans (hb.mono B2.out.size))
  clear hb G2 B2 HT
  go_wp2_with fail
  refine (HL.out _).mono ?_
  rintro e w4 ⟨rfl, hb⟩
  have G4 := Aside0.mk (blk_below G3.out hb)
  have B4 := Aside0.mk (B3.out.trans (hb.mono B3.out.size))
  clear hb G3 B3 HL
  have G5 := Aside0.mk (blk_alloc G4.out (.cells #[.string nm, .string ⟨#[]⟩] 141))
  have D5 := Aside0.mk (blk_new w4 (.cells #[.string nm, .string ⟨#[]⟩] 141 (0, 0)))
  have B5 := Aside0.mk (B4.out.alloc B4.out.size (.cells #[.string nm, .string ⟨#[]⟩] 141))
  have N3 : w.heap.size ≠ w4.heap.size := fun e => by have := blk_lt G4.out; omega
  have N4 : w4.heap.size ≠ w.heap.size := fun e => N3 e.symm
  have Z3 := Aside0.mk B4.out.size
  clear G4 B4
  go_upto_region 11 with (fail)
  rw [HE4.out]
  clear y1 hnle2 hz4
  go_wp2_with fail
  refine (HK4.out _).mono ?_
  rintro e w6 ⟨rfl, hb⟩
  have G6 := Aside0.mk (blk_below G5.out hb)
  have B6 := Aside0.mk (B5.out.trans (hb.mono B5.out.size))
  have D6 := Aside0.mk (blk_below D5.out hb)
  clear hb G5 B5 D5 HK4
  go_upto_region 15 with (fail)
  rw [HE5.out]
  clear x1 x3 x4 x5 x6 x7 hbk hz5
  go_wp2_with fail
  refine (HKs6.out _).mono ?_
  rintro e w7 ⟨rfl, hb⟩
  have G7 := Aside0.mk (blk_below G6.out hb)
  have D7 := Aside0.mk (blk_below D6.out hb)
  have B7 := Aside0.mk (B6.out.trans (hb.mono B6.out.size))
  clear hb G6 D6 B6 HKs6
  go_upto_region 16 with (fail)
  rw [HEs6.out]
  clear lis6
  go_wp2_with fail
  refine (HT6.out _).mono ?_
  rintro e w8 ⟨rfl, hb⟩
  have G8 := Aside0.mk (blk_below G7.out hb)
  have D8 := Aside0.mk (blk_below D7.out hb)
  have B8 := Aside0.mk (B7.out.trans (hb.mono B7.out.size))
  clear hb G7 D7 B7 HT6
  have q8_0 := blk_cell G8.out 0
  have q8_1 := blk_cell G8.out 1
  simp only [List.getElem?_toArray, List.getElem?_cons_zero, List.getElem?_cons_succ] at q8_0 q8_1
  have f8_0 := blk_frozen G8.out 0
  have f8_1 := blk_frozen G8.out 1
  have q9_0 := blk_cell D8.out 0
  have q9_1 := blk_cell D8.out 1
  simp only [List.getElem?_toArray, List.getElem?_cons_zero, List.getElem?_cons_succ] at q9_0 q9_1
  have f9_0 := blk_frozen D8.out 0
  have f9_1 := blk_frozen D8.out 1
  have G9 := Aside0.mk (blk_far G8.out (p := ⟨w4.heap.size, 1, none⟩) N3 (.string (s6.extract 0 m)))
  have D9 := Aside0.mk (blk_put (cs' := #[.string nm, .string (s6.extract 0 m)]) D8.out 1 (.string (s6.extract 0 m)) rfl)
  have B9 := Aside0.mk (B8.out.setCell (p := ⟨w4.heap.size, 1, none⟩) Z3.out (.string (s6.extract 0 m)))
  have q10_0 := blk_cell G9.out 0
  have q10_1 := blk_cell G9.out 1
  simp only [List.getElem?_toArray, List.getElem?_cons_zero, List.getElem?_cons_succ] at q10_0 q10_1
  have f10_0 := blk_frozen G9.out 0
  have f10_1 := blk_frozen G9.out 1
  have q11_0 := blk_cell D9.out 0
  have q11_1 := blk_cell D9.out 1
  simp only [List.getElem?_toArray, List.getElem?_cons_zero, List.getElem?_cons_succ] at q11_0 q11_1
  have f11_0 := blk_frozen D9.out 0
  have f11_1 := blk_frozen D9.out 1
  go_wp2_with fail
  refine (HQ.out _).mono ?_
  rintro e w9 ⟨rfl, hb⟩
  have G10 := Aside0.mk (blk_below G9.out hb)
  have D10 := Aside0.mk (blk_below D9.out hb)
  have B10 := Aside0.mk (B9.out.trans (hb.mono B9.out.size))
  clear hb
  have q12_0 := blk_cell G10.out 0
  have q12_1 := blk_cell G10.out 1
  simp only [List.getElem?_toArray, List.getElem?_cons_zero, List.getElem?_cons_succ] at q12_0 q12_1
  have f12_0 := blk_frozen G10.out 0
  have f12_1 := blk_frozen G10.out 1
  have q13_0 := blk_cell D10.out 0
  have q13_1 := blk_cell D10.out 1
  simp only [List.getElem?_toArray, List.getElem?_cons_zero, List.getElem?_cons_succ] at q13_0 q13_1
  have f13_0 := blk_frozen D10.out 0
  have f13_1 := blk_frozen D10.out 1
  have G11 := Aside0.mk (blk_far G10.out (p := ⟨w4.heap.size, 1, none⟩) N3 (.string v))
  have D11 := Aside0.mk (blk_put (cs' := #[.string nm, .string v]) D10.out 1 (.string v) rfl)
  have B11 := Aside0.mk (B10.out.setCell (p := ⟨w4.heap.size, 1, none⟩) Z3.out (.string v))
  have q14_0 := blk_cell G11.out 0
  have q14_1 := blk_cell G11.out 1
  simp only [List.getElem?_toArray, List.getElem?_cons_zero, List.getElem?_cons_succ] at q14_0 q14_1
  have f14_0 := blk_frozen G11.out 0
  have f14_1 := blk_frozen G11.out 1
  have q15_0 := blk_cell D11.out 0
  have q15_1 := blk_cell D11.out 1
  simp only [List.getElem?_toArray, List.getElem?_cons_zero, List.getElem?_cons_succ] at q15_0 q15_1
  have f15_0 := blk_frozen D11.out 0
  have f15_1 := blk_frozen D11.out 1
  go_wp2
  go_region
  go_wp2
  refine bodyPost_ret (results_ctt rfl _ _ w.heap.size 141 #[.string nm, .string v] (0, 0) _ rfl (blk_drew (put2 G11.out _ _)) Try.underlying141 rfl (by kernel_rfl)) rfl ⟨rfl, below_drew1 (below2 B11.out (Nat.le_refl _) _ _)⟩
theorem abutmentref08_Param.calls (a0 : ByteArray) (r1 : ByteArray) (r2 : ByteArray) (r3 : ByteArray) (r4 : Bool) (w : World) (h : abutmentref08_Param.f a0 = some (r1, r2, r3, r4)) :
    Calls Try.prog 125 #[.string a0] w fun e w' => e = .returned (.tuple #[.agg #[.string r1, .string r2], .string r3, .bool r4]) ∧ Below w.heap.size w w' := by
  unfold abutmentref08_Param.f at h
  split at h
  · rename_i hs
    injection h with h
    unfold paramR at h
    by_cases c1 : (skipS a0).size = 0 ∨ bt (skipS a0) 0 ≠ 59
    · rw [if_pos c1] at h
      simp only [noParam, Prod.mk.injEq] at h
      obtain ⟨rfl, rfl, rfl, rfl⟩ := h
      exact param_fail1 a0 hs _ rfl c1 w
    · rw [if_neg c1] at h
      have c1a : 0 < (skipS a0).size := Nat.pos_of_ne_zero fun e => c1 (.inl e)
      have c1b : bt (skipS a0) 0 = 59 := Classical.not_not.1 fun e => c1 (.inr e)
      unfold nameR at h
      by_cases c2 : spanN tcharI (skipS (restS (skipS a0) 1)) = 0
      · rw [if_pos c2] at h
        simp only [noParam, Prod.mk.injEq] at h
        obtain ⟨rfl, rfl, rfl, rfl⟩ := h
        exact param_fail2 a0 hs _ rfl c1a c1b _ rfl _ rfl c2 w
      · rw [if_neg c2] at h
        unfold valueR at h
        generalize hs3 : skipS (restS (skipS a0) 1) = s3 at h c2
        generalize hn : spanN tcharI s3 = n at h c2
        generalize hnm : lowerS (s3.extract 0 n) = nm at h
        generalize hs4 : restS s3 n = s4 at h
        generalize hk : spanN blankB s4 = k at h
        by_cases c3 : k = s4.size ∨ bt s4 (k : Int) ≠ 61
        · rw [if_pos c3] at h
          simp only [Prod.mk.injEq] at h
          obtain ⟨rfl, rfl, rfl, rfl⟩ := h
          exact param_plain a0 hs _ rfl c1a c1b _ rfl _ hs3 n hn c2 _ hnm _ hs4 k hk c3 w
        · rw [if_neg c3] at h
          have c3a : k < s4.size := by
            have h1 := spanN_le blankB s4
            have h2 : k ≠ s4.size := fun e => c3 (.inl e)
            omega
          have c3b : bt s4 (k : Int) = 61 := Classical.not_not.1 fun e => c3 (.inr e)
          generalize hs5 : restS s4 (k + 1) = s5 at h
          generalize hs6 : skipS s5 = s6 at h
          generalize hm : spanN tcharI s6 = m at h
          by_cases c4 : m = 0
          · rw [if_pos c4] at h
            simp only [Prod.mk.injEq] at h
            obtain ⟨rfl, rfl, rfl, rfl⟩ := h
            exact param_quoted a0 hs _ rfl c1a c1b _ rfl _ hs3 n hn c2 _ hnm _ hs4 k hk c3a c3b _ hs5 _ hs6 m hm c4 w
          · rw [if_neg c4] at h
            simp only [Prod.mk.injEq] at h
            obtain ⟨rfl, rfl, rfl, rfl⟩ := h
            exact param_token a0 hs _ rfl c1a c1b _ rfl _ hs3 n hn c2 _ hnm _ hs4 k hk c3a c3b _ hs5 _ hs6 m hm c4 w
  · exact absurd h (by simp)
end Go.Proofs.Ytjnhghplfdiijaa.Q

namespace Go.Proofs.Ytjnhghplfdiijaa.Q
open Go.RowKit Go.Proofs.YtjnhghplfdiijaaW.PrintWords Go.Proofs.YtjnhghplfdiijaaW.PrintLast
set_option linter.unusedVariables false
set_option linter.unusedSimpArgs false
def abutmentref08_Parse.l0 : Nat → ByteArray → ByteArray → List (S141) → Option (ByteArray × (List (S141)) × Int)
  | 0, _, _, _ => none
  | k + 1, x0, x6, x7 => if x0.toList = ([] : List UInt8) then (some (x6, x7, 0)) else ((abutmentref08_Param.f x0).bind fun bt106 => (if bt106.2.2.2 = true then (if x7.length < 4398046511104 then (abutmentref08_Parse.l0 k bt106.2.2.1 x6 (x7 ++ [(⟨bt106.1, bt106.2.1⟩ : S141)])) else (none)) else (some ((⟨#[]⟩ : ByteArray), ([] : List (S141)), 3))))
def abutmentref08_Parse.f (k : Nat) (a0 : ByteArray) : Option (ByteArray × (List (S141)) × Int) := if a0.toList = ([] : List UInt8) then (some ((⟨#[]⟩ : ByteArray), ([] : List (S141)), 2)) else ((abutmentref04_Token.f k a0).bind fun t101 => (if 0 ≤ t101 then (if t101 ≤ (a0.size : Int) then ((abutmentref01_Lower.f k (a0.extract 0 (t101 : Int).toNat)).bind fun t102 => (if t101 = 0 then (some ((⟨#[]⟩ : ByteArray), ([] : List (S141)), 3)) else (abutmentref08_Parse.l0 k (a0.extract (t101 : Int).toNat a0.size) t102 (([] : List (S141)))))) else (none)) else (none)))
theorem abutmentref08_Parse.mono_l : ∀ k, (∀ y0 y1 y2, LeO (abutmentref08_Parse.l0 k y0 y1 y2) (abutmentref08_Parse.l0 (k + 1) y0 y1 y2))
  | 0 => fun _ _ _ r h => by simp [abutmentref08_Parse.l0] at h
  | k + 1 => by
    have ih0 := abutmentref08_Parse.mono_l k
    · intro y0 y1 y2
      unfold abutmentref08_Parse.l0
      repeat' first
      | (with_reducible exact ih0 _ _ _)
      | (with_reducible exact abutmentref01_Lower.mono _ _)
      | (with_reducible exact abutmentref04_Token.mono _ _)
      | (with_reducible exact LeO.refl _)
      | (with_reducible exact LeO.none _)
      | (with_reducible refine LeO.ite ?_ ?_)
      | (with_reducible refine LeO.bind ?_ (fun _ => ?_))
      | exact ih0 _ _ _
      | exact abutmentref01_Lower.mono _ _
      | exact abutmentref04_Token.mono _ _
      | exact LeO.none _
      | refine LeO.ite ?_ ?_
      | refine LeO.bind ?_ (fun _ => ?_)
theorem abutmentref08_Parse.mono : ∀ a0 k, LeO (abutmentref08_Parse.f k a0) (abutmentref08_Parse.f (k + 1) a0) := by
  intro a0 k
  have ih0 := abutmentref08_Parse.mono_l k
  unfold abutmentref08_Parse.f
  repeat' first
      | (with_reducible exact ih0 _ _ _)
      | (with_reducible exact abutmentref01_Lower.mono _ _)
      | (with_reducible exact abutmentref04_Token.mono _ _)
      | (with_reducible exact LeO.refl _)
      | (with_reducible exact LeO.none _)
      | (with_reducible refine LeO.ite ?_ ?_)
      | (with_reducible refine LeO.bind ?_ (fun _ => ?_))
      | exact ih0 _ _ _
      | exact abutmentref01_Lower.mono _ _
      | exact abutmentref04_Token.mono _ _
      | exact LeO.none _
      | refine LeO.ite ?_ ?_
      | refine LeO.bind ?_ (fun _ => ?_)
set_option maxHeartbeats 8000000 in
set_option maxRecDepth 100000 in
theorem abutmentref08_Parse.calls (k : Nat) (a0 : ByteArray) (r1 : ByteArray) (r2 : List (S141)) (r3 : Int) (w : World) (h : abutmentref08_Parse.f k a0 = some (r1, r2, r3)) :
    Calls Try.prog 77 #[.string a0] w fun e w' => ∃ v1_ : Value, e = .returned (.tuple #[.string r1, v1_, .int .i64 r3]) ∧ Kd.R k141 141 w' w.heap.size (fun _ => True) v1_ r2 ∧ Below w.heap.size w w' := by
  have hu141 := Try.underlying141
  have HB := Aside0.mk (Below.refl w.heap.size w)
  have H : (if a0.toList = ([] : List UInt8) then (some ((⟨#[]⟩ : ByteArray), ([] : List (S141)), 2)) else ((abutmentref04_Token.f k a0).bind fun t101 => (if 0 ≤ t101 then (if t101 ≤ (a0.size : Int) then ((abutmentref01_Lower.f k (a0.extract 0 (t101 : Int).toNat)).bind fun t102 => (if t101 = 0 then (some ((⟨#[]⟩ : ByteArray), ([] : List (S141)), 3)) else (abutmentref08_Parse.l0 k (a0.extract (t101 : Int).toNat a0.size) t102 (([] : List (S141)))))) else (none)) else (none)))) = some (r1, r2, r3) := h
  clear h
  by_cases c2 : a0.toList = ([] : List UInt8)
  · rw [if_pos c2] at H
    have c2b0 : (a0.toList == ([] : List UInt8)) = true := beq_iff_eq.mpr c2
    have c2b1 : (a0.toList != ([] : List UInt8)) = false := bne_eq_false_iff_eq.mpr c2
    clear c2
    simp only [Option.some.injEq, Prod.mk.injEq] at H
    obtain ⟨rfl, rfl, rfl⟩ := H
    go_enter Try.func77, Try.ntmps77
    go_wp2
    go_ret3
    exact ⟨_, by first | rfl | (simp [errW_none, errW_some] <;> rfl) | (simp [*, errW_none, errW_some] <;> rfl), by first | exact Kd.R_nil _ _ _ _ _ | exact Kd.N_nil _ _ _ _ _ | exact Kd.V_nil _ _ _ _ _ | exact Kd.Q_nil _ _ _ _ _ | exact Kd.S_nil _ _ _ _ _, by repeat (first | (with_reducible first | exact HB.out | apply below_alloc | apply pw_below_drewN | apply below_drew1) | exact HB.out)⟩
  · rw [if_neg c2] at H
    have c2b0 : (a0.toList == ([] : List UInt8)) = false := beq_eq_false_iff_ne.mpr c2
    have c2b1 : (a0.toList != ([] : List UInt8)) = true := bne_iff_ne.mpr c2
    replace H := Option.bind_eq_some_iff.mp H
    obtain ⟨t101, A30, H⟩ := H
    (try dsimp only at H)
    have A3 := Aside0.mk A30
    clear A30
    by_cases c4 : 0 ≤ t101
    · rw [if_pos c4] at H
      have c4b0 := eq_true c4
      have c4b1 : decide (0 ≤ t101) = true := decide_eq_true c4
      clear c4
      by_cases c5 : t101 ≤ (a0.size : Int)
      · rw [if_pos c5] at H
        have c5b0 := eq_true c5
        have c5b1 : decide (t101 ≤ (a0.size : Int)) = true := decide_eq_true c5
        clear c5
        replace H := Option.bind_eq_some_iff.mp H
        obtain ⟨t102, A60, H⟩ := H
        (try dsimp only at H)
        have A6 := Aside0.mk A60
        clear A60
        obtain ⟨y103, hy103⟩ : ∃ y_ : List (S141), y_ = (([] : List (S141))) := ⟨_, rfl⟩
        replace H : (if t101 = 0 then (some ((⟨#[]⟩ : ByteArray), ([] : List (S141)), 3)) else (abutmentref08_Parse.l0 k (a0.extract (t101 : Int).toNat a0.size) t102 y103)) = some (r1, r2, r3) := by first | (rw [hy103]; with_reducible exact H) | (have H2_ := (Option.bind_some _ _).symm.trans H; rw [hy103]; with_reducible exact H2_) | (have H2_ := (Option.bind_some _ _).symm.trans H; with_reducible exact H2_) | with_reducible exact H | (rw [hy103]; exact H) | exact H
        have Ny103 := Aside0.mk hy103
        clear hy103
        by_cases c7 : t101 = 0
        · rw [if_pos c7] at H
          have c7b0 : (t101 == 0) = true := beq_iff_eq.mpr c7
          have c7b1 : (t101 != 0) = false := bne_eq_false_iff_eq.mpr c7
          clear c7
          simp only [Option.some.injEq, Prod.mk.injEq] at H
          obtain ⟨rfl, rfl, rfl⟩ := H
          go_enter Try.func77, Try.ntmps77
          go_wp2_with (first | ((with_reducible refine gate_callee (f := 124) rfl ?_); refine goesL_ (some 14) rfl rfl Try.func124 (by kernel_rfl) rfl #[.string a0] rfl (by (try simp only [List.map_toArray, List.map_cons, List.map_nil]); first | done | rfl | (simp only [List.length_drop, List.length_take]; rfl)) ?_; (with_reducible refine (abutmentref04_Token.calls k a0 t101 _ A3.out).mono ?_); rintro e w' ⟨rfl, ⟨nd, rfl⟩⟩; refine ⟨_, rfl, ?_⟩) | ((with_reducible refine gate_callee (f := 83) rfl ?_); refine goesL_ (some 18) rfl rfl Try.func83 (by kernel_rfl) rfl #[.string (a0.extract 0 (t101 : Int).toNat)] rfl (by (try simp only [List.map_toArray, List.map_cons, List.map_nil]); first | done | rfl | (simp only [List.length_drop, List.length_take]; rfl)) ?_; (with_reducible refine (abutmentref01_Lower.calls k (a0.extract 0 (t101 : Int).toNat) t102 _ A6.out).mono ?_); rintro e w8 ⟨rfl, hb⟩; refine ⟨_, rfl, ?_⟩; have n0_ := Aside0.mk (below_step (by repeat (first | (with_reducible first | exact HB.out | apply below_alloc | apply pw_below_drewN | apply below_drew1) | exact HB.out)) hb); clear HB; have HB := n0_; clear n0_; (try clear hb); (try clear hb2); (try clear hk); (try clear hi)) | ((with_reducible refine gate_dst (N := 19) rfl ?_); refine Kd.R_lit k141 _ 141 ?hg (N := 19) ?hd (xs := ([] : List (S141))) (inner := []) (ok := fun _ => True) (okp := fun _ => True) ?hr ?hp (fun _ hk => hk) trivial (Below.refl _ _) (Nat.le_refl _) (by simp) ?_; (case hd => rfl); (case hg => rfl); (case hr => first | (go_simp; done) | (go_simp; rfl)); (case hp => exact (Reps.none _ _)); intro v104 w9 ho10 hb hg_ hnew_; clear hg_ hnew_; (first | rw [← Ny103.out] at ho10 | (simp only [Int.reduceToNat] at ho10; rw [← Ny103.out] at ho10)); have n0_ := Aside0.mk (Kd.R_lower ho10 (below_size (by repeat (first | (with_reducible first | exact HB.out | apply below_alloc | apply pw_below_drewN | apply below_drew1) | exact HB.out)))); have n1_ := Aside0.mk (below_step (by repeat (first | (with_reducible first | exact HB.out | apply below_alloc | apply pw_below_drewN | apply below_drew1) | exact HB.out)) hb); clear HB; have HO105 := n0_; have HB := n1_; clear n0_ n1_; clear hb ho10))
          go_ret3
          exact ⟨_, by first | rfl | (simp [errW_none, errW_some] <;> rfl) | (simp [*, errW_none, errW_some] <;> rfl), by first | exact Kd.R_nil _ _ _ _ _ | exact Kd.N_nil _ _ _ _ _ | exact Kd.V_nil _ _ _ _ _ | exact Kd.Q_nil _ _ _ _ _ | exact Kd.S_nil _ _ _ _ _, by repeat (first | (with_reducible first | exact HB.out | apply below_alloc | apply pw_below_drewN | apply below_drew1) | exact HB.out)⟩
        · rw [if_neg c7] at H
          have c7b0 : (t101 == 0) = false := beq_eq_false_iff_ne.mpr c7
          have c7b1 : (t101 != 0) = true := bne_iff_ne.mpr c7
          have c11b0 := eq_true (of_decide_eq_true (by first | (with_reducible assumption) | assumption) : 0 ≤ t101)
          have c12b0 := eq_true (of_decide_eq_true (by first | (with_reducible assumption) | assumption) : t101 ≤ (a0.size : Int))
          have H' := Aside0.mk H
          clear H
          go_enter Try.func77, Try.ntmps77
          go_wp2_with (first | ((with_reducible refine gate_callee (f := 124) rfl ?_); refine goesL_ (some 14) rfl rfl Try.func124 (by kernel_rfl) rfl #[.string a0] rfl (by (try simp only [List.map_toArray, List.map_cons, List.map_nil]); first | done | rfl | (simp only [List.length_drop, List.length_take]; rfl)) ?_; (with_reducible refine (abutmentref04_Token.calls k a0 t101 _ A3.out).mono ?_); rintro e w' ⟨rfl, ⟨nd, rfl⟩⟩; refine ⟨_, rfl, ?_⟩) | ((with_reducible refine gate_callee (f := 83) rfl ?_); refine goesL_ (some 18) rfl rfl Try.func83 (by kernel_rfl) rfl #[.string (a0.extract 0 (t101 : Int).toNat)] rfl (by (try simp only [List.map_toArray, List.map_cons, List.map_nil]); first | done | rfl | (simp only [List.length_drop, List.length_take]; rfl)) ?_; (with_reducible refine (abutmentref01_Lower.calls k (a0.extract 0 (t101 : Int).toNat) t102 _ A6.out).mono ?_); rintro e w13 ⟨rfl, hb⟩; refine ⟨_, rfl, ?_⟩; have n0_ := Aside0.mk (below_step (by repeat (first | (with_reducible first | exact HB.out | apply below_alloc | apply pw_below_drewN | apply below_drew1) | exact HB.out)) hb); clear HB; have HB := n0_; clear n0_; (try clear hb); (try clear hb2); (try clear hk); (try clear hi)) | ((with_reducible refine gate_dst (N := 19) rfl ?_); refine Kd.R_lit k141 _ 141 ?hg (N := 19) ?hd (xs := ([] : List (S141))) (inner := []) (ok := fun _ => True) (okp := fun _ => True) ?hr ?hp (fun _ hk => hk) trivial (Below.refl _ _) (Nat.le_refl _) (by simp) ?_; (case hd => rfl); (case hg => rfl); (case hr => first | (go_simp; done) | (go_simp; rfl)); (case hp => exact (Reps.none _ _)); intro v104 w14 ho15 hb hg_ hnew_; clear hg_ hnew_; (first | rw [← Ny103.out] at ho15 | (simp only [Int.reduceToNat] at ho15; rw [← Ny103.out] at ho15)); have n0_ := Aside0.mk (Kd.R_lower ho15 (below_size (by repeat (first | (with_reducible first | exact HB.out | apply below_alloc | apply pw_below_drewN | apply below_drew1) | exact HB.out)))); have n1_ := Aside0.mk (below_step (by repeat (first | (with_reducible first | exact HB.out | apply below_alloc | apply pw_below_drewN | apply below_drew1) | exact HB.out)) hb); clear HB; have HO105 := n0_; have HB := n1_; clear n0_ n1_; clear hb ho15))
          go_loopg [0, 7] k (fun kq v0 v7 w' => ∃ (x0_1 : ByteArray) (x7_1 : List (S141)), v0 = .string x0_1 ∧ Aside0 (abutmentref08_Parse.l0 kq x0_1 t102 x7_1 = some (r1, r2, r3)) ∧ Aside0 (kq ≤ k) ∧ Aside0 (Kd.R k141 141 w' w.heap.size (fun _ => True) v7 x7_1) ∧ Aside0 (Below w.heap.size w w'))
          case atStart => exact ⟨(a0.extract (t101 : Int).toNat a0.size), (y103), (by first | rfl | (simp; done) | (simp [*]; done)), H', ⟨Nat.le_refl _⟩, ⟨by (with_reducible repeat (first | apply Kd.R_alloc | apply Kd.R_drewN | apply Kd.R_drew)); exact HO105.out⟩, ⟨by repeat (first | (with_reducible first | exact HB.out | apply below_alloc | apply pw_below_drewN | apply below_drew1) | exact HB.out)⟩⟩
          case round =>
            clear H'
            try clear c1
            try clear c2
            try clear c2b0
            try clear c2b1
            try clear p2
            try clear c4
            try clear c4b0
            try clear c4b1
            try clear c5
            try clear c5b0
            try clear c5b1
            try clear c7
            try clear c7b0
            try clear c7b1
            try clear c8
            try clear c11
            try clear c11b0
            try clear c12
            try clear c12b0
            obtain ⟨x0_1, x7_1, rfl, HA, HK1, HO_7, HB⟩ := hrel
            cases gk with
            | zero => exact absurd HA.out (by simp [abutmentref08_Parse.l0])
            | succ k1 =>
              have H := HA.out
              clear HA
              simp only [abutmentref08_Parse.l0] at H
              by_cases c16 : x0_1.toList = ([] : List UInt8)
              · rw [if_pos c16] at H
                have c16b0 : (x0_1.toList == ([] : List UInt8)) = true := beq_iff_eq.mpr c16
                have c16b1 : (x0_1.toList != ([] : List UInt8)) = false := bne_eq_false_iff_eq.mpr c16
                clear c16
                simp only [Option.some.injEq, Prod.mk.injEq] at H
                obtain ⟨rfl, rfl, rfl⟩ := H
                go_wp2
                go_ret3
                exact ⟨_, by first | rfl | (simp [errW_none, errW_some] <;> rfl) | (simp [*, errW_none, errW_some] <;> rfl), by (with_reducible repeat (first | apply Kd.R_alloc | apply Kd.R_drewN | apply Kd.R_drew)); exact HO_7.out, by repeat (first | (with_reducible first | exact HB.out | apply below_alloc | apply pw_below_drewN | apply below_drew1) | exact HB.out)⟩
              · rw [if_neg c16] at H
                have c16b0 : (x0_1.toList == ([] : List UInt8)) = false := beq_eq_false_iff_ne.mpr c16
                have c16b1 : (x0_1.toList != ([] : List UInt8)) = true := bne_iff_ne.mpr c16
                replace H := Option.bind_eq_some_iff.mp H
                obtain ⟨⟨t106, t107, t108, t109⟩, A170, H⟩ := H
                (try dsimp only at H)
                have A17 := Aside0.mk A170
                clear A170
                by_cases c18 : t109 = true
                · subst c18
                  have H1 : (if x7_1.length < 4398046511104 then (abutmentref08_Parse.l0 k1 t108 t102 (x7_1 ++ [(⟨t106, t107⟩ : S141)])) else (none)) = some (r1, r2, r3) := by rw [if_pos rfl] at H; exact H
                  clear H
                  have H := H1
                  clear H1
                  by_cases c19 : x7_1.length < 4398046511104
                  · rw [if_pos c19] at H
                    have LMc19 := Aside0.mk c19
                    clear c19
                    obtain ⟨y111, hy111⟩ : ∃ y_ : List (S141), y_ = (x7_1 ++ [(⟨t106, t107⟩ : S141)]) := ⟨_, rfl⟩
                    replace H : (abutmentref08_Parse.l0 k1 t108 t102 y111) = some (r1, r2, r3) := by first | (rw [hy111]; with_reducible exact H) | (have H2_ := (Option.bind_some _ _).symm.trans H; rw [hy111]; with_reducible exact H2_) | (have H2_ := (Option.bind_some _ _).symm.trans H; with_reducible exact H2_) | with_reducible exact H | (rw [hy111]; exact H) | exact H
                    have Ny111 := Aside0.mk hy111
                    clear hy111
                    have H' := Aside0.mk H
                    clear H
                    go_wp2_with (first | ((with_reducible refine gate_callee (f := 125) rfl ?_); refine goesL_ (some 29) rfl rfl Try.func125 (by kernel_rfl) rfl #[.string x0_1] rfl (by (try simp only [List.map_toArray, List.map_cons, List.map_nil]); first | done | rfl | (simp only [List.length_drop, List.length_take]; rfl)) ?_; (with_reducible refine (abutmentref08_Param.calls x0_1 t106 t107 t108 true _ A17.out).mono ?_); rintro e w20 ⟨rfl, hb⟩; refine ⟨_, rfl, ?_⟩; have n0_ := Aside0.mk (Kd.R_below (by (with_reducible repeat (first | apply Kd.R_alloc | apply Kd.R_drewN | apply Kd.R_drew)); exact HO_7.out) hb); have n1_ := Aside0.mk (below_step (by repeat (first | (with_reducible first | exact HB.out | apply below_alloc | apply pw_below_drewN | apply below_drew1) | exact HB.out)) hb); clear HO_7; clear HB; have HO_7 := n0_; have HB := n1_; clear n0_ n1_; (try clear hb); (try clear hb2); (try clear hk); (try clear hi)) | ((with_reducible refine gate_dst (N := 8) rfl ?_); refine box_event ?hg (N := 8) ?hd (cs := #[.string (⟨#[]⟩ : ByteArray), .string (⟨#[]⟩ : ByteArray)]) (t := 141) ?hr ?_; (case hd => rfl); (case hg => rfl); (case hr => first | (go_simp; done) | (go_simp; rfl)); intro gb110 hg w21 hbox hb; have n0_ := Aside0.mk (Kd.R_below (Kd.R_elderB (by (with_reducible repeat (first | apply Kd.R_alloc | apply Kd.R_drewN | apply Kd.R_drew)); exact HO_7.out) gb110 (Nat.le_of_eq hg.symm)) hb); have n1_ := Aside0.mk (below_step (by repeat (first | (with_reducible first | exact HB.out | apply below_alloc | apply pw_below_drewN | apply below_drew1) | exact HB.out)) hb); have n2_ := Aside0.mk (hbox); have n3_ := Aside0.mk ((by rw [hg]; exact (below_size (by repeat (first | (with_reducible first | exact HB.out | apply below_alloc | apply pw_below_drewN | apply below_drew1) | exact HB.out))) : w.heap.size ≤ gb110)); have n4_ := Aside0.mk ((by rw [hg]; exact (below_size (by repeat (first | (with_reducible first | exact HB.out | apply below_alloc | apply pw_below_drewN | apply below_drew1) | exact HB.out))) : w.heap.size ≤ gb110)); clear HO_7; clear HB; have HO_7 := n0_; have HB := n1_; have BK110 := n2_; have GW110 := n3_; have GE110 := n4_; clear n0_ n1_ n2_ n3_ n4_; clear hb hbox hg; have hcz22_0 : w21.cell? ⟨gb110, 0, none⟩ = some (.string (⟨#[]⟩ : ByteArray)) := (blk_cell BK110.out 0).trans rfl; have hcz22_1 : w21.cell? ⟨gb110, 1, none⟩ = some (.string (⟨#[]⟩ : ByteArray)) := (blk_cell BK110.out 1).trans rfl; have hfz22_0 := blk_frozen BK110.out 0; have hfz22_1 := blk_frozen BK110.out 1) | ((with_reducible refine gate_builtin (b := .append) (xs := #[.tmp 35, .tmp 37]) rfl ?_); at_builtin; refine Kd.R_append k141 (w0 := w) w.heap.size rfl (.tmp 35) (.tmp 37) 98 141 (.agg #[(.string ⟨#[]⟩), (.string ⟨#[]⟩)]) 32 rfl Try.underlying98 info141 rfl (by decide) (by omega) u7 x7_1 (⟨t106, t107⟩ : S141) [.string t106, .string t107] (fun k_ => k_ ≠ gb110) (fun _ => False) rfl (by first | (go_simp; done) | (go_simp; rfl)) ?aP (fun _ hk => hk.elim) ?aF ?aO ?aB ?aS ?aL ?_; (case aP => exact k141_mkM _ _ _ (⟨t106, t107⟩ : S141)); (case aB => exact (by repeat (first | (with_reducible first | exact HB.out | apply below_alloc | apply pw_below_drewN | apply below_drew1 | refine below_set ?_ GE110.out) | exact HB.out))); (case aF => exact (fun k_ hk => Kd.freshB (g := gb110) (o := .cells #[.string t106, .string t107] 141 (0, 0)) (by (with_reducible repeat (first | refine blk_drewN ?_ _ | refine blk_drew ?_ | refine blk_alloc ?_ _)); refine blk_put (cs := #[.string t106, .string (⟨#[]⟩ : ByteArray)]) ?_ 1 _ rfl; (with_reducible repeat (first | refine blk_drewN ?_ _ | refine blk_drew ?_ | refine blk_alloc ?_ _)); refine blk_put (cs := #[.string (⟨#[]⟩ : ByteArray), .string (⟨#[]⟩ : ByteArray)]) ?_ 0 _ rfl; (with_reducible repeat (first | refine blk_drewN ?_ _ | refine blk_drew ?_ | refine blk_alloc ?_ _)); exact BK110.out) k_ hk)); (case aO => exact (by (with_reducible repeat (first | apply Kd.R_alloc | apply Kd.R_drewN | apply Kd.R_drew)); exact Kd.R_mono (Kd.R_far (p := ⟨gb110, 1, none⟩) (Kd.R_far (p := ⟨gb110, 0, none⟩) (Kd.R_mono HO_7.out (fun k_ hk => (⟨hk, hk.2⟩ : _ ∧ k_ ≠ gb110))) (fun _ hk => hk.2) (.string t106)) (fun _ hk => hk.2) (.string t107)) (fun _ hk => hk.1.2))); (case aS => exact (below_size (by repeat (first | (with_reducible first | exact HB.out | apply below_alloc | apply pw_below_drewN | apply below_drew1 | refine below_set ?_ GE110.out) | exact HB.out)))); (case aL => have := LMc19.out; omega); intro v112 w23 ho hb hg hat; rw [← Ny111.out] at ho; have n0_ := Aside0.mk (blk_grown (g := gb110) (o := .cells #[.string t106, .string t107] 141 (0, 0)) (by (with_reducible repeat (first | refine blk_drewN ?_ _ | refine blk_drew ?_ | refine blk_alloc ?_ _)); refine blk_put (cs := #[.string t106, .string (⟨#[]⟩ : ByteArray)]) ?_ 1 _ rfl; (with_reducible repeat (first | refine blk_drewN ?_ _ | refine blk_drew ?_ | refine blk_alloc ?_ _)); refine blk_put (cs := #[.string (⟨#[]⟩ : ByteArray), .string (⟨#[]⟩ : ByteArray)]) ?_ 0 _ rfl; (with_reducible repeat (first | refine blk_drewN ?_ _ | refine blk_drew ?_ | refine blk_alloc ?_ _)); exact BK110.out) hg (Kd.R_away HO_7.out (fun _ hk => hk.2))); have n1_ := Aside0.mk (hb); have n2_ := Aside0.mk (ho); clear BK110; clear HB; clear HO_7; have BK110 := n0_; have HB := n1_; have HO113 := n2_; clear n0_ n1_ n2_; clear ho hb hg hat))
                    go_roundg k1
                    case measure => have := HK1.out; omega
                    case rel => exact ⟨(t108), (y111), (by first | rfl | (simp; done) | (simp [*]; done)), H', ⟨by have := HK1.out; omega⟩, ⟨by (with_reducible repeat (first | apply Kd.R_alloc | apply Kd.R_drewN | apply Kd.R_drew)); exact Kd.R_mono HO113.out (fun _ hk => trivial)⟩, ⟨by repeat (first | (with_reducible first | exact HB.out | apply below_alloc | apply pw_below_drewN | apply below_drew1 | refine below_set ?_ GE110.out) | exact HB.out)⟩⟩
                  · rw [if_neg c19] at H
                    exact absurd H (by simp)
                · replace c18 := Bool.eq_false_iff.mpr c18
                  subst c18
                  have H1 : (some ((⟨#[]⟩ : ByteArray), ([] : List (S141)), 3)) = some (r1, r2, r3) := by rw [if_neg (show ¬ (false = true) by decide)] at H; exact H
                  clear H
                  have H := H1
                  clear H1
                  simp only [Option.some.injEq, Prod.mk.injEq] at H
                  obtain ⟨rfl, rfl, rfl⟩ := H
                  go_wp2_with (first | ((with_reducible refine gate_callee (f := 125) rfl ?_); refine goesL_ (some 29) rfl rfl Try.func125 (by kernel_rfl) rfl #[.string x0_1] rfl (by (try simp only [List.map_toArray, List.map_cons, List.map_nil]); first | done | rfl | (simp only [List.length_drop, List.length_take]; rfl)) ?_; (with_reducible refine (abutmentref08_Param.calls x0_1 t106 t107 t108 false _ A17.out).mono ?_); rintro e w24 ⟨rfl, hb⟩; refine ⟨_, rfl, ?_⟩; have n0_ := Aside0.mk (Kd.R_below (by (with_reducible repeat (first | apply Kd.R_alloc | apply Kd.R_drewN | apply Kd.R_drew)); exact HO_7.out) hb); have n1_ := Aside0.mk (below_step (by repeat (first | (with_reducible first | exact HB.out | apply below_alloc | apply pw_below_drewN | apply below_drew1) | exact HB.out)) hb); clear HO_7; clear HB; have HO_7 := n0_; have HB := n1_; clear n0_ n1_; (try clear hb); (try clear hb2); (try clear hk); (try clear hi)) | ((with_reducible refine gate_dst (N := 8) rfl ?_); refine box_event ?hg (N := 8) ?hd (cs := #[.string (⟨#[]⟩ : ByteArray), .string (⟨#[]⟩ : ByteArray)]) (t := 141) ?hr ?_; (case hd => rfl); (case hg => rfl); (case hr => first | (go_simp; done) | (go_simp; rfl)); intro gb110 hg w25 hbox hb; have n0_ := Aside0.mk (Kd.R_below (Kd.R_elderB (by (with_reducible repeat (first | apply Kd.R_alloc | apply Kd.R_drewN | apply Kd.R_drew)); exact HO_7.out) gb110 (Nat.le_of_eq hg.symm)) hb); have n1_ := Aside0.mk (below_step (by repeat (first | (with_reducible first | exact HB.out | apply below_alloc | apply pw_below_drewN | apply below_drew1) | exact HB.out)) hb); have n2_ := Aside0.mk (hbox); have n3_ := Aside0.mk ((by rw [hg]; exact (below_size (by repeat (first | (with_reducible first | exact HB.out | apply below_alloc | apply pw_below_drewN | apply below_drew1) | exact HB.out))) : w.heap.size ≤ gb110)); have n4_ := Aside0.mk ((by rw [hg]; exact (below_size (by repeat (first | (with_reducible first | exact HB.out | apply below_alloc | apply pw_below_drewN | apply below_drew1) | exact HB.out))) : w.heap.size ≤ gb110)); clear HO_7; clear HB; have HO_7 := n0_; have HB := n1_; have BK110 := n2_; have GW110 := n3_; have GE110 := n4_; clear n0_ n1_ n2_ n3_ n4_; clear hb hbox hg; have hcz26_0 : w25.cell? ⟨gb110, 0, none⟩ = some (.string (⟨#[]⟩ : ByteArray)) := (blk_cell BK110.out 0).trans rfl; have hcz26_1 : w25.cell? ⟨gb110, 1, none⟩ = some (.string (⟨#[]⟩ : ByteArray)) := (blk_cell BK110.out 1).trans rfl; have hfz26_0 := blk_frozen BK110.out 0; have hfz26_1 := blk_frozen BK110.out 1))
                  go_ret3
                  exact ⟨_, by first | rfl | (simp [errW_none, errW_some] <;> rfl) | (simp [*, errW_none, errW_some] <;> rfl), by first | exact Kd.R_nil _ _ _ _ _ | exact Kd.N_nil _ _ _ _ _ | exact Kd.V_nil _ _ _ _ _ | exact Kd.Q_nil _ _ _ _ _ | exact Kd.S_nil _ _ _ _ _, by repeat (first | (with_reducible first | exact HB.out | apply below_alloc | apply pw_below_drewN | apply below_drew1 | refine below_set ?_ GE110.out) | exact HB.out)⟩
      · rw [if_neg c5] at H
        exact absurd H (by simp)
    · rw [if_neg c4] at H
      exact absurd H (by simp)
end Go.Proofs.Ytjnhghplfdiijaa.Q

namespace Go.Proofs.Ytjnhghplfdiijaa.Q
open Go.RowKit Go.Proofs.YtjnhghplfdiijaaW.PrintWords Go.Proofs.YtjnhghplfdiijaaW.PrintLast
set_option linter.unusedVariables false
set_option linter.unusedSimpArgs false
theorem tl_restS (s : ByteArray) (n : Nat) : tl (restS s n) = (tl s).drop n := by
  unfold restS
  rw [tl_extract, List.take_of_length_le (by rw [List.length_drop, tl_length]; exact Nat.le_refl _)]
theorem restS_restS (s : ByteArray) (a b : Nat) : restS (restS s a) b = restS s (a + b) := by
  apply tl_inj
  rw [tl_restS, tl_restS, tl_restS, List.drop_drop]
theorem restS_zero (s : ByteArray) : restS s 0 = s := tl_inj (by rw [tl_restS, List.drop_zero])
theorem skipS_rest (s : ByteArray) : skipS s = restS s (spanN blankB s) := rfl
theorem bt_restS (s : ByteArray) (a i : Nat) : bt (restS s a) (i : Int) = bt s ((a + i : Nat) : Int) := by
  rw [bt_nat, bt_nat, tl_restS, List.getElem?_drop]
theorem left_f (s : ByteArray) (a : Nat) (ha : a ≤ s.size) (hs : s.size ≤ 1000000000) : cursor_Cursor_Left.f s (a : Int) = some (restS s a, s, (a : Int)) := by
  unfold cursor_Cursor_Left.f
  rw [if_pos (by omega), if_pos (by omega)]
  rfl
theorem take_f (s : ByteArray) (a : Nat) (ha : a ≤ s.size) (hs : s.size ≤ 1000000000) (n : Nat) (hn : a + n ≤ s.size) : cursor_Cursor_take.f s (a : Int) (n : Int) = some ((restS s a).extract 0 n, s, ((a + n : Nat) : Int)) := by
  unfold cursor_Cursor_take.f
  rw [if_pos ⟨by omega, by omega, by omega, by omega, by omega⟩, Int.toNat_natCast, Int.natCast_add]
  rfl
theorem span_f (s : ByteArray) (a : Nat) (ha : a ≤ s.size) (hs : s.size ≤ 1000000000) (p : Int → Bool) : takeSpan p s (a : Int) = some ((restS s a).extract 0 (spanN p (restS s a)), s, ((a + spanN p (restS s a) : Nat) : Int)) := by
  unfold takeSpan
  rw [if_pos ⟨by omega, by omega, by omega⟩, Int.natCast_add]
  rfl
theorem span_fits (s : ByteArray) (a : Nat) (ha : a ≤ s.size) (hs : s.size ≤ 1000000000) (p : Int → Bool) : a + spanN p (restS s a) ≤ s.size := by
  have := spanN_le p (restS s a)
  rw [restS_size] at this
  omega
theorem skip_f (s : ByteArray) (a : Nat) (ha : a ≤ s.size) (hs : s.size ≤ 1000000000) : cursor_Cursor_Skip.f s (a : Int) = some (((spanN blankB (restS s a) : Nat) : Int), s, ((a + spanN blankB (restS s a) : Nat) : Int)) := by
  unfold cursor_Cursor_Skip.f
  rw [span_f s a ha hs]
  have h : ((restS s a).extract 0 (spanN blankB (restS s a))).size = spanN blankB (restS s a) := by
    have := spanN_le blankB (restS s a)
    simp; omega
  simp only [Option.map_some, h]
theorem token_f (s : ByteArray) (a : Nat) (ha : a ≤ s.size) (hs : s.size ≤ 1000000000) : cursor_Cursor_Token.f s (a : Int) = some ((restS s a).extract 0 (spanN tcharI (restS s a)), s, ((a + spanN tcharI (restS s a) : Nat) : Int)) := span_f s a ha hs tcharI
theorem byte_yes (s : ByteArray) (a : Nat) (ha : a ≤ s.size) (hs : s.size ≤ 1000000000) (c : Int) (h : a < s.size) (hc : bt s (a : Int) = c) : cursor_Cursor_Byte.f s (a : Int) c = some (true, s, ((a + 1 : Nat) : Int)) := by
  unfold cursor_Cursor_Byte.f
  rw [left_f s a ha hs]
  simp only [Option.bind_some]
  have hz := restS_size s a
  have hb : bt (restS s a) 0 = c := by have := bt_restS s a 0; rw [Nat.add_zero] at this; rw [← hc]; exact this
  rw [if_neg (by rw [toL_nil]; omega), if_pos (by omega), if_pos hb]
  have := take_f s a ha hs 1 (by omega)
  have e : cursor_Cursor_take.f s (a : Int) 1 = some ((restS s a).extract 0 1, s, ((a + 1 : Nat) : Int)) := this
  rw [e]
  rfl
theorem byte_no (s : ByteArray) (a : Nat) (ha : a ≤ s.size) (hs : s.size ≤ 1000000000) (c : Int) (h : a = s.size ∨ bt s (a : Int) ≠ c) : cursor_Cursor_Byte.f s (a : Int) c = some (false, s, (a : Int)) := by
  unfold cursor_Cursor_Byte.f
  rw [left_f s a ha hs]
  simp only [Option.bind_some]
  have hz := restS_size s a
  by_cases e : a = s.size
  · rw [if_pos (by rw [toL_nil]; omega)]
  · have hb : bt (restS s a) 0 ≠ c := by have := bt_restS s a 0; rw [Nat.add_zero] at this; rw [show bt (restS s a) 0 = _ from this]; exact h.resolve_left e
    rw [if_neg (by rw [toL_nil]; omega), if_pos (by omega), if_neg hb]
theorem done_f (s : ByteArray) (a : Nat) (ha : a ≤ s.size) (hs : s.size ≤ 1000000000) : cursor_Cursor_Done.f s (a : Int) = some (decide (a = s.size), s, (a : Int)) := by
  unfold cursor_Cursor_Done.f
  rw [left_f s a ha hs]
  simp only [Option.bind_some]
  have hz := restS_size s a
  have e : ((restS s a).toList == ([] : List UInt8)) = decide (a = s.size) := by
    rw [Bool.eq_iff_iff, beq_iff_eq, decide_eq_true_eq, toL_nil]
    omega
  rw [e]
theorem value_one (c : UInt8) : octet_Value.f (strOfNums [(c.toNat : Int)]) = some (valC c) := by
  unfold octet_Value.f
  have e : strOfNums [(c.toNat : Int)] = ofl [c] := by simp [strOfNums, ofl]
  rw [e, all8_tl, tl_ofl]
  simp [valC]
def natsOf (l : List UInt8) : List Int := l.map fun c => (c.toNat : Int)
theorem strOf_nats (l : List UInt8) : strOfNums (natsOf l) = ofl l := by
  unfold strOfNums natsOf ofl
  rw [List.map_map]
  congr 1
  have : ((fun n : Int => UInt8.ofNat n.toNat) ∘ fun c : UInt8 => (c.toNat : Int)) = id := by
    funext c; simp
  rw [this, List.map_id]
/-- What the program's Quoted comes to, from octet i of what is left. -/
def quotedP (s : ByteArray) (a : Nat) (t : ByteArray) (o : Option (List UInt8 × List UInt8)) : ByteArray × Bool × ByteArray × Int :=
  match o with | some (v, r) => (ofl v, true, s, ((a + (t.size - r.length) : Nat) : Int)) | none => (⟨#[]⟩, false, s, (a : Int))
theorem pquoted_loop (s : ByteArray) (a : Nat) (ha : a ≤ s.size) (hs : s.size ≤ 1000000000) : ∀ (n : Nat) (r : List UInt8) (i k : Nat) (acc : List UInt8), r.length ≤ n → (tl (restS s a)).drop i = r → acc.length ≤ i → 2 * r.length + 3 < k →
    cursor_Cursor_Quoted.l0 k (restS s a) (natsOf acc) (i : Int) s (a : Int) = some (quotedP s a (restS s a) (qL r acc))
  | n, [], i, k, acc, hn, h, hac, hk => by
    have h1 := at_nil h
    obtain ⟨k, rfl⟩ : ∃ m, k = m + 1 := ⟨k - 1, by omega⟩
    simp only [cursor_Cursor_Quoted.l0]
    rw [if_neg (by omega)]
    unfold qL quotedP
    rfl
  | 0, c :: r, i, k, acc, hn, h, hac, hk => by simp at hn
  | n + 1, c :: r, i, k, acc, hn, h, hac, hk => by
    obtain ⟨h1, h2, h3, _⟩ := at_cons h
    have hz := restS_size s a
    have hw := Aside0.mk (wrap_succ h1 (show (restS s a).size ≤ 9223372036854775807 by omega))
    have hsz : (restS s a).size - r.length = i + 1 := by
      have := congrArg List.length h3
      rw [List.length_drop, tl_length] at this
      omega
    simp only [List.length_cons] at hk hn
    obtain ⟨k, rfl⟩ : ∃ m, k = m + 1 := ⟨k - 1, by omega⟩
    have hal : (natsOf acc).length < 140737488355328 := by unfold natsOf; rw [List.length_map]; omega
    have hsnoc : ∀ d : UInt8, natsOf acc ++ [(d.toNat : Int)] = natsOf (acc ++ [d]) := fun d => by simp [natsOf]
    by_cases e1 : c = 34
    · have e : qL (c :: r) acc = some (acc, r) := by
        cases r with
        | nil => simp only [qL]; rw [if_pos e1]
        | cons d r => simp only [qL]; rw [if_pos e1]
      rw [e]
      simp only [cursor_Cursor_Quoted.l0]
      rw [if_pos (by omega), if_pos (by omega), h2, if_pos ((u34 c).2 e1), hw.out, take_f s a ha hs (i + 1) (by omega)]
      simp only [Option.bind_some, quotedP, strOf_nats]
      rw [hsz]
    by_cases e2 : c = 92
    · obtain ⟨k, rfl⟩ : ∃ m, k = m + 1 := ⟨k - 1, by omega⟩
      cases r with
      | nil =>
        simp only [List.length_nil] at hsz
        have e : qL [c] acc = none := by simp only [qL]; rw [if_neg e1]
        have hb : (((i + 1 : Nat) : Int) == ((restS s a).size : Int)) = true := beq_iff_eq.mpr (by omega)
        rw [e]
        simp only [cursor_Cursor_Quoted.l0]
        rw [if_pos (by omega), if_pos (by omega), h2, if_neg (by rw [u34]; exact e1), if_pos ((u92 c).2 e2), hw.out, hb]
        simp only [cursor_Cursor_Quoted.j2]
        rw [if_pos trivial]
        rfl
      | cons d r =>
        obtain ⟨g1, g2, g3, _⟩ := at_cons h3
        have hb : (((i + 1 : Nat) : Int) == ((restS s a).size : Int)) = false := beq_eq_false_iff_ne.mpr (by omega)
        have hw2 := Aside0.mk (add1 g1 (show (restS s a).size ≤ 9223372036854775807 by omega))
        have e : qL (c :: d :: r) acc = if valC d = true then qL r (acc ++ [d]) else none := by simp only [qL]; rw [if_neg e1, if_pos e2]
        simp only [cursor_Cursor_Quoted.l0]
        rw [if_pos (by omega), if_pos (by omega), h2, if_neg (by rw [u34]; exact e1), if_pos ((u92 c).2 e2), hw.out, hb]
        simp only [cursor_Cursor_Quoted.j2]
        rw [if_neg (by simp), if_pos ((u92 c).2 e2), hw.out, if_pos (by omega), if_pos (by omega), g2, value_one]
        simp only [Option.bind_some]
        rw [e]
        by_cases hv : valC d = true
        · rw [if_pos hv, if_pos hv, if_pos hal, hw2.out, hsnoc]
          exact pquoted_loop s a ha hs n r (i + 2) k (acc ++ [d]) (by simp at hn; omega) g3 (by rw [List.length_append, List.length_singleton]; omega) (by simp at hk; omega)
        · rw [if_neg hv, if_neg hv]
          rfl
    · obtain ⟨k, rfl⟩ : ∃ m, k = m + 1 := ⟨k - 1, by omega⟩
      have e : qL (c :: r) acc = if valC c = true then qL r (acc ++ [c]) else none := by
        cases r with
        | nil => simp only [qL]; rw [if_neg e1]; split <;> rfl
        | cons d r => simp only [qL]; rw [if_neg e1, if_neg e2]
      simp only [cursor_Cursor_Quoted.l0]
      rw [if_pos (by omega), if_pos (by omega), h2, if_neg (by rw [u34]; exact e1), if_neg (by rw [u92]; exact e2)]
      simp only [cursor_Cursor_Quoted.j2]
      rw [if_neg (by simp), if_neg (by rw [u92]; exact e2), value_one]
      simp only [Option.bind_some]
      rw [e]
      by_cases hv : valC c = true
      · rw [if_pos hv, if_pos hv, if_pos hal, hw.out, hsnoc]
        exact pquoted_loop s a ha hs n r (i + 1) k (acc ++ [c]) (by omega) h3 (by rw [List.length_append, List.length_singleton]; omega) (by omega)
      · rw [if_neg hv, if_neg hv]
        rfl
theorem quoted_f (s : ByteArray) (a k : Nat) (ha : a ≤ s.size) (hs : s.size ≤ 1000000000) (hk : 2 * (restS s a).size + 5 < k) : cursor_Cursor_Quoted.f k s (a : Int) = some (quotedP s a (restS s a) (quotedL (tl (restS s a)))) := by
  unfold cursor_Cursor_Quoted.f
  rw [left_f s a ha hs]
  simp only [Option.bind_some]
  obtain ⟨k, rfl⟩ : ∃ m, k = m + 1 := ⟨k - 1, by omega⟩
  cases h : tl (restS s a) with
  | nil =>
    have hz : (restS s a).size = 0 := by rw [← tl_length, h]; rfl
    rw [if_pos (by rw [toL_nil]; exact hz)]
    simp only [cursor_Cursor_Quoted.j0]
    rw [if_pos trivial]
    rfl
  | cons c r =>
    have hl : (restS s a).size = r.length + 1 := by rw [← tl_length, h]; rfl
    obtain ⟨h1, h2, h3, _⟩ := at_cons (s := restS s a) (i := 0) (c := c) (r := r) h
    have h2 : bt (restS s a) 0 = (c.toNat : Int) := h2
    rw [if_neg (by rw [toL_nil]; omega), if_pos (by omega), h2]
    simp only [cursor_Cursor_Quoted.j0, quotedL]
    by_cases e1 : c = 34
    · rw [if_neg (by simp [(u34 c).2 e1]), if_pos e1]
      exact pquoted_loop s a ha hs r.length r 1 k [] (Nat.le_refl _) h3 (by simp) (by omega)
    · rw [if_pos (by simp only [bne_iff_ne, ne_eq, u34]; exact e1), if_neg e1]
      rfl
/-- What stands behind a parameter's name, as both read it. -/
theorem value_f (nm s : ByteArray) (a k : Nat) (ha : a ≤ s.size) (hs : s.size ≤ 1000000000) (hk : 2 * s.size + 5 < k) :
    ∃ (v : ByteArray) (ok : Bool) (b : Nat), params_value.f k s (a : Int) = some (v, ok, s, (b : Int)) ∧ b ≤ s.size ∧ a ≤ b ∧ valueR nm (restS s a) = (nm, v, restS s b, ok) := by
  have hz := restS_size s a
  have h0 : (0 : Nat) ≤ (restS s a).size := Nat.zero_le _
  have hsl : (restS s a).size ≤ 1000000000 := by omega
  have hsk := skip_f (restS s a) 0 h0 hsl
  rw [restS_zero, Nat.zero_add] at hsk
  have hle := spanN_le blankB (restS s a)
  unfold params_value.f
  rw [left_f s a ha hs]
  simp only [Option.bind_some]
  rw [show cursor_Cursor_Skip.f (restS s a) 0 = _ from hsk]
  simp only [Option.bind_some]
  generalize hn : spanN blankB (restS s a) = n at hsk hle
  unfold valueR
  rw [hn]
  by_cases c1 : n = (restS s a).size ∨ bt (restS s a) (n : Int) ≠ 61
  · rw [byte_no (restS s a) n hle hsl 61 c1, if_pos c1]
    simp only [Option.bind_some]
    rw [if_neg (by simp)]
    exact ⟨⟨#[]⟩, true, a, rfl, ha, Nat.le_refl _, rfl⟩
  · have c1a : n < (restS s a).size := by
      have : n ≠ (restS s a).size := fun e => c1 (.inl e)
      omega
    have c1b : bt (restS s a) (n : Int) = 61 := Classical.not_not.1 fun e => c1 (.inr e)
    rw [byte_yes (restS s a) n hle hsl 61 c1a c1b, if_neg c1]
    simp only [Option.bind_some, if_true]
    rw [skip_f s a ha hs, hn]
    simp only [Option.bind_some]
    have c2 : bt s ((a + n : Nat) : Int) = 61 := by rw [← bt_restS]; exact c1b
    rw [byte_yes s (a + n) (by omega) hs 61 (by omega) c2]
    simp only [Option.bind_some]
    rw [skip_f s (a + n + 1) (by omega) hs]
    simp only [Option.bind_some]
    have e5 : restS (restS s a) (n + 1) = restS s (a + n + 1) := by rw [restS_restS]; rfl
    rw [e5, skipS_rest, restS_restS]
    have hle5 := span_fits s (a + n + 1) (by omega) hs blankB
    generalize hb : a + n + 1 + spanN blankB (restS s (a + n + 1)) = b at hle5
    have hab : a ≤ b := by omega
    rw [token_f s b hle5 hs]
    simp only [Option.bind_some]
    have hlem := spanN_le tcharI (restS s b)
    have hzb := restS_size s b
    generalize hm : spanN tcharI (restS s b) = m at hlem
    have hez : ((restS s b).extract 0 m).size = m := by
      rw [ByteArray.size_extract]; omega
    have hem : ((restS s b).extract 0 m).toList = [] ↔ m = 0 := by
      rw [toL_nil, hez]
    by_cases c3 : m = 0
    · rw [if_pos (hem.2 c3), if_pos c3, c3, Nat.add_zero, quoted_f s b k hle5 hs (by omega)]
      unfold quotedP quotedR
      cases hq : quotedL (tl (restS s b)) with
      | none =>
        refine ⟨⟨#[]⟩, false, b, rfl, hle5, hab, ?_⟩
        simp only
        rw [show (0 : Int).toNat = 0 from rfl, restS_zero]
        rfl
      | some x =>
        obtain ⟨v, r⟩ := x
        have hlq := quotedL_length hq
        rw [tl_length] at hlq
        refine ⟨ofl v, true, b + ((restS s b).size - r.length), rfl, by omega, by omega, ?_⟩
        simp only
        rw [Int.toNat_natCast, restS_restS, decide_eq_true (by omega)]
    · rw [if_neg (fun h => c3 (hem.1 h)), if_neg c3]
      refine ⟨(restS s b).extract 0 m, true, b + m, rfl, by omega, by omega, ?_⟩
      rw [restS_restS]
theorem low_plain (s : ByteArray) (hs : s.size ≤ 1000000000) : octet_Lower.f s = some (lowerS s) := by
  unfold octet_Lower.f
  rw [if_pos (by omega)]
theorem lowerS_size (s : ByteArray) : (lowerS s).size = s.size := by rw [lowerS_tl, ofl_size, List.length_map, tl_length]
/-- One parameter, as both read it. -/
theorem next_f (s : ByteArray) (a k : Nat) (ha : a ≤ s.size) (hs : s.size ≤ 1000000000) (hk : 2 * s.size + 5 < k) :
    ∃ (bad more : Bool) (p : S141) (b : Nat), params_next.f k s (a : Int) = some ((bad, p, more), s, (b : Int)) ∧ b ≤ s.size ∧
      ((bad = true ∧ more = false ∧ (paramR (restS s a)).2.2.2 = false) ∨ (bad = false ∧ a < b ∧ more = !decide (b = s.size) ∧ paramR (restS s a) = (p.f0, p.f1, restS s b, true))) := by
  unfold params_next.f
  rw [skip_f s a ha hs]
  simp only [Option.bind_some]
  have f1 := span_fits s a ha hs blankB
  have e1 : skipS (restS s a) = restS s (a + spanN blankB (restS s a)) := by rw [skipS_rest, restS_restS]
  generalize ha1 : a + spanN blankB (restS s a) = a1 at f1 e1
  have ha1 : a ≤ a1 := by omega
  -- the separator
  have sep : ∃ (y : Bool) (a2 : Nat), cursor_Cursor_Byte.f s (a1 : Int) 59 = some (y, s, (a2 : Int)) ∧ a2 ≤ s.size ∧ a1 ≤ a2 ∧ ((y = false ∧ (skipS (restS s a)).size = 0 ∨ y = false ∧ bt (skipS (restS s a)) 0 ≠ 59) ∨ (y = true ∧ a2 = a1 + 1 ∧ ¬((skipS (restS s a)).size = 0 ∨ bt (skipS (restS s a)) 0 ≠ 59))) := by
    have hz := restS_size s a1
    have hb : bt (restS s a1) 0 = bt s (a1 : Int) := by have := bt_restS s a1 0; rw [Nat.add_zero] at this; exact this
    rw [e1]
    by_cases c : a1 = s.size ∨ bt s (a1 : Int) ≠ 59
    · refine ⟨false, a1, byte_no s a1 f1 hs 59 c, f1, Nat.le_refl _, .inl ?_⟩
      rcases c with c | c
      · left; exact ⟨rfl, by omega⟩
      · right; exact ⟨rfl, by rw [hb]; exact c⟩
    · have c1 : a1 < s.size := by
        have : a1 ≠ s.size := fun e => c (.inl e)
        omega
      have c2 : bt s (a1 : Int) = 59 := Classical.not_not.1 fun e => c (.inr e)
      refine ⟨true, a1 + 1, byte_yes s a1 f1 hs 59 c1 c2, by omega, by omega, .inr ⟨rfl, rfl, fun h => ?_⟩⟩
      rcases h with h | h
      · omega
      · rw [hb] at h; exact h c2
  obtain ⟨y, a2, hy, f2, ha2, hcase⟩ := sep
  rw [hy]
  simp only [Option.bind_some]
  rw [skip_f s a2 f2 hs]
  simp only [Option.bind_some]
  have f3 := span_fits s a2 f2 hs blankB
  have e3 : skipS (restS s a2) = restS s (a2 + spanN blankB (restS s a2)) := by rw [skipS_rest, restS_restS]
  generalize ha3 : a2 + spanN blankB (restS s a2) = a3 at f3 e3
  have ha3 : a2 ≤ a3 := by omega
  rw [token_f s a3 f3 hs]
  simp only [Option.bind_some]
  have f4 := span_fits s a3 f3 hs tcharI
  have hlem := spanN_le tcharI (restS s a3)
  have hz3 := restS_size s a3
  generalize hn : spanN tcharI (restS s a3) = n at f4 hlem
  have hns : ((restS s a3).extract 0 n).size = n := by simp; omega
  rw [low_plain _ (by omega)]
  simp only [Option.bind_some]
  have hnl : (lowerS ((restS s a3).extract 0 n)).size = n := by rw [lowerS_size, hns]
  obtain ⟨v, ok, b, hv, hb, hab, hval⟩ := value_f (lowerS ((restS s a3).extract 0 n)) s (a3 + n) k f4 hs hk
  rw [hv]
  simp only [Option.bind_some]
  have hne : ((lowerS ((restS s a3).extract 0 n)).toList == ([] : List UInt8)) = decide (n = 0) := by
    rw [Bool.eq_iff_iff, beq_iff_eq, decide_eq_true_eq, toL_nil, hnl]
  rw [hne]
  have hpr : y = true → paramR (restS s a) = nameR (restS s a3) := fun h => by
    rcases hcase with (⟨h1, _⟩ | ⟨h1, _⟩) | ⟨_, h2, h3⟩
    · rw [h] at h1; cases h1
    · rw [h] at h1; cases h1
    · unfold paramR
      rw [if_neg h3, e1, restS_restS, ← h2, e3]
  by_cases hbad : (!y || decide (n = 0) || !ok) = true
  · rw [if_pos hbad]
    refine ⟨true, false, _, b, rfl, hb, .inl ⟨rfl, rfl, ?_⟩⟩
    cases y with
    | false =>
      have hf : (skipS (restS s a)).size = 0 ∨ bt (skipS (restS s a)) 0 ≠ 59 := by
        rcases hcase with h | h
        · rcases h with h | h
          · exact Or.inl h.2
          · exact Or.inr h.2
        · exact absurd h.1 (by simp)
      unfold paramR
      rw [if_pos hf]
      rfl
    | true =>
      rw [hpr rfl]
      unfold nameR
      rw [hn]
      by_cases c : n = 0
      · rw [if_pos c]; rfl
      · rw [if_neg c, restS_restS, hval]
        simpa [c] using hbad
  · rw [if_neg hbad, done_f s b hb hs]
    simp only [Option.bind_some]
    have hgood : y = true ∧ n ≠ 0 ∧ ok = true := by
      simp only [Bool.or_eq_true, Bool.not_eq_true', decide_eq_true_eq, not_or, Bool.not_eq_false] at hbad
      exact ⟨hbad.1.1, hbad.1.2, hbad.2⟩
    obtain ⟨h1, h2, h3⟩ := hgood
    refine ⟨false, _, _, b, rfl, hb, .inr ⟨rfl, by omega, rfl, ?_⟩⟩
    rw [hpr h1]
    unfold nameR
    rw [hn, if_neg h2, restS_restS, hval, h3]
theorem par_loop (s nm : ByteArray) (hs : s.size ≤ 100000000) (k : Nat) (hk : 2 * s.size + 5 < k) : ∀ (d a n : Nat) (l : List S141), s.size - a ≤ d → a < s.size → d < n → l.length ≤ a →
    ∃ bad l', params_Parse.l0 k n s (a : Int) l = some (bad, l') ∧ Ev (fun K => abutmentref08_Parse.l0 K (restS s a) nm l) (if bad = true then (⟨#[]⟩, [], 3) else (nm, l', 0))
  | 0, a, n, l, hd, ha, hn, hl => by omega
  | d + 1, a, n, l, hd, ha, hn, hl => by
    obtain ⟨n, rfl⟩ : ∃ m, n = m + 1 := ⟨n - 1, by omega⟩
    obtain ⟨bad, more, p, b, hnx, hb, hcase⟩ := next_f s a k (by omega) (by omega) hk
    have hz := restS_size s a
    have hll : l.length < 1000000000 := by omega
    have hne : ¬ (restS s a).toList = [] := by rw [toL_nil]; omega
    have hpf : abutmentref08_Param.f (restS s a) = some (paramR (restS s a)) := by unfold abutmentref08_Param.f; rw [if_pos (by omega)]
    simp only [params_Parse.l0]
    rw [if_pos hll, hnx]
    simp only [Option.bind_some]
    rcases hcase with ⟨rfl, rfl, hp⟩ | ⟨rfl, hab, rfl, hp⟩
    · rw [if_neg (by simp)]
      refine ⟨true, _, rfl, ?_⟩
      rw [if_pos rfl]
      refine Ev.step (f := fun _ => some (⟨#[]⟩, [], 3)) (fun K => ?_) (Ev.now _)
      simp only [abutmentref08_Parse.l0]
      rw [if_neg hne, hpf]
      simp only [Option.bind_some]
      rw [if_neg (by rw [hp]; simp)]
    · have hstep : ∀ K, abutmentref08_Parse.l0 (K + 1) (restS s a) nm l = abutmentref08_Parse.l0 K (restS s b) nm (l ++ [p]) := fun K => by
        simp only [abutmentref08_Parse.l0]
        rw [if_neg hne, hpf]
        simp only [Option.bind_some]
        rw [hp, if_pos rfl, if_pos (by omega)]
      by_cases c : b = s.size
      · rw [if_neg (by simp [c])]
        refine ⟨false, _, rfl, ?_⟩
        rw [if_neg (by simp)]
        refine Ev.step hstep (Ev.step (f := fun _ => some (nm, l ++ [p], 0)) (fun K => ?_) (Ev.now _))
        simp only [abutmentref08_Parse.l0]
        rw [if_pos (by rw [toL_nil, restS_size]; omega)]
      · rw [if_pos (by simp [c])]
        obtain ⟨bad, l', h1, h2⟩ := par_loop s nm hs k hk d b n (l ++ [p]) (by omega) (by omega) (by omega) (by rw [List.length_append, List.length_singleton]; omega)
        exact ⟨bad, l', h1, Ev.step hstep h2⟩
/-- Both read any text's parameters alike. -/
theorem ev_parse (s : ByteArray) (hs : s.size ≤ 100000000) : ∃ r, params_Parse.f s = some r ∧ Ev (fun k => abutmentref08_Parse.f k s) r := by
  unfold params_Parse.f params_Parse.g
  by_cases c0 : s.toList = []
  · rw [if_pos c0]
    exact ⟨_, rfl, Ev.congr (f := fun _ => some (⟨#[]⟩, [], 2)) (fun k => by unfold abutmentref08_Parse.f; rw [if_pos c0]) (Ev.now _)⟩
  · rw [if_neg c0]
    have hs0 : 0 < s.size := by
      have : ¬ s.size = 0 := fun h => c0 ((toL_nil s).2 h)
      omega
    have ht := token_f s 0 (Nat.zero_le _) (by omega)
    rw [restS_zero, Nat.zero_add] at ht
    rw [show cursor_Cursor_Token.f s 0 = _ from ht]
    simp only [Option.bind_some]
    have hlem := spanN_le tcharI s
    have hev := ev_tok s (by omega)
    generalize hn : spanN tcharI s = n at hlem ht hev
    have hns : (s.extract 0 n).size = n := by rw [ByteArray.size_extract]; omega
    have hel := ev_lower (s.extract 0 n) (by omega)
    rw [low_plain _ (by omega)]
    simp only [Option.bind_some]
    have hnl : (lowerS (s.extract 0 n)).size = n := by rw [lowerS_size, hns]
    have hne : (lowerS (s.extract 0 n)).toList = [] ↔ n = 0 := by rw [toL_nil, hnl]
    generalize lowerS (s.extract 0 n) = nm at hnl hne hel
    have pre : ∀ R, Ev (fun k => if (n : Int) = 0 then some (⟨#[]⟩, [], 3) else abutmentref08_Parse.l0 k (s.extract n s.size) nm []) R → Ev (fun k => abutmentref08_Parse.f k s) R := fun R hR => by
      refine Ev.congr (f := fun k => (abutmentref04_Token.f k s).bind fun t => if 0 ≤ t then (if t ≤ (s.size : Int) then ((abutmentref01_Lower.f k (s.extract 0 t.toNat)).bind fun u => if t = 0 then some (⟨#[]⟩, [], 3) else abutmentref08_Parse.l0 k (s.extract t.toNat s.size) u []) else none) else none) (fun k => by unfold abutmentref08_Parse.f; rw [if_neg c0]) ?_
      refine Ev.bind hev ?_
      simp only [if_pos (show (0 : Int) ≤ (n : Int) by omega), if_pos (show (n : Int) ≤ (s.size : Int) by omega), Int.toNat_natCast]
      exact Ev.bind hel hR
    by_cases c1 : n = 0
    · rw [if_pos (hne.2 c1)]
      refine ⟨_, rfl, pre _ ?_⟩
      simp only [if_pos (show (n : Int) = 0 by omega)]
      exact Ev.now _
    · rw [if_neg (fun h => c1 (hne.1 h)), done_f s n hlem (by omega)]
      simp only [Option.bind_some]
      have pre2 : ∀ R, Ev (fun k => abutmentref08_Parse.l0 k (restS s n) nm []) R → Ev (fun k => abutmentref08_Parse.f k s) R := fun R hR => pre _ (by
        simp only [if_neg (show ¬ (n : Int) = 0 by omega)]
        exact hR)
      by_cases c2 : n = s.size
      · rw [if_pos (by simp [c2])]
        refine ⟨_, rfl, pre2 _ (Ev.step (f := fun _ => some (nm, [], 0)) (fun k => ?_) (Ev.now _))⟩
        simp only [abutmentref08_Parse.l0]
        rw [if_pos (by rw [toL_nil, restS_size]; omega)]
      · rw [if_neg (by simp [c2])]
        obtain ⟨bad, l', h1, h2⟩ := par_loop s nm hs (3 * s.size + 10) (by omega) s.size n (3 * s.size + 10) [] (by omega) (by omega) (by omega) (Nat.zero_le _)
        rw [h1]
        simp only [Option.bind_some]
        cases bad with
        | true => exact ⟨_, rfl, pre2 _ h2⟩
        | false => exact ⟨_, rfl, pre2 _ h2⟩
end Go.Proofs.Ytjnhghplfdiijaa.Q

namespace Go.Proofs.Ytjnhghplfdiijaa.Q
open Go.RowKit Go.Proofs.YtjnhghplfdiijaaW.PrintWords Go.Proofs.YtjnhghplfdiijaaW.PrintLast
set_option linter.unusedVariables false
set_option linter.unusedSimpArgs false
def coding_word.f (a0 : ByteArray) : Option (ByteArray × Bool × Bool) := (params_Parse.f a0).bind fun bt101 => (some (bt101.1, decide ((bt101.2.1.length : Int) > 0), (bt101.2.2 == 0)))
set_option maxHeartbeats 8000000 in
set_option maxRecDepth 100000 in
theorem coding_word.calls (a0 : ByteArray) (r1 : ByteArray) (r2 : Bool) (r3 : Bool) (w : World) (h : coding_word.f a0 = some (r1, r2, r3)) :
    Calls Try.prog 74 #[.string a0] w fun e w' => e = .returned (.tuple #[.string r1, .bool r2, .bool r3]) ∧ Below w.heap.size w w' := by
  have HB := Aside0.mk (Below.refl w.heap.size w)
  have H : ((params_Parse.f a0).bind fun bt101 => (some (bt101.1, decide ((bt101.2.1.length : Int) > 0), (bt101.2.2 == 0)))) = some (r1, r2, r3) := h
  clear h
  replace H := Option.bind_eq_some_iff.mp H
  obtain ⟨⟨t101, t102, t103⟩, A20, H⟩ := H
  (try dsimp only at H)
  have A2 := Aside0.mk A20
  clear A20
  simp only [Option.some.injEq, Prod.mk.injEq] at H
  obtain ⟨rfl, rfl, rfl⟩ := H
  go_enter Try.func74, Try.ntmps74
  go_wp2_with (first | ((with_reducible refine gate_callee (f := 120) rfl ?_); refine goesL_ (some 10) rfl rfl Try.func120 (by kernel_rfl) rfl #[.string a0] rfl (by (try simp only [List.map_toArray, List.map_cons, List.map_nil]); first | done | rfl | (simp only [List.length_drop, List.length_take]; rfl)) ?_; (with_reducible refine (params_Parse.calls a0 t101 t102 t103 _ A2.out).mono ?_); rintro e w3 ⟨v104, rfl, ho0, hb⟩; refine ⟨_, rfl, ?_⟩; have n0_ := Aside0.mk (Kd.R_lower ho0 (below_size (by repeat (first | (with_reducible first | exact HB.out | apply below_alloc | apply pw_below_drewN | apply below_drew1) | exact HB.out)))); have n1_ := Aside0.mk (below_step (by repeat (first | (with_reducible first | exact HB.out | apply below_alloc | apply pw_below_drewN | apply below_drew1) | exact HB.out)) hb); clear HB; have HO105 := n0_; have HB := n1_; clear n0_ n1_; (try clear hb); (try clear hb2); (try clear hk); (try clear hi); (try clear ho0); obtain ⟨Ao4, co4, eo4⟩ := Kd.R_slice HO105.out; subst eo4))
  go_ret3
  exact ⟨by first | rfl | (simp [errW_none, errW_some] <;> rfl) | (simp [*, errW_none, errW_some] <;> rfl), by repeat (first | (with_reducible first | exact HB.out | apply below_alloc | apply pw_below_drewN | apply below_drew1) | exact HB.out)⟩
end Go.Proofs.Ytjnhghplfdiijaa.Q

namespace Go.Proofs.Ytjnhghplfdiijaa.Q
open Go.RowKit Go.Proofs.YtjnhghplfdiijaaW.PrintWords Go.Proofs.YtjnhghplfdiijaaW.PrintLast Go.Lib Go.Shelf
set_option linter.unusedVariables false
set_option linter.unusedSimpArgs false
def trailersW : ByteArray := ⟨#[116, 114, 97, 105, 108, 101, 114, 115]⟩
def teW : ByteArray := ⟨#[84, 69]⟩
/-- Is the word of an element 'trailers'? -/
def trailersP (e : ByteArray) : Bool := match coding_word.f e with | some t => decide (t.1.toList = trailersW.toList) | none => false
theorem trailers_inner (n : ByteArray) (hn : (coding_word.f n).isSome = true) (W : World) :
    Calls Try.prog 79 #[.string n] W fun e w' => e = .returned (.bool (trailersP n)) ∧ Below W.heap.size W w' := by
  obtain ⟨⟨t1, t2, t3⟩, ht⟩ := Option.isSome_iff_exists.1 hn
  have HW := Aside0.mk (coding_word.calls n t1 t2 t3 W ht)
  have e : trailersP n = decide (t1.toList = trailersW.toList) := by unfold trailersP; rw [ht]
  rw [e]
  clear e ht hn
  by_cases hq : t1.toList = trailersW.toList
  · rw [decide_eq_true hq]
    have h2 : (t1.toList == [116, 114, 97, 105, 108, 101, 114, 115]) = true := beq_iff_eq.mpr (hq.trans (by rw [ByteArray.toList_eq]; rfl))
    clear hq
    go_enter Try.func79, Try.ntmps79
    go_wp2_with fail
    refine HW.out.mono ?_
    rintro e w1 ⟨rfl, hb⟩
    have HB := Aside0.mk hb
    clear hb
    go_wp2
    go_ret
    exact ⟨rfl, HB.out⟩
  · rw [decide_eq_false hq]
    have h2 : (t1.toList == [116, 114, 97, 105, 108, 101, 114, 115]) = false := beq_eq_false_iff_ne.mpr (fun h => hq (h.trans (by rw [ByteArray.toList_eq]; rfl)))
    clear hq
    go_enter Try.func79, Try.ntmps79
    go_wp2_with fail
    refine HW.out.mono ?_
    rintro e w1 ⟨rfl, hb⟩
    have HB := Aside0.mk hb
    clear hb
    go_wp2
    go_ret
    exact ⟨rfl, HB.out⟩
def coding_Trailers.f (l : List S60) : Option Bool := (header_Combined.f l teW).bind fun t => (lists_Split.f t.1).bind fun u => if u.1.all (fun e => (coding_word.f e).isSome) = true then some (u.1.any trailersP) else none
set_option maxHeartbeats 1000000 in
theorem coding_Trailers.calls (A0 : Option Addr) (c0 : Nat) (l0 : List S60) (r : Bool) (w : World) (hr0 : Kd.C k60 w A0 l0.length l0) (hc0 : l0.length ≤ c0) (h : coding_Trailers.f l0 = some r) :
    Calls Try.prog 30 #[.slice A0 l0.length c0] w fun e w' => e = .returned (.bool r) ∧ Below w.heap.size w w' := by
  unfold coding_Trailers.f at h
  obtain ⟨⟨t1, t2⟩, hT, h⟩ := Option.bind_eq_some_iff.1 h
  obtain ⟨⟨l, ok⟩, hS, h⟩ := Option.bind_eq_some_iff.1 h
  dsimp only at h hS
  split at h
  · rename_i hall
    injection h with h
    subst h
    have HT := Aside0.mk (header_Combined.calls A0 c0 l0 teW t1 t2 w hr0 hc0 hT)
    have HS := Aside0.mk (fun W => lists_Split.calls t1 l ok W hS)
    have HC : Aside0 (∀ (A : Option Addr) (c : Nat) W1, Kd.C Kd.string W1 A l.length l → Calls Try.prog 78 #[.slice A l.length c, .func (.func 79) #[] #[]] W1 fun e w' => e = .returned (.bool (l.any trailersP)) ∧ Below W1.heap.size W1 w') := ⟨fun A c W1 hc => by
      have hz := split_sizes hS
      exact ContainsFunc_str 79 #[] (enters_of Try.func79 (by kernel_rfl) rfl) trailersP A c l W1 hc (by omega) (fun n W2 hm hb2 => trailers_inner n (List.all_eq_true.1 hall n hm) W2)⟩
    clear hr0 hc0 hT hS hall
    go_enter Try.func30, Try.ntmps30
    go_wp2_with fail
    refine HT.out.mono ?_
    rintro e w1 ⟨rfl, hb⟩
    have HB := Aside0.mk hb
    clear hb HT
    go_wp2_with fail
    refine (HS.out _).mono ?_
    rintro e w2 ⟨v0, rfl, ho, hb⟩
    obtain ⟨A, c, rfl, hlc, hcr⟩ := Kd.R_reads ho
    have HCC := Aside0.mk (HC.out A c w2 hcr)
    have HB2 := Aside0.mk (HB.out.trans (hb.mono HB.out.size))
    clear hb ho hlc hcr HB HC HS
    go_wp2_with fail
    refine HCC.out.mono ?_
    rintro e w3 ⟨rfl, hb⟩
    have HB3 := Aside0.mk hb
    clear hb
    go_wp2
    go_ret
    exact ⟨rfl, HB2.out.trans (HB3.out.mono HB2.out.size)⟩
  · exact absurd h (by simp)
end Go.Proofs.Ytjnhghplfdiijaa.Q

namespace Go.Proofs.Ytjnhghplfdiijaa.Q
open Go.RowKit Go.Proofs.YtjnhghplfdiijaaW.PrintWords Go.Proofs.YtjnhghplfdiijaaW.PrintLast
set_option linter.unusedVariables false
set_option linter.unusedSimpArgs false
mutual
def coding_Chunked.l0 : Nat → List ByteArray → Bool → Int → List ByteArray → Int → Int → Option (Bool × Int)
  | 0, _, _, _, _, _, _ => none
  | k + 1, x6, x7, x8, x29, x30, x31 => if x31 < x30 then (if 0 ≤ x31 then (if x31 < (x29.length : Int) then ((coding_word.f (rdOf ByteArray.empty x29 x31)).bind fun bt108 => (if x7 = true then (if bt108.1.toList = ([99, 104, 117, 110, 107, 101, 100] : List UInt8) then (coding_Chunked.l0 k x6 bt108.2.2 (wrap64 (x8 + 1)) x29 x30 (wrap64 (x31 + 1))) else (coding_Chunked.l0 k x6 bt108.2.2 x8 x29 x30 (wrap64 (x31 + 1)))) else (if bt108.1.toList = ([99, 104, 117, 110, 107, 101, 100] : List UInt8) then (coding_Chunked.l0 k x6 false (wrap64 (x8 + 1)) x29 x30 (wrap64 (x31 + 1))) else (coding_Chunked.l0 k x6 false x8 x29 x30 (wrap64 (x31 + 1)))))) else (none)) else (none)) else (if x7 = true then (coding_Chunked.j1 k x6 (x8 != 1)) else (coding_Chunked.j1 k x6 true))
def coding_Chunked.j1 : Nat → List ByteArray → Bool → Option (Bool × Int)
  | 0, _, _ => none
  | k + 1, x6, x55 => if x55 = true then (some (false, 14)) else (if 0 ≤ (wrap64 ((x6.length : Int) - 1)) then (if (wrap64 ((x6.length : Int) - 1)) < (x6.length : Int) then ((coding_word.f (rdOf ByteArray.empty x6 (wrap64 ((x6.length : Int) - 1)))).bind fun bt112 => (if bt112.1.toList = ([99, 104, 117, 110, 107, 101, 100] : List UInt8) then (coding_Chunked.j2 k x6 bt112.2.1) else (coding_Chunked.j2 k x6 true))) else (none)) else (none))
def coding_Chunked.j2 : Nat → List ByteArray → Bool → Option (Bool × Int)
  | 0, _, _ => none
  | k + 1, x6, x67 => if x67 = true then (some (false, 14)) else (if (x6.length : Int) > 1 then (some (false, 15)) else (some (true, 0)))
end
def coding_Chunked.f (k : Nat) (l0 : List (S60)) : Option (Bool × Int) := (header_Combined.f l0 (⟨#[84, 114, 97, 110, 115, 102, 101, 114, 45, 69, 110, 99, 111, 100, 105, 110, 103]⟩ : ByteArray)).bind fun bt101 => (if bt101.2 = true then ((lists_Split.f bt101.1).bind fun bt103 => (coding_Chunked.l0 k bt103.1 bt103.2 0 bt103.1 (bt103.1.length : Int) 0)) else (some (false, 0)))
theorem coding_Chunked.mono_l : ∀ k, (∀ y0 y1 y2 y3 y4 y5, LeO (coding_Chunked.l0 k y0 y1 y2 y3 y4 y5) (coding_Chunked.l0 (k + 1) y0 y1 y2 y3 y4 y5)) ∧ (∀ y0 y1, LeO (coding_Chunked.j1 k y0 y1) (coding_Chunked.j1 (k + 1) y0 y1)) ∧ (∀ y0 y1, LeO (coding_Chunked.j2 k y0 y1) (coding_Chunked.j2 (k + 1) y0 y1))
  | 0 => ⟨fun _ _ _ _ _ _ r h => by simp [coding_Chunked.l0] at h, fun _ _ r h => by simp [coding_Chunked.j1] at h, fun _ _ r h => by simp [coding_Chunked.j2] at h⟩
  | k + 1 => by
    obtain ⟨ih0, ih1, ih2⟩ := coding_Chunked.mono_l k
    refine ⟨?_, ?_, ?_⟩
    · intro y0 y1 y2 y3 y4 y5
      unfold coding_Chunked.l0
      repeat' first
      | (with_reducible exact ih0 _ _ _ _ _ _)
      | (with_reducible exact ih1 _ _)
      | (with_reducible exact ih2 _ _)
      | (with_reducible exact LeO.refl _)
      | (with_reducible exact LeO.none _)
      | (with_reducible refine LeO.ite ?_ ?_)
      | (with_reducible refine LeO.bind ?_ (fun _ => ?_))
      | exact ih0 _ _ _ _ _ _
      | exact ih1 _ _
      | exact ih2 _ _
      | exact LeO.none _
      | refine LeO.ite ?_ ?_
      | refine LeO.bind ?_ (fun _ => ?_)
    · intro y0 y1
      unfold coding_Chunked.j1
      repeat' first
      | (with_reducible exact ih0 _ _ _ _ _ _)
      | (with_reducible exact ih1 _ _)
      | (with_reducible exact ih2 _ _)
      | (with_reducible exact LeO.refl _)
      | (with_reducible exact LeO.none _)
      | (with_reducible refine LeO.ite ?_ ?_)
      | (with_reducible refine LeO.bind ?_ (fun _ => ?_))
      | exact ih0 _ _ _ _ _ _
      | exact ih1 _ _
      | exact ih2 _ _
      | exact LeO.none _
      | refine LeO.ite ?_ ?_
      | refine LeO.bind ?_ (fun _ => ?_)
    · intro y0 y1
      unfold coding_Chunked.j2
      repeat' first
      | (with_reducible exact ih0 _ _ _ _ _ _)
      | (with_reducible exact ih1 _ _)
      | (with_reducible exact ih2 _ _)
      | (with_reducible exact LeO.refl _)
      | (with_reducible exact LeO.none _)
      | (with_reducible refine LeO.ite ?_ ?_)
      | (with_reducible refine LeO.bind ?_ (fun _ => ?_))
      | exact ih0 _ _ _ _ _ _
      | exact ih1 _ _
      | exact ih2 _ _
      | exact LeO.none _
      | refine LeO.ite ?_ ?_
      | refine LeO.bind ?_ (fun _ => ?_)
theorem coding_Chunked.mono : ∀ a0 k, LeO (coding_Chunked.f k a0) (coding_Chunked.f (k + 1) a0) := by
  intro a0 k
  obtain ⟨ih0, ih1, ih2⟩ := coding_Chunked.mono_l k
  unfold coding_Chunked.f
  repeat' first
      | (with_reducible exact ih0 _ _ _ _ _ _)
      | (with_reducible exact ih1 _ _)
      | (with_reducible exact ih2 _ _)
      | (with_reducible exact LeO.refl _)
      | (with_reducible exact LeO.none _)
      | (with_reducible refine LeO.ite ?_ ?_)
      | (with_reducible refine LeO.bind ?_ (fun _ => ?_))
      | exact ih0 _ _ _ _ _ _
      | exact ih1 _ _
      | exact ih2 _ _
      | exact LeO.none _
      | refine LeO.ite ?_ ?_
      | refine LeO.bind ?_ (fun _ => ?_)
set_option maxHeartbeats 8000000 in
set_option maxRecDepth 100000 in
theorem coding_Chunked.calls (k : Nat) (A0 : Option Addr) (c0 : Nat) (l0 : List (S60)) (r1 : Bool) (r2 : Int) (w : World) (hr0 : Kd.C k60 w A0 l0.length l0) (hc0 : l0.length ≤ c0) (h : coding_Chunked.f k l0 = some (r1, r2)) :
    Calls Try.prog 28 #[.slice A0 l0.length c0] w fun e w' => e = .returned (.tuple #[.bool r1, .int .i64 r2]) ∧ Below w.heap.size w w' := by
  have HR0 := Aside0.mk hr0
  have HC0 := Aside0.mk hc0
  clear hr0 hc0
  have HB := Aside0.mk (Below.refl w.heap.size w)
  have H : ((header_Combined.f l0 (⟨#[84, 114, 97, 110, 115, 102, 101, 114, 45, 69, 110, 99, 111, 100, 105, 110, 103]⟩ : ByteArray)).bind fun bt101 => (if bt101.2 = true then ((lists_Split.f bt101.1).bind fun bt103 => (coding_Chunked.l0 k bt103.1 bt103.2 0 bt103.1 (bt103.1.length : Int) 0)) else (some (false, 0)))) = some (r1, r2) := h
  clear h
  replace H := Option.bind_eq_some_iff.mp H
  obtain ⟨⟨t101, t102⟩, A20, H⟩ := H
  (try dsimp only at H)
  have A2 := Aside0.mk A20
  clear A20
  by_cases c3 : t102 = true
  · subst c3
    have H1 : ((lists_Split.f t101).bind fun bt103 => (coding_Chunked.l0 k bt103.1 bt103.2 0 bt103.1 (bt103.1.length : Int) 0)) = some (r1, r2) := by rw [if_pos rfl] at H; exact H
    clear H
    have H := H1
    clear H1
    replace H := Option.bind_eq_some_iff.mp H
    obtain ⟨⟨t103, t104⟩, A40, H⟩ := H
    (try dsimp only at H)
    have A4 := Aside0.mk A40
    clear A40
    have H' := Aside0.mk H
    clear H
    go_enter Try.func28, Try.ntmps28
    go_wp2_with (first | ((with_reducible refine gate_callee (f := 72) rfl ?_); refine goesL_ (some 19) rfl rfl Try.func72 (by kernel_rfl) rfl #[.slice A0 l0.length c0, .string (⟨#[84, 114, 97, 110, 115, 102, 101, 114, 45, 69, 110, 99, 111, 100, 105, 110, 103]⟩ : ByteArray)] rfl (by (try simp only [List.map_toArray, List.map_cons, List.map_nil]); first | done | rfl | (simp only [List.length_drop, List.length_take]; rfl)) ?_; (with_reducible refine (header_Combined.calls _ _ l0 (⟨#[84, 114, 97, 110, 115, 102, 101, 114, 45, 69, 110, 99, 111, 100, 105, 110, 103]⟩ : ByteArray) t101 true _ ?side1 ?side2 A2.out).mono ?_); (case side1 => repeat (first | exact HR0.out | (with_reducible refine Kd.C_alloc ?_ _) | (with_reducible refine Kd.C_drewN ?_ _) | (with_reducible refine Kd.C_drew ?_))); (case side2 => exact HC0.out); rintro e w5 ⟨rfl, hb⟩; refine ⟨_, rfl, ?_⟩; have n0_ := Aside0.mk (below_step (by repeat (first | (with_reducible first | exact HB.out | apply below_alloc | apply pw_below_drewN | apply below_drew1) | exact HB.out)) hb); clear HB; have HB := n0_; clear n0_; (try clear hb); (try clear hb2); (try clear hk); (try clear hi)) | ((with_reducible refine gate_callee (f := 73) rfl ?_); refine goesL_ (some 26) rfl rfl Try.func73 (by kernel_rfl) rfl #[.string t101] rfl (by (try simp only [List.map_toArray, List.map_cons, List.map_nil]); first | done | rfl | (simp only [List.length_drop, List.length_take]; rfl)) ?_; (with_reducible refine (lists_Split.calls t101 t103 t104 _ A4.out).mono ?_); rintro e w6 ⟨v105, rfl, ho0, hb⟩; refine ⟨_, rfl, ?_⟩; have n0_ := Aside0.mk (Kd.R_lower ho0 (below_size (by repeat (first | (with_reducible first | exact HB.out | apply below_alloc | apply pw_below_drewN | apply below_drew1) | exact HB.out)))); have n1_ := Aside0.mk (below_step (by repeat (first | (with_reducible first | exact HB.out | apply below_alloc | apply pw_below_drewN | apply below_drew1) | exact HB.out)) hb); clear HB; have HO106 := n0_; have HB := n1_; clear n0_ n1_; (try clear hb); (try clear hb2); (try clear hk); (try clear hi); (try clear ho0); obtain ⟨Ao7, co7, eo7⟩ := Kd.R_slice HO106.out; subst eo7))
    go_loopg [7, 8, 31] k (fun kq v7 v8 v31 w' => ∃ (x7_1 : Bool) (x8_1 : Int) (x31_1 : Int), v7 = .bool x7_1 ∧ v8 = .int .i64 x8_1 ∧ v31 = .int .i64 x31_1 ∧ Aside0 (coding_Chunked.l0 kq t103 x7_1 x8_1 t103 (t103.length : Int) x31_1 = some (r1, r2)) ∧ Aside0 (kq ≤ k) ∧ Aside0 (Kd.R Kd.string 9 w' w.heap.size (fun _ => True) (.slice Ao7 t103.length co7) t103) ∧ Aside0 (Kd.R Kd.string 9 w' w.heap.size (fun _ => True) (.slice Ao7 t103.length co7) t103) ∧ Aside0 (Below w.heap.size w w'))
    case atStart => exact ⟨(t104), (0), (0), (by first | rfl | (simp; done) | (simp [*]; done)), (by first | rfl | (simp; done) | (simp [*]; done)), (by first | rfl | (simp; done) | (simp [*]; done)), H', ⟨Nat.le_refl _⟩, ⟨by (with_reducible repeat (first | apply Kd.R_alloc | apply Kd.R_drewN | apply Kd.R_drew)); exact HO106.out⟩, ⟨by (with_reducible repeat (first | apply Kd.R_alloc | apply Kd.R_drewN | apply Kd.R_drew)); exact HO106.out⟩, ⟨by repeat (first | (with_reducible first | exact HB.out | apply below_alloc | apply pw_below_drewN | apply below_drew1) | exact HB.out)⟩⟩
    case round =>
      clear H'
      try clear c2
      try clear p2
      try clear c3
      try clear c7
      obtain ⟨x7_1, x8_1, x31_1, rfl, rfl, rfl, HA, HK1, HO_6, HO_29, HB⟩ := hrel
      cases gk with
      | zero => exact absurd HA.out (by simp [coding_Chunked.l0])
      | succ k1 =>
        have H := HA.out
        clear HA
        simp only [coding_Chunked.l0] at H
        by_cases c8 : x31_1 < (t103.length : Int)
        · rw [if_pos c8] at H
          have c8b0 : decide (x31_1 < (t103.length : Int)) = true := decide_eq_true c8
          clear c8
          by_cases c9 : 0 ≤ x31_1
          · rw [if_pos c9] at H
            have c9b0 : decide (0 ≤ x31_1) = true := decide_eq_true c9
            clear c9
            by_cases c10 : x31_1 < (t103.length : Int)
            · rw [if_pos c10] at H
              have c10b0 : decide (x31_1 < (t103.length : Int)) = true := decide_eq_true c10
              clear c10
              replace H := Option.bind_eq_some_iff.mp H
              obtain ⟨⟨t108, t109, t110⟩, A110, H⟩ := H
              (try dsimp only at H)
              have A11 := Aside0.mk A110
              clear A110
              by_cases c12 : x7_1 = true
              · subst c12
                have H1 : (if t108.toList = ([99, 104, 117, 110, 107, 101, 100] : List UInt8) then (coding_Chunked.l0 k1 t103 t110 (wrap64 (x8_1 + 1)) t103 (t103.length : Int) (wrap64 (x31_1 + 1))) else (coding_Chunked.l0 k1 t103 t110 x8_1 t103 (t103.length : Int) (wrap64 (x31_1 + 1)))) = some (r1, r2) := by rw [if_pos rfl] at H; exact H
                clear H
                have H := H1
                clear H1
                by_cases c13 : t108.toList = ([99, 104, 117, 110, 107, 101, 100] : List UInt8)
                · rw [if_pos c13] at H
                  have c13b0 : (t108.toList == ([99, 104, 117, 110, 107, 101, 100] : List UInt8)) = true := beq_iff_eq.mpr c13
                  have c13b1 : (t108.toList != ([99, 104, 117, 110, 107, 101, 100] : List UInt8)) = false := bne_eq_false_iff_eq.mpr c13
                  clear c13
                  have H' := Aside0.mk H
                  clear H
                  have p107 : 0 ≤ (x31_1 : Int) := of_decide_eq_true (by first | (with_reducible assumption) | assumption)
                  have q107 : x31_1 < (t103.length : Int) := of_decide_eq_true (by first | (with_reducible assumption) | assumption)
                  obtain ⟨ad107, e107, hx107_0⟩ := Kd.at_string (Kd.R_reads' HO_29.out).2.2 x31_1 p107 q107
                  cases e107
                  replace p107 := eq_true p107
                  replace q107 := eq_true q107
                  go_wp2_with (first | ((with_reducible refine gate_callee (f := 74) rfl ?_); refine goesL_ (some 37) rfl rfl Try.func74 (by kernel_rfl) rfl #[.string (rdOf ByteArray.empty t103 x31_1)] rfl (by (try simp only [List.map_toArray, List.map_cons, List.map_nil]); first | done | rfl | (simp only [List.length_drop, List.length_take]; rfl)) ?_; (with_reducible refine (coding_word.calls (rdOf ByteArray.empty t103 x31_1) t108 t109 t110 _ A11.out).mono ?_); rintro e w14 ⟨rfl, hb⟩; refine ⟨_, rfl, ?_⟩; have n0_ := Aside0.mk (Kd.R_below (by (with_reducible repeat (first | apply Kd.R_alloc | apply Kd.R_drewN | apply Kd.R_drew)); exact HO_6.out) hb); have n1_ := Aside0.mk (Kd.R_below (by (with_reducible repeat (first | apply Kd.R_alloc | apply Kd.R_drewN | apply Kd.R_drew)); exact HO_29.out) hb); have n2_ := Aside0.mk (below_step (by repeat (first | (with_reducible first | exact HB.out | apply below_alloc | apply pw_below_drewN | apply below_drew1) | exact HB.out)) hb); clear HO_6; clear HO_29; clear HB; have HO_6 := n0_; have HO_29 := n1_; have HB := n2_; clear n0_ n1_ n2_; (try clear hb); (try clear hb2); (try clear hk); (try clear hi)))
                  go_roundg k1
                  case measure => have := HK1.out; omega
                  case rel => exact ⟨(t110), (wrap64 (x8_1 + 1)), (wrap64 (x31_1 + 1)), (by first | rfl | (simp; done) | (simp [*]; done)), (by first | rfl | (simp; done) | (simp [*]; done)), (by first | rfl | (simp; done) | (simp [*]; done)), H', ⟨by have := HK1.out; omega⟩, ⟨by (with_reducible repeat (first | apply Kd.R_alloc | apply Kd.R_drewN | apply Kd.R_drew)); exact HO_6.out⟩, ⟨by (with_reducible repeat (first | apply Kd.R_alloc | apply Kd.R_drewN | apply Kd.R_drew)); exact HO_29.out⟩, ⟨by repeat (first | (with_reducible first | exact HB.out | apply below_alloc | apply pw_below_drewN | apply below_drew1) | exact HB.out)⟩⟩
                · rw [if_neg c13] at H
                  have c13b0 : (t108.toList == ([99, 104, 117, 110, 107, 101, 100] : List UInt8)) = false := beq_eq_false_iff_ne.mpr c13
                  have c13b1 : (t108.toList != ([99, 104, 117, 110, 107, 101, 100] : List UInt8)) = true := bne_iff_ne.mpr c13
                  have H' := Aside0.mk H
                  clear H
                  have p107 : 0 ≤ (x31_1 : Int) := of_decide_eq_true (by first | (with_reducible assumption) | assumption)
                  have q107 : x31_1 < (t103.length : Int) := of_decide_eq_true (by first | (with_reducible assumption) | assumption)
                  obtain ⟨ad107, e107, hx107_0⟩ := Kd.at_string (Kd.R_reads' HO_29.out).2.2 x31_1 p107 q107
                  cases e107
                  replace p107 := eq_true p107
                  replace q107 := eq_true q107
                  go_wp2_with (first | ((with_reducible refine gate_callee (f := 74) rfl ?_); refine goesL_ (some 37) rfl rfl Try.func74 (by kernel_rfl) rfl #[.string (rdOf ByteArray.empty t103 x31_1)] rfl (by (try simp only [List.map_toArray, List.map_cons, List.map_nil]); first | done | rfl | (simp only [List.length_drop, List.length_take]; rfl)) ?_; (with_reducible refine (coding_word.calls (rdOf ByteArray.empty t103 x31_1) t108 t109 t110 _ A11.out).mono ?_); rintro e w15 ⟨rfl, hb⟩; refine ⟨_, rfl, ?_⟩; have n0_ := Aside0.mk (Kd.R_below (by (with_reducible repeat (first | apply Kd.R_alloc | apply Kd.R_drewN | apply Kd.R_drew)); exact HO_6.out) hb); have n1_ := Aside0.mk (Kd.R_below (by (with_reducible repeat (first | apply Kd.R_alloc | apply Kd.R_drewN | apply Kd.R_drew)); exact HO_29.out) hb); have n2_ := Aside0.mk (below_step (by repeat (first | (with_reducible first | exact HB.out | apply below_alloc | apply pw_below_drewN | apply below_drew1) | exact HB.out)) hb); clear HO_6; clear HO_29; clear HB; have HO_6 := n0_; have HO_29 := n1_; have HB := n2_; clear n0_ n1_ n2_; (try clear hb); (try clear hb2); (try clear hk); (try clear hi)))
                  go_roundg k1
                  case measure => have := HK1.out; omega
                  case rel => exact ⟨(t110), (x8_1), (wrap64 (x31_1 + 1)), (by first | rfl | (simp; done) | (simp [*]; done)), (by first | rfl | (simp; done) | (simp [*]; done)), (by first | rfl | (simp; done) | (simp [*]; done)), H', ⟨by have := HK1.out; omega⟩, ⟨by (with_reducible repeat (first | apply Kd.R_alloc | apply Kd.R_drewN | apply Kd.R_drew)); exact HO_6.out⟩, ⟨by (with_reducible repeat (first | apply Kd.R_alloc | apply Kd.R_drewN | apply Kd.R_drew)); exact HO_29.out⟩, ⟨by repeat (first | (with_reducible first | exact HB.out | apply below_alloc | apply pw_below_drewN | apply below_drew1) | exact HB.out)⟩⟩
              · replace c12 := Bool.eq_false_iff.mpr c12
                subst c12
                have H1 : (if t108.toList = ([99, 104, 117, 110, 107, 101, 100] : List UInt8) then (coding_Chunked.l0 k1 t103 false (wrap64 (x8_1 + 1)) t103 (t103.length : Int) (wrap64 (x31_1 + 1))) else (coding_Chunked.l0 k1 t103 false x8_1 t103 (t103.length : Int) (wrap64 (x31_1 + 1)))) = some (r1, r2) := by rw [if_neg (show ¬ (false = true) by decide)] at H; exact H
                clear H
                have H := H1
                clear H1
                by_cases c16 : t108.toList = ([99, 104, 117, 110, 107, 101, 100] : List UInt8)
                · rw [if_pos c16] at H
                  have c16b0 : (t108.toList == ([99, 104, 117, 110, 107, 101, 100] : List UInt8)) = true := beq_iff_eq.mpr c16
                  have c16b1 : (t108.toList != ([99, 104, 117, 110, 107, 101, 100] : List UInt8)) = false := bne_eq_false_iff_eq.mpr c16
                  clear c16
                  have H' := Aside0.mk H
                  clear H
                  have p107 : 0 ≤ (x31_1 : Int) := of_decide_eq_true (by first | (with_reducible assumption) | assumption)
                  have q107 : x31_1 < (t103.length : Int) := of_decide_eq_true (by first | (with_reducible assumption) | assumption)
                  obtain ⟨ad107, e107, hx107_0⟩ := Kd.at_string (Kd.R_reads' HO_29.out).2.2 x31_1 p107 q107
                  cases e107
                  replace p107 := eq_true p107
                  replace q107 := eq_true q107
                  go_wp2_with (first | ((with_reducible refine gate_callee (f := 74) rfl ?_); refine goesL_ (some 37) rfl rfl Try.func74 (by kernel_rfl) rfl #[.string (rdOf ByteArray.empty t103 x31_1)] rfl (by (try simp only [List.map_toArray, List.map_cons, List.map_nil]); first | done | rfl | (simp only [List.length_drop, List.length_take]; rfl)) ?_; (with_reducible refine (coding_word.calls (rdOf ByteArray.empty t103 x31_1) t108 t109 t110 _ A11.out).mono ?_); rintro e w17 ⟨rfl, hb⟩; refine ⟨_, rfl, ?_⟩; have n0_ := Aside0.mk (Kd.R_below (by (with_reducible repeat (first | apply Kd.R_alloc | apply Kd.R_drewN | apply Kd.R_drew)); exact HO_6.out) hb); have n1_ := Aside0.mk (Kd.R_below (by (with_reducible repeat (first | apply Kd.R_alloc | apply Kd.R_drewN | apply Kd.R_drew)); exact HO_29.out) hb); have n2_ := Aside0.mk (below_step (by repeat (first | (with_reducible first | exact HB.out | apply below_alloc | apply pw_below_drewN | apply below_drew1) | exact HB.out)) hb); clear HO_6; clear HO_29; clear HB; have HO_6 := n0_; have HO_29 := n1_; have HB := n2_; clear n0_ n1_ n2_; (try clear hb); (try clear hb2); (try clear hk); (try clear hi)))
                  go_roundg k1
                  case measure => have := HK1.out; omega
                  case rel => exact ⟨(false), (wrap64 (x8_1 + 1)), (wrap64 (x31_1 + 1)), (by first | rfl | (simp; done) | (simp [*]; done)), (by first | rfl | (simp; done) | (simp [*]; done)), (by first | rfl | (simp; done) | (simp [*]; done)), H', ⟨by have := HK1.out; omega⟩, ⟨by (with_reducible repeat (first | apply Kd.R_alloc | apply Kd.R_drewN | apply Kd.R_drew)); exact HO_6.out⟩, ⟨by (with_reducible repeat (first | apply Kd.R_alloc | apply Kd.R_drewN | apply Kd.R_drew)); exact HO_29.out⟩, ⟨by repeat (first | (with_reducible first | exact HB.out | apply below_alloc | apply pw_below_drewN | apply below_drew1) | exact HB.out)⟩⟩
                · rw [if_neg c16] at H
                  have c16b0 : (t108.toList == ([99, 104, 117, 110, 107, 101, 100] : List UInt8)) = false := beq_eq_false_iff_ne.mpr c16
                  have c16b1 : (t108.toList != ([99, 104, 117, 110, 107, 101, 100] : List UInt8)) = true := bne_iff_ne.mpr c16
                  have H' := Aside0.mk H
                  clear H
                  have p107 : 0 ≤ (x31_1 : Int) := of_decide_eq_true (by first | (with_reducible assumption) | assumption)
                  have q107 : x31_1 < (t103.length : Int) := of_decide_eq_true (by first | (with_reducible assumption) | assumption)
                  obtain ⟨ad107, e107, hx107_0⟩ := Kd.at_string (Kd.R_reads' HO_29.out).2.2 x31_1 p107 q107
                  cases e107
                  replace p107 := eq_true p107
                  replace q107 := eq_true q107
                  go_wp2_with (first | ((with_reducible refine gate_callee (f := 74) rfl ?_); refine goesL_ (some 37) rfl rfl Try.func74 (by kernel_rfl) rfl #[.string (rdOf ByteArray.empty t103 x31_1)] rfl (by (try simp only [List.map_toArray, List.map_cons, List.map_nil]); first | done | rfl | (simp only [List.length_drop, List.length_take]; rfl)) ?_; (with_reducible refine (coding_word.calls (rdOf ByteArray.empty t103 x31_1) t108 t109 t110 _ A11.out).mono ?_); rintro e w18 ⟨rfl, hb⟩; refine ⟨_, rfl, ?_⟩; have n0_ := Aside0.mk (Kd.R_below (by (with_reducible repeat (first | apply Kd.R_alloc | apply Kd.R_drewN | apply Kd.R_drew)); exact HO_6.out) hb); have n1_ := Aside0.mk (Kd.R_below (by (with_reducible repeat (first | apply Kd.R_alloc | apply Kd.R_drewN | apply Kd.R_drew)); exact HO_29.out) hb); have n2_ := Aside0.mk (below_step (by repeat (first | (with_reducible first | exact HB.out | apply below_alloc | apply pw_below_drewN | apply below_drew1) | exact HB.out)) hb); clear HO_6; clear HO_29; clear HB; have HO_6 := n0_; have HO_29 := n1_; have HB := n2_; clear n0_ n1_ n2_; (try clear hb); (try clear hb2); (try clear hk); (try clear hi)))
                  go_roundg k1
                  case measure => have := HK1.out; omega
                  case rel => exact ⟨(false), (x8_1), (wrap64 (x31_1 + 1)), (by first | rfl | (simp; done) | (simp [*]; done)), (by first | rfl | (simp; done) | (simp [*]; done)), (by first | rfl | (simp; done) | (simp [*]; done)), H', ⟨by have := HK1.out; omega⟩, ⟨by (with_reducible repeat (first | apply Kd.R_alloc | apply Kd.R_drewN | apply Kd.R_drew)); exact HO_6.out⟩, ⟨by (with_reducible repeat (first | apply Kd.R_alloc | apply Kd.R_drewN | apply Kd.R_drew)); exact HO_29.out⟩, ⟨by repeat (first | (with_reducible first | exact HB.out | apply below_alloc | apply pw_below_drewN | apply below_drew1) | exact HB.out)⟩⟩
            · rw [if_neg c10] at H
              exact absurd H (by simp)
          · rw [if_neg c9] at H
            exact absurd H (by simp)
        · rw [if_neg c8] at H
          have c8b0 : decide (x31_1 < (t103.length : Int)) = false := decide_eq_false c8
          clear c8
          have HC19 := Aside0.mk H
          clear H
          go_upto_region 14 with (fail)
          go_cut [55] (fun v55 wc => ∃ (kq : Nat) (x55_18 : Bool), v55 = .bool x55_18 ∧ Aside0 (coding_Chunked.j1 kq t103 x55_18 = some (r1, r2)) ∧ Aside0 (kq ≤ k1) ∧ Aside0 (Kd.R Kd.string 9 wc w.heap.size (fun _ => True) (.slice Ao7 t103.length co7) t103) ∧ Aside0 (Below w.heap.size w wc))
          case first =>
            have H := HC19.out
            clear HC19
            by_cases c20 : x7_1 = true
            · subst c20
              have H1 : (coding_Chunked.j1 k1 t103 (x8_1 != 1)) = some (r1, r2) := by rw [if_pos rfl] at H; exact H
              clear H
              have H := H1
              clear H1
              have H' := Aside0.mk H
              clear H
              go_wp2
              go_meet
              case rel => exact ⟨_, ((x8_1 != 1)), (by first | rfl | (simp; done) | (simp [*]; done)), H', ⟨by have := HK1.out; first | omega | exact Nat.le_refl _⟩, ⟨by (with_reducible repeat (first | apply Kd.R_alloc | apply Kd.R_drewN | apply Kd.R_drew)); exact HO_6.out⟩, ⟨by repeat (first | (with_reducible first | exact HB.out | apply below_alloc | apply pw_below_drewN | apply below_drew1) | exact HB.out)⟩⟩
            · replace c20 := Bool.eq_false_iff.mpr c20
              subst c20
              have H1 : (coding_Chunked.j1 k1 t103 true) = some (r1, r2) := by rw [if_neg (show ¬ (false = true) by decide)] at H; exact H
              clear H
              have H := H1
              clear H1
              have H' := Aside0.mk H
              clear H
              go_wp2
              go_meet
              case rel => exact ⟨_, (true), (by first | rfl | (simp; done) | (simp [*]; done)), H', ⟨by have := HK1.out; first | omega | exact Nat.le_refl _⟩, ⟨by (with_reducible repeat (first | apply Kd.R_alloc | apply Kd.R_drewN | apply Kd.R_drew)); exact HO_6.out⟩, ⟨by repeat (first | (with_reducible first | exact HB.out | apply below_alloc | apply pw_below_drewN | apply below_drew1) | exact HB.out)⟩⟩
          case rest =>
            clear HC19
            try clear c1
            try clear p1
            try clear q1
            try clear hx1
            try clear c2
            try clear p2
            try clear c3
            try clear p6
            try clear c7
            try clear c8
            try clear c8b0
            try clear c9
            try clear c9b0
            try clear c10
            try clear c10b0
            try clear p10
            try clear q10
            try clear hx10
            try clear c12
            try clear c13
            try clear c13b0
            try clear c13b1
            try clear c16
            try clear c16b0
            try clear c16b1
            try clear c20
            try clear hx107_0
            try clear p107
            try clear p2
            try clear q107
            obtain ⟨kq, x55_18, rfl, HA, HJ18, HO_6, HB⟩ := hcut
            cases kq with
            | zero => exact absurd HA.out (by simp [coding_Chunked.j1])
            | succ kj18 =>
              have H := HA.out
              clear HA
              simp only [coding_Chunked.j1] at H
              by_cases c21 : x55_18 = true
              · subst c21
                have H1 : (some (false, 14)) = some (r1, r2) := by rw [if_pos rfl] at H; exact H
                clear H
                have H := H1
                clear H1
                simp only [Option.some.injEq, Prod.mk.injEq] at H
                obtain ⟨rfl, rfl⟩ := H
                go_wp2
                go_ret2
                exact ⟨by first | rfl | (simp [errW_none, errW_some] <;> rfl) | (simp [*, errW_none, errW_some] <;> rfl), by repeat (first | (with_reducible first | exact HB.out | apply below_alloc | apply pw_below_drewN | apply below_drew1) | exact HB.out)⟩
              · replace c21 := Bool.eq_false_iff.mpr c21
                subst c21
                have H1 : (if 0 ≤ (wrap64 ((t103.length : Int) - 1)) then (if (wrap64 ((t103.length : Int) - 1)) < (t103.length : Int) then ((coding_word.f (rdOf ByteArray.empty t103 (wrap64 ((t103.length : Int) - 1)))).bind fun bt112 => (if bt112.1.toList = ([99, 104, 117, 110, 107, 101, 100] : List UInt8) then (coding_Chunked.j2 kj18 t103 bt112.2.1) else (coding_Chunked.j2 kj18 t103 true))) else (none)) else (none)) = some (r1, r2) := by rw [if_neg (show ¬ (false = true) by decide)] at H; exact H
                clear H
                have H := H1
                clear H1
                obtain ⟨ji22, hji22⟩ : ∃ j_ : Int, (wrap64 ((t103.length : Int) - 1)) = j_ := ⟨_, rfl⟩
                replace H : (if 0 ≤ (ji22) then (if (ji22) < (t103.length : Int) then ((coding_word.f (rdOf ByteArray.empty t103 (ji22))).bind fun bt112 => (if bt112.1.toList = ([99, 104, 117, 110, 107, 101, 100] : List UInt8) then (coding_Chunked.j2 kj18 t103 bt112.2.1) else (coding_Chunked.j2 kj18 t103 true))) else (none)) else (none)) = some (r1, r2) := by first | (rw [hji22] at H; exact H) | (simp only [hji22] at H ⊢; exact H)
                have hji22w : (IntKind.i64.wrap ((t103.length : Int) - 1)) = ji22 := (i64_w _).trans hji22
                by_cases c23 : 0 ≤ (ji22)
                · rw [if_pos c23] at H
                  have c23b0 : decide (0 ≤ (ji22)) = true := decide_eq_true c23
                  clear c23
                  by_cases c24 : (ji22) < (t103.length : Int)
                  · rw [if_pos c24] at H
                    have c24b0 : decide ((ji22) < (t103.length : Int)) = true := decide_eq_true c24
                    clear c24
                    replace H := Option.bind_eq_some_iff.mp H
                    obtain ⟨⟨t112, t113, t114⟩, A250, H⟩ := H
                    (try dsimp only at H)
                    have A25 := Aside0.mk A250
                    clear A250
                    have HC26 := Aside0.mk H
                    clear H
                    have p111 : 0 ≤ ((ji22) : Int) := of_decide_eq_true (by first | (with_reducible assumption) | assumption)
                    have q111 : (ji22) < (t103.length : Int) := of_decide_eq_true (by first | (with_reducible assumption) | assumption)
                    obtain ⟨ad111, e111, hx111_0⟩ := Kd.at_string (Kd.R_reads' HO_6.out).2.2 (ji22) p111 q111
                    cases e111
                    replace p111 := eq_true p111
                    replace q111 := eq_true q111
                    go_upto_region 17 with (first | ((with_reducible refine gate_callee (f := 74) rfl ?_); refine goesL_ (some 63) rfl rfl Try.func74 (by kernel_rfl) rfl #[.string (rdOf ByteArray.empty t103 (ji22))] rfl (by (try simp only [List.map_toArray, List.map_cons, List.map_nil]); first | done | (simp only [hji22]; rfl) | rfl | (simp only [List.length_drop, List.length_take]; rfl)) ?_; (with_reducible refine (coding_word.calls (rdOf ByteArray.empty t103 (ji22)) t112 t113 t114 _ A25.out).mono ?_); rintro e w27 ⟨rfl, hb⟩; refine ⟨_, rfl, ?_⟩; have n0_ := Aside0.mk (Kd.R_below (by (with_reducible repeat (first | apply Kd.R_alloc | apply Kd.R_drewN | apply Kd.R_drew)); exact HO_6.out) hb); have n1_ := Aside0.mk (below_step (by repeat (first | (with_reducible first | exact HB.out | apply below_alloc | apply pw_below_drewN | apply below_drew1) | exact HB.out)) hb); clear HO_6; clear HB; have HO_6 := n0_; have HB := n1_; clear n0_ n1_; (try clear hb); (try clear hb2); (try clear hk); (try clear hi)))
                    (try simp only [Act.put, List.setIfInBounds_toArray, List.set_cons_zero, List.set_cons_succ])
                    go_cut [67] (fun v67 wc => ∃ (kq : Nat) (x67_25 : Bool), v67 = .bool x67_25 ∧ Aside0 (coding_Chunked.j2 kq t103 x67_25 = some (r1, r2)) ∧ Aside0 (kq ≤ kj18) ∧ Aside0 (Kd.R Kd.string 9 wc w.heap.size (fun _ => True) (.slice (some ad111) t103.length co7) t103) ∧ Aside0 (Below w.heap.size w wc))
                    case first =>
                      have H := HC26.out
                      clear HC26
                      by_cases c28 : t112.toList = ([99, 104, 117, 110, 107, 101, 100] : List UInt8)
                      · rw [if_pos c28] at H
                        have c28b0 : (t112.toList == ([99, 104, 117, 110, 107, 101, 100] : List UInt8)) = true := beq_iff_eq.mpr c28
                        have c28b1 : (t112.toList != ([99, 104, 117, 110, 107, 101, 100] : List UInt8)) = false := bne_eq_false_iff_eq.mpr c28
                        clear c28
                        (first | rw [c28b0] | (simp only [i64_w, i32_w]; rw [c28b0]) | skip)
                        have H' := Aside0.mk H
                        clear H
                        go_wp2
                        go_meet
                        case rel => exact ⟨_, (t113), (by first | rfl | (simp; done) | (simp [*]; done)), H', ⟨by have := HK1.out; have := HJ18.out; first | omega | exact Nat.le_refl _⟩, ⟨by (with_reducible repeat (first | apply Kd.R_alloc | apply Kd.R_drewN | apply Kd.R_drew)); exact HO_6.out⟩, ⟨by repeat (first | (with_reducible first | exact HB.out | apply below_alloc | apply pw_below_drewN | apply below_drew1) | exact HB.out)⟩⟩
                      · rw [if_neg c28] at H
                        have c28b0 : (t112.toList == ([99, 104, 117, 110, 107, 101, 100] : List UInt8)) = false := beq_eq_false_iff_ne.mpr c28
                        have c28b1 : (t112.toList != ([99, 104, 117, 110, 107, 101, 100] : List UInt8)) = true := bne_iff_ne.mpr c28
                        (first | rw [c28b0] | (simp only [i64_w, i32_w]; rw [c28b0]) | skip)
                        have H' := Aside0.mk H
                        clear H
                        go_wp2
                        go_meet
                        case rel => exact ⟨_, (true), (by first | rfl | (simp; done) | (simp [*]; done)), H', ⟨by have := HK1.out; have := HJ18.out; first | omega | exact Nat.le_refl _⟩, ⟨by (with_reducible repeat (first | apply Kd.R_alloc | apply Kd.R_drewN | apply Kd.R_drew)); exact HO_6.out⟩, ⟨by repeat (first | (with_reducible first | exact HB.out | apply below_alloc | apply pw_below_drewN | apply below_drew1) | exact HB.out)⟩⟩
                    case rest =>
                      clear HC26
                      try clear c1
                      try clear p1
                      try clear q1
                      try clear hx1
                      try clear c2
                      try clear p2
                      try clear c3
                      try clear p6
                      try clear c7
                      try clear c8
                      try clear c8b0
                      try clear c9
                      try clear c9b0
                      try clear c10
                      try clear c10b0
                      try clear p10
                      try clear q10
                      try clear hx10
                      try clear p11
                      try clear q11
                      try clear hx11
                      try clear c12
                      try clear c13
                      try clear c13b0
                      try clear c13b1
                      try clear c16
                      try clear c16b0
                      try clear c16b1
                      try clear c20
                      try clear c21
                      try clear c23
                      try clear c23b0
                      try clear c24
                      try clear c24b0
                      try clear c28
                      try clear c28b0
                      try clear c28b1
                      try clear hx107_0
                      try clear hx111_0
                      try clear p1
                      try clear p10
                      try clear p107
                      try clear p111
                      try clear p2
                      try clear p6
                      try clear q1
                      try clear q10
                      try clear q107
                      try clear q111
                      obtain ⟨kq, x67_25, rfl, HA, HJ25, HO_6, HB⟩ := hcut
                      cases kq with
                      | zero => exact absurd HA.out (by simp [coding_Chunked.j2])
                      | succ kj25 =>
                        have H := HA.out
                        clear HA
                        simp only [coding_Chunked.j2] at H
                        by_cases c29 : x67_25 = true
                        · subst c29
                          have H1 : (some (false, 14)) = some (r1, r2) := by rw [if_pos rfl] at H; exact H
                          clear H
                          have H := H1
                          clear H1
                          simp only [Option.some.injEq, Prod.mk.injEq] at H
                          obtain ⟨rfl, rfl⟩ := H
                          go_wp2
                          go_ret2
                          exact ⟨by first | rfl | (simp [errW_none, errW_some] <;> rfl) | (simp only [← hji22]; first | rfl | (simp [errW_none, errW_some] <;> rfl)) | (simp [*, errW_none, errW_some] <;> rfl), by repeat (first | (with_reducible first | exact HB.out | apply below_alloc | apply pw_below_drewN | apply below_drew1) | exact HB.out)⟩
                        · replace c29 := Bool.eq_false_iff.mpr c29
                          subst c29
                          have H1 : (if (t103.length : Int) > 1 then (some (false, 15)) else (some (true, 0))) = some (r1, r2) := by rw [if_neg (show ¬ (false = true) by decide)] at H; exact H
                          clear H
                          have H := H1
                          clear H1
                          by_cases c30 : (t103.length : Int) > 1
                          · rw [if_pos c30] at H
                            have c30b0 : decide (1 < (t103.length : Int)) = true := decide_eq_true c30
                            have c30b1 : decide (1 < t103.length) = true := decide_eq_true (by omega)
                            clear c30
                            simp only [Option.some.injEq, Prod.mk.injEq] at H
                            obtain ⟨rfl, rfl⟩ := H
                            go_wp2
                            go_ret2
                            exact ⟨by first | rfl | (simp [errW_none, errW_some] <;> rfl) | (simp only [← hji22]; first | rfl | (simp [errW_none, errW_some] <;> rfl)) | (simp [*, errW_none, errW_some] <;> rfl), by repeat (first | (with_reducible first | exact HB.out | apply below_alloc | apply pw_below_drewN | apply below_drew1) | exact HB.out)⟩
                          · rw [if_neg c30] at H
                            have c30b0 : decide (1 < (t103.length : Int)) = false := decide_eq_false c30
                            have c30b1 : decide (1 < t103.length) = false := decide_eq_false (by omega)
                            clear c30
                            simp only [Option.some.injEq, Prod.mk.injEq] at H
                            obtain ⟨rfl, rfl⟩ := H
                            go_wp2
                            go_ret2
                            exact ⟨by first | rfl | (simp [errW_none, errW_some] <;> rfl) | (simp only [← hji22]; first | rfl | (simp [errW_none, errW_some] <;> rfl)) | (simp [*, errW_none, errW_some] <;> rfl), by repeat (first | (with_reducible first | exact HB.out | apply below_alloc | apply pw_below_drewN | apply below_drew1) | exact HB.out)⟩
                  · rw [if_neg c24] at H
                    exact absurd H (by simp)
                · rw [if_neg c23] at H
                  exact absurd H (by simp)
  · replace c3 := Bool.eq_false_iff.mpr c3
    subst c3
    have H1 : (some (false, 0)) = some (r1, r2) := by rw [if_neg (show ¬ (false = true) by decide)] at H; exact H
    clear H
    have H := H1
    clear H1
    simp only [Option.some.injEq, Prod.mk.injEq] at H
    obtain ⟨rfl, rfl⟩ := H
    go_enter Try.func28, Try.ntmps28
    go_wp2_with (first | ((with_reducible refine gate_callee (f := 72) rfl ?_); refine goesL_ (some 19) rfl rfl Try.func72 (by kernel_rfl) rfl #[.slice A0 l0.length c0, .string (⟨#[84, 114, 97, 110, 115, 102, 101, 114, 45, 69, 110, 99, 111, 100, 105, 110, 103]⟩ : ByteArray)] rfl (by (try simp only [List.map_toArray, List.map_cons, List.map_nil]); first | done | rfl | (simp only [List.length_drop, List.length_take]; rfl)) ?_; (with_reducible refine (header_Combined.calls _ _ l0 (⟨#[84, 114, 97, 110, 115, 102, 101, 114, 45, 69, 110, 99, 111, 100, 105, 110, 103]⟩ : ByteArray) t101 false _ ?side1 ?side2 A2.out).mono ?_); (case side1 => repeat (first | exact HR0.out | (with_reducible refine Kd.C_alloc ?_ _) | (with_reducible refine Kd.C_drewN ?_ _) | (with_reducible refine Kd.C_drew ?_))); (case side2 => exact HC0.out); rintro e w31 ⟨rfl, hb⟩; refine ⟨_, rfl, ?_⟩; have n0_ := Aside0.mk (below_step (by repeat (first | (with_reducible first | exact HB.out | apply below_alloc | apply pw_below_drewN | apply below_drew1) | exact HB.out)) hb); clear HB; have HB := n0_; clear n0_; (try clear hb); (try clear hb2); (try clear hk); (try clear hi)))
    go_ret2
    exact ⟨by first | rfl | (simp [errW_none, errW_some] <;> rfl) | (simp [*, errW_none, errW_some] <;> rfl), by repeat (first | (with_reducible first | exact HB.out | apply below_alloc | apply pw_below_drewN | apply below_drew1) | exact HB.out)⟩
end Go.Proofs.Ytjnhghplfdiijaa.Q

namespace Go.Proofs.Ytjnhghplfdiijaa.Q
open Go.RowKit Go.Proofs.YtjnhghplfdiijaaW.PrintWords Go.Proofs.YtjnhghplfdiijaaW.PrintLast
set_option linter.unusedVariables false
set_option linter.unusedSimpArgs false
mutual
def abutmentref19_Chunked.j0 : Nat → List ByteArray → Bool → Option (Bool × Int)
  | 0, _, _ => none
  | k + 1, x6, x31 => if x31 = true then (some (false, 14)) else (abutmentref19_Chunked.l0 k x6 0)
def abutmentref19_Chunked.l0 : Nat → List ByteArray → Int → Option (Bool × Int)
  | 0, _, _ => none
  | k + 1, x6, x8 => if x8 < (x6.length : Int) then (if 0 ≤ x8 then ((abutmentref08_Parse.f k (rdOf ByteArray.empty x6 x8)).bind fun bt108 => (if bt108.2.2 = 0 then (if ((x8 == (wrap64 ((x6.length : Int) - 1))) != (bt108.1.toList == ([99, 104, 117, 110, 107, 101, 100] : List UInt8))) = true then (some (false, 14)) else (if x8 = (wrap64 ((x6.length : Int) - 1)) then (if (bt108.2.1.length : Int) > 0 then (some (false, 14)) else (abutmentref19_Chunked.l0 k x6 (wrap64 (x8 + 1)))) else (abutmentref19_Chunked.l0 k x6 (wrap64 (x8 + 1))))) else (some (false, 14)))) else (none)) else (if (x6.length : Int) > 1 then (some (false, 15)) else (some (true, 0)))
end
def abutmentref19_Chunked.f (k : Nat) (l0 : List (S60)) : Option (Bool × Int) := (abutmentref10_Combined.f k l0 (⟨#[84, 114, 97, 110, 115, 102, 101, 114, 45, 69, 110, 99, 111, 100, 105, 110, 103]⟩ : ByteArray)).bind fun bt101 => ((abutmentref07_Split.f k bt101.1).bind fun bt103 => (if bt101.2 = true then (if bt103.2 = true then (abutmentref19_Chunked.j0 k bt103.1 ((bt103.1.length : Int) == 0)) else (abutmentref19_Chunked.j0 k bt103.1 true)) else (some (false, 0))))
theorem abutmentref19_Chunked.mono_l : ∀ k, (∀ y0 y1, LeO (abutmentref19_Chunked.j0 k y0 y1) (abutmentref19_Chunked.j0 (k + 1) y0 y1)) ∧ (∀ y0 y1, LeO (abutmentref19_Chunked.l0 k y0 y1) (abutmentref19_Chunked.l0 (k + 1) y0 y1))
  | 0 => ⟨fun _ _ r h => by simp [abutmentref19_Chunked.j0] at h, fun _ _ r h => by simp [abutmentref19_Chunked.l0] at h⟩
  | k + 1 => by
    obtain ⟨ih0, ih1⟩ := abutmentref19_Chunked.mono_l k
    refine ⟨?_, ?_⟩
    · intro y0 y1
      unfold abutmentref19_Chunked.j0
      repeat' first
      | (with_reducible exact ih0 _ _)
      | (with_reducible exact ih1 _ _)
      | (with_reducible exact abutmentref07_Split.mono _ _)
      | (with_reducible exact abutmentref08_Parse.mono _ _)
      | (with_reducible exact abutmentref10_Combined.mono _ _ _)
      | (with_reducible exact LeO.refl _)
      | (with_reducible exact LeO.none _)
      | (with_reducible refine LeO.ite ?_ ?_)
      | (with_reducible refine LeO.bind ?_ (fun _ => ?_))
      | exact ih0 _ _
      | exact ih1 _ _
      | exact abutmentref07_Split.mono _ _
      | exact abutmentref08_Parse.mono _ _
      | exact abutmentref10_Combined.mono _ _ _
      | exact LeO.none _
      | refine LeO.ite ?_ ?_
      | refine LeO.bind ?_ (fun _ => ?_)
    · intro y0 y1
      unfold abutmentref19_Chunked.l0
      repeat' first
      | (with_reducible exact ih0 _ _)
      | (with_reducible exact ih1 _ _)
      | (with_reducible exact abutmentref07_Split.mono _ _)
      | (with_reducible exact abutmentref08_Parse.mono _ _)
      | (with_reducible exact abutmentref10_Combined.mono _ _ _)
      | (with_reducible exact LeO.refl _)
      | (with_reducible exact LeO.none _)
      | (with_reducible refine LeO.ite ?_ ?_)
      | (with_reducible refine LeO.bind ?_ (fun _ => ?_))
      | exact ih0 _ _
      | exact ih1 _ _
      | exact abutmentref07_Split.mono _ _
      | exact abutmentref08_Parse.mono _ _
      | exact abutmentref10_Combined.mono _ _ _
      | exact LeO.none _
      | refine LeO.ite ?_ ?_
      | refine LeO.bind ?_ (fun _ => ?_)
theorem abutmentref19_Chunked.mono : ∀ a0 k, LeO (abutmentref19_Chunked.f k a0) (abutmentref19_Chunked.f (k + 1) a0) := by
  intro a0 k
  obtain ⟨ih0, ih1⟩ := abutmentref19_Chunked.mono_l k
  unfold abutmentref19_Chunked.f
  repeat' first
      | (with_reducible exact ih0 _ _)
      | (with_reducible exact ih1 _ _)
      | (with_reducible exact abutmentref07_Split.mono _ _)
      | (with_reducible exact abutmentref08_Parse.mono _ _)
      | (with_reducible exact abutmentref10_Combined.mono _ _ _)
      | (with_reducible exact LeO.refl _)
      | (with_reducible exact LeO.none _)
      | (with_reducible refine LeO.ite ?_ ?_)
      | (with_reducible refine LeO.bind ?_ (fun _ => ?_))
      | exact ih0 _ _
      | exact ih1 _ _
      | exact abutmentref07_Split.mono _ _
      | exact abutmentref08_Parse.mono _ _
      | exact abutmentref10_Combined.mono _ _ _
      | exact LeO.none _
      | refine LeO.ite ?_ ?_
      | refine LeO.bind ?_ (fun _ => ?_)
set_option maxHeartbeats 8000000 in
set_option maxRecDepth 100000 in
theorem abutmentref19_Chunked.calls (k : Nat) (A0 : Option Addr) (c0 : Nat) (l0 : List (S60)) (r1 : Bool) (r2 : Int) (w : World) (hr0 : Kd.C k60 w A0 l0.length l0) (hc0 : l0.length ≤ c0) (h : abutmentref19_Chunked.f k l0 = some (r1, r2)) :
    Calls Try.prog 29 #[.slice A0 l0.length c0] w fun e w' => e = .returned (.tuple #[.bool r1, .int .i64 r2]) ∧ Below w.heap.size w w' := by
  have HR0 := Aside0.mk hr0
  have HC0 := Aside0.mk hc0
  clear hr0 hc0
  have HB := Aside0.mk (Below.refl w.heap.size w)
  have H : ((abutmentref10_Combined.f k l0 (⟨#[84, 114, 97, 110, 115, 102, 101, 114, 45, 69, 110, 99, 111, 100, 105, 110, 103]⟩ : ByteArray)).bind fun bt101 => ((abutmentref07_Split.f k bt101.1).bind fun bt103 => (if bt101.2 = true then (if bt103.2 = true then (abutmentref19_Chunked.j0 k bt103.1 ((bt103.1.length : Int) == 0)) else (abutmentref19_Chunked.j0 k bt103.1 true)) else (some (false, 0))))) = some (r1, r2) := h
  clear h
  replace H := Option.bind_eq_some_iff.mp H
  obtain ⟨⟨t101, t102⟩, A20, H⟩ := H
  (try dsimp only at H)
  have A2 := Aside0.mk A20
  clear A20
  replace H := Option.bind_eq_some_iff.mp H
  obtain ⟨⟨t103, t104⟩, A30, H⟩ := H
  (try dsimp only at H)
  have A3 := Aside0.mk A30
  clear A30
  by_cases c4 : t102 = true
  · subst c4
    have H1 : (if t104 = true then (abutmentref19_Chunked.j0 k t103 ((t103.length : Int) == 0)) else (abutmentref19_Chunked.j0 k t103 true)) = some (r1, r2) := by rw [if_pos rfl] at H; exact H
    clear H
    have H := H1
    clear H1
    have HC5 := Aside0.mk H
    clear H
    go_enter Try.func29, Try.ntmps29
    go_upto_region 5 with (first | ((with_reducible refine gate_callee (f := 75) rfl ?_); refine goesL_ (some 15) rfl rfl Try.func75 (by kernel_rfl) rfl #[.slice A0 l0.length c0, .string (⟨#[84, 114, 97, 110, 115, 102, 101, 114, 45, 69, 110, 99, 111, 100, 105, 110, 103]⟩ : ByteArray)] rfl (by (try simp only [List.map_toArray, List.map_cons, List.map_nil]); first | done | rfl | (simp only [List.length_drop, List.length_take]; rfl)) ?_; (with_reducible refine (abutmentref10_Combined.calls k _ _ l0 (⟨#[84, 114, 97, 110, 115, 102, 101, 114, 45, 69, 110, 99, 111, 100, 105, 110, 103]⟩ : ByteArray) t101 true _ ?side1 ?side2 A2.out).mono ?_); (case side1 => repeat (first | exact HR0.out | (with_reducible refine Kd.C_alloc ?_ _) | (with_reducible refine Kd.C_drewN ?_ _) | (with_reducible refine Kd.C_drew ?_))); (case side2 => exact HC0.out); rintro e w6 ⟨rfl, hb⟩; refine ⟨_, rfl, ?_⟩; have n0_ := Aside0.mk (below_step (by repeat (first | (with_reducible first | exact HB.out | apply below_alloc | apply pw_below_drewN | apply below_drew1) | exact HB.out)) hb); clear HB; have HB := n0_; clear n0_; (try clear hb); (try clear hb2); (try clear hk); (try clear hi)) | ((with_reducible refine gate_callee (f := 76) rfl ?_); refine goesL_ (some 20) rfl rfl Try.func76 (by kernel_rfl) rfl #[.string t101] rfl (by (try simp only [List.map_toArray, List.map_cons, List.map_nil]); first | done | rfl | (simp only [List.length_drop, List.length_take]; rfl)) ?_; (with_reducible refine (abutmentref07_Split.calls k t101 t103 t104 _ A3.out).mono ?_); rintro e w7 ⟨v105, rfl, ho0, hb⟩; refine ⟨_, rfl, ?_⟩; have n0_ := Aside0.mk (Kd.R_lower ho0 (below_size (by repeat (first | (with_reducible first | exact HB.out | apply below_alloc | apply pw_below_drewN | apply below_drew1) | exact HB.out)))); have n1_ := Aside0.mk (below_step (by repeat (first | (with_reducible first | exact HB.out | apply below_alloc | apply pw_below_drewN | apply below_drew1) | exact HB.out)) hb); clear HB; have HO106 := n0_; have HB := n1_; clear n0_ n1_; (try clear hb); (try clear hb2); (try clear hk); (try clear hi); (try clear ho0)))
    (try simp only [Act.put, List.setIfInBounds_toArray, List.set_cons_zero, List.set_cons_succ])
    go_cut [31] (fun v31 wc => ∃ (kq : Nat) (x31_4 : Bool), v31 = .bool x31_4 ∧ Aside0 (abutmentref19_Chunked.j0 kq t103 x31_4 = some (r1, r2)) ∧ Aside0 (kq ≤ k) ∧ Aside0 (Kd.R Kd.string 9 wc w.heap.size (fun _ => True) v105 t103) ∧ Aside0 (Below w.heap.size w wc))
    case first =>
      have H := HC5.out
      clear HC5
      by_cases c8 : t104 = true
      · subst c8
        have H1 : (abutmentref19_Chunked.j0 k t103 ((t103.length : Int) == 0)) = some (r1, r2) := by rw [if_pos rfl] at H; exact H
        clear H
        have H := H1
        clear H1
        have H' := Aside0.mk H
        clear H
        obtain ⟨Ao9, co9, eo9⟩ := Kd.R_slice HO106.out
        subst eo9
        go_wp2
        go_meet
        case rel => exact ⟨_, (((t103.length : Int) == 0)), (by first | rfl | (simp; done) | (simp [*]; done)), H', ⟨by first | omega | exact Nat.le_refl _⟩, ⟨by (with_reducible repeat (first | apply Kd.R_alloc | apply Kd.R_drewN | apply Kd.R_drew)); exact HO106.out⟩, ⟨by repeat (first | (with_reducible first | exact HB.out | apply below_alloc | apply pw_below_drewN | apply below_drew1) | exact HB.out)⟩⟩
      · replace c8 := Bool.eq_false_iff.mpr c8
        subst c8
        have H1 : (abutmentref19_Chunked.j0 k t103 true) = some (r1, r2) := by rw [if_neg (show ¬ (false = true) by decide)] at H; exact H
        clear H
        have H := H1
        clear H1
        have H' := Aside0.mk H
        clear H
        go_wp2
        go_meet
        case rel => exact ⟨_, (true), (by first | rfl | (simp; done) | (simp [*]; done)), H', ⟨by first | omega | exact Nat.le_refl _⟩, ⟨by (with_reducible repeat (first | apply Kd.R_alloc | apply Kd.R_drewN | apply Kd.R_drew)); exact HO106.out⟩, ⟨by repeat (first | (with_reducible first | exact HB.out | apply below_alloc | apply pw_below_drewN | apply below_drew1) | exact HB.out)⟩⟩
    case rest =>
      clear HC5
      try clear c2
      try clear p2
      try clear c4
      try clear c7
      try clear c8
      obtain ⟨kq, x31_4, rfl, HA, HJ4, HO_6, HB⟩ := hcut
      cases kq with
      | zero => exact absurd HA.out (by simp [abutmentref19_Chunked.j0])
      | succ kj4 =>
        have H := HA.out
        clear HA
        simp only [abutmentref19_Chunked.j0] at H
        by_cases c10 : x31_4 = true
        · subst c10
          have H1 : (some (false, 14)) = some (r1, r2) := by rw [if_pos rfl] at H; exact H
          clear H
          have H := H1
          clear H1
          simp only [Option.some.injEq, Prod.mk.injEq] at H
          obtain ⟨rfl, rfl⟩ := H
          go_wp2
          go_ret2
          exact ⟨by first | rfl | (simp [errW_none, errW_some] <;> rfl) | (simp [*, errW_none, errW_some] <;> rfl), by repeat (first | (with_reducible first | exact HB.out | apply below_alloc | apply pw_below_drewN | apply below_drew1) | exact HB.out)⟩
        · replace c10 := Bool.eq_false_iff.mpr c10
          subst c10
          have H1 : (abutmentref19_Chunked.l0 kj4 t103 0) = some (r1, r2) := by rw [if_neg (show ¬ (false = true) by decide)] at H; exact H
          clear H
          have H := H1
          clear H1
          have H' := Aside0.mk H
          clear H
          go_wp2
          go_loopg [8] kj4 (fun kq v8 w' => ∃ (x8_2 : Int), v8 = .int .i64 x8_2 ∧ Aside0 (abutmentref19_Chunked.l0 kq t103 x8_2 = some (r1, r2)) ∧ Aside0 (kq ≤ kj4) ∧ Aside0 (Kd.R Kd.string 9 w' w.heap.size (fun _ => True) v105 t103) ∧ Aside0 (Below w.heap.size w w'))
          case atStart => exact ⟨(0), (by first | rfl | (simp; done) | (simp [*]; done)), H', ⟨Nat.le_refl _⟩, ⟨by (with_reducible repeat (first | apply Kd.R_alloc | apply Kd.R_drewN | apply Kd.R_drew)); exact HO_6.out⟩, ⟨by repeat (first | (with_reducible first | exact HB.out | apply below_alloc | apply pw_below_drewN | apply below_drew1) | exact HB.out)⟩⟩
          case round =>
            clear H'
            try clear c1
            try clear c2
            try clear p2
            try clear c4
            try clear c7
            try clear c8
            try clear c10
            try clear p2
            obtain ⟨x8_2, rfl, HA, HK2, HO_6, HB⟩ := hrel
            cases gk with
            | zero => exact absurd HA.out (by simp [abutmentref19_Chunked.l0])
            | succ k2 =>
              have H := HA.out
              clear HA
              simp only [abutmentref19_Chunked.l0] at H
              by_cases c11 : x8_2 < (t103.length : Int)
              · rw [if_pos c11] at H
                have c11b0 : decide (x8_2 < (t103.length : Int)) = true := decide_eq_true c11
                clear c11
                by_cases c12 : 0 ≤ x8_2
                · rw [if_pos c12] at H
                  have c12b0 : decide (0 ≤ x8_2) = true := decide_eq_true c12
                  clear c12
                  replace H := Option.bind_eq_some_iff.mp H
                  obtain ⟨⟨t108, t109, t110⟩, A130, H⟩ := H
                  (try dsimp only at H)
                  have A13 := Aside0.mk A130
                  clear A130
                  by_cases c14 : t110 = 0
                  · rw [if_pos c14] at H
                    have c14b0 : (t110 == 0) = true := beq_iff_eq.mpr c14
                    have c14b1 : (t110 != 0) = false := bne_eq_false_iff_eq.mpr c14
                    clear c14
                    by_cases c15 : ((x8_2 == (wrap64 ((t103.length : Int) - 1))) != (t108.toList == ([99, 104, 117, 110, 107, 101, 100] : List UInt8))) = true
                    · rw [if_pos c15] at H
                      have c15b0 : ((x8_2 == (wrap64 ((t103.length : Int) - 1))) != (t108.toList == ([99, 104, 117, 110, 107, 101, 100] : List UInt8))) = true := c15
                      (try (have c15b1 : decide ((x8_2 == (wrap64 ((t103.length : Int) - 1))) = (t108.toList == ([99, 104, 117, 110, 107, 101, 100] : List UInt8))) = false := by simpa using c15))
                      (try (have c15b2 : ((x8_2 == (wrap64 ((t103.length : Int) - 1))) == (t108.toList == ([99, 104, 117, 110, 107, 101, 100] : List UInt8))) = false := by simpa using c15))
                      (try (have c15b3 : ¬ ((x8_2 == (wrap64 ((t103.length : Int) - 1))) = (t108.toList == ([99, 104, 117, 110, 107, 101, 100] : List UInt8))) := by simpa using c15))
                      clear c15
                      simp only [Option.some.injEq, Prod.mk.injEq] at H
                      obtain ⟨rfl, rfl⟩ := H
                      obtain ⟨Ao16, co16, eo16⟩ := Kd.R_slice HO_6.out
                      subst eo16
                      have p107 : 0 ≤ (x8_2 : Int) := of_decide_eq_true (by first | (with_reducible assumption) | assumption)
                      have q107 : x8_2 < (t103.length : Int) := of_decide_eq_true (by first | (with_reducible assumption) | assumption)
                      obtain ⟨ad107, e107, hx107_0⟩ := Kd.at_string (Kd.R_reads' HO_6.out).2.2 x8_2 p107 q107
                      cases e107
                      replace p107 := eq_true p107
                      replace q107 := eq_true q107
                      go_wp2_with (first | ((with_reducible refine gate_callee (f := 77) rfl ?_); refine goesL_ (some 43) rfl rfl Try.func77 (by kernel_rfl) rfl #[.string (rdOf ByteArray.empty t103 x8_2)] rfl (by (try simp only [List.map_toArray, List.map_cons, List.map_nil]); first | done | rfl | (simp only [List.length_drop, List.length_take]; rfl)) ?_; (with_reducible refine (abutmentref08_Parse.calls k2 (rdOf ByteArray.empty t103 x8_2) t108 t109 t110 _ A13.out).mono ?_); rintro e w17 ⟨v111, rfl, ho0, hb⟩; refine ⟨_, rfl, ?_⟩; have n0_ := Aside0.mk (Kd.R_below (by (with_reducible repeat (first | apply Kd.R_alloc | apply Kd.R_drewN | apply Kd.R_drew)); exact HO_6.out) hb); have n1_ := Aside0.mk (Kd.R_lower ho0 (below_size (by repeat (first | (with_reducible first | exact HB.out | apply below_alloc | apply pw_below_drewN | apply below_drew1) | exact HB.out)))); have n2_ := Aside0.mk (below_step (by repeat (first | (with_reducible first | exact HB.out | apply below_alloc | apply pw_below_drewN | apply below_drew1) | exact HB.out)) hb); clear HO_6; clear HB; have HO_6 := n0_; have HO112 := n1_; have HB := n2_; clear n0_ n1_ n2_; (try clear hb); (try clear hb2); (try clear hk); (try clear hi); (try clear ho0)))
                      go_ret2
                      exact ⟨by first | rfl | (simp [errW_none, errW_some] <;> rfl) | (simp [*, errW_none, errW_some] <;> rfl), by repeat (first | (with_reducible first | exact HB.out | apply below_alloc | apply pw_below_drewN | apply below_drew1) | exact HB.out)⟩
                    · rw [if_neg c15] at H
                      have c15b0 : ((x8_2 == (wrap64 ((t103.length : Int) - 1))) != (t108.toList == ([99, 104, 117, 110, 107, 101, 100] : List UInt8))) = false := by simpa using c15
                      (try (have c15b1 : decide ((x8_2 == (wrap64 ((t103.length : Int) - 1))) = (t108.toList == ([99, 104, 117, 110, 107, 101, 100] : List UInt8))) = true := by simpa using c15))
                      (try (have c15b2 : ((x8_2 == (wrap64 ((t103.length : Int) - 1))) == (t108.toList == ([99, 104, 117, 110, 107, 101, 100] : List UInt8))) = true := by simpa using c15))
                      clear c15
                      by_cases c18 : x8_2 = (wrap64 ((t103.length : Int) - 1))
                      · rw [if_pos c18] at H
                        have c18b0 : (x8_2 == (wrap64 ((t103.length : Int) - 1))) = true := beq_iff_eq.mpr c18
                        have c18b1 : (x8_2 != (wrap64 ((t103.length : Int) - 1))) = false := bne_eq_false_iff_eq.mpr c18
                        have c18c : (t108.toList == ([99, 104, 117, 110, 107, 101, 100] : List UInt8)) = true := by { have q_ := c15b0; rw [c18b0] at q_; simpa using q_ }
                        have c18d : t108.toList = [99, 104, 117, 110, 107, 101, 100] := by simpa using c18c
                        clear c18
                        by_cases c19 : (t109.length : Int) > 0
                        · rw [if_pos c19] at H
                          have c19b0 : decide (0 < (t109.length : Int)) = true := decide_eq_true c19
                          have c19b1 : decide (0 < t109.length) = true := decide_eq_true (by omega)
                          clear c19
                          simp only [Option.some.injEq, Prod.mk.injEq] at H
                          obtain ⟨rfl, rfl⟩ := H
                          obtain ⟨Ao20, co20, eo20⟩ := Kd.R_slice HO_6.out
                          subst eo20
                          have p107 : 0 ≤ (x8_2 : Int) := of_decide_eq_true (by first | (with_reducible assumption) | assumption)
                          have q107 : x8_2 < (t103.length : Int) := of_decide_eq_true (by first | (with_reducible assumption) | assumption)
                          obtain ⟨ad107, e107, hx107_0⟩ := Kd.at_string (Kd.R_reads' HO_6.out).2.2 x8_2 p107 q107
                          cases e107
                          replace p107 := eq_true p107
                          replace q107 := eq_true q107
                          go_wp2_with (first | ((with_reducible refine gate_callee (f := 77) rfl ?_); refine goesL_ (some 43) rfl rfl Try.func77 (by kernel_rfl) rfl #[.string (rdOf ByteArray.empty t103 x8_2)] rfl (by (try simp only [List.map_toArray, List.map_cons, List.map_nil]); first | done | rfl | (simp only [List.length_drop, List.length_take]; rfl)) ?_; (with_reducible refine (abutmentref08_Parse.calls k2 (rdOf ByteArray.empty t103 x8_2) t108 t109 t110 _ A13.out).mono ?_); rintro e w21 ⟨v111, rfl, ho0, hb⟩; refine ⟨_, rfl, ?_⟩; have n0_ := Aside0.mk (Kd.R_below (by (with_reducible repeat (first | apply Kd.R_alloc | apply Kd.R_drewN | apply Kd.R_drew)); exact HO_6.out) hb); have n1_ := Aside0.mk (Kd.R_lower ho0 (below_size (by repeat (first | (with_reducible first | exact HB.out | apply below_alloc | apply pw_below_drewN | apply below_drew1) | exact HB.out)))); have n2_ := Aside0.mk (below_step (by repeat (first | (with_reducible first | exact HB.out | apply below_alloc | apply pw_below_drewN | apply below_drew1) | exact HB.out)) hb); clear HO_6; clear HB; have HO_6 := n0_; have HO112 := n1_; have HB := n2_; clear n0_ n1_ n2_; (try clear hb); (try clear hb2); (try clear hk); (try clear hi); (try clear ho0); obtain ⟨Ao22, co22, eo22⟩ := Kd.R_slice HO112.out; subst eo22))
                          go_ret2
                          exact ⟨by first | rfl | (simp [errW_none, errW_some] <;> rfl) | (simp [*, errW_none, errW_some] <;> rfl), by repeat (first | (with_reducible first | exact HB.out | apply below_alloc | apply pw_below_drewN | apply below_drew1) | exact HB.out)⟩
                        · rw [if_neg c19] at H
                          have c19b0 : decide (0 < (t109.length : Int)) = false := decide_eq_false c19
                          have c19b1 : decide (0 < t109.length) = false := decide_eq_false (by omega)
                          clear c19
                          have H' := Aside0.mk H
                          clear H
                          obtain ⟨Ao23, co23, eo23⟩ := Kd.R_slice HO_6.out
                          subst eo23
                          have p107 : 0 ≤ (x8_2 : Int) := of_decide_eq_true (by first | (with_reducible assumption) | assumption)
                          have q107 : x8_2 < (t103.length : Int) := of_decide_eq_true (by first | (with_reducible assumption) | assumption)
                          obtain ⟨ad107, e107, hx107_0⟩ := Kd.at_string (Kd.R_reads' HO_6.out).2.2 x8_2 p107 q107
                          cases e107
                          replace p107 := eq_true p107
                          replace q107 := eq_true q107
                          go_wp2_with (first | ((with_reducible refine gate_callee (f := 77) rfl ?_); refine goesL_ (some 43) rfl rfl Try.func77 (by kernel_rfl) rfl #[.string (rdOf ByteArray.empty t103 x8_2)] rfl (by (try simp only [List.map_toArray, List.map_cons, List.map_nil]); first | done | rfl | (simp only [List.length_drop, List.length_take]; rfl)) ?_; (with_reducible refine (abutmentref08_Parse.calls k2 (rdOf ByteArray.empty t103 x8_2) t108 t109 t110 _ A13.out).mono ?_); rintro e w24 ⟨v111, rfl, ho0, hb⟩; refine ⟨_, rfl, ?_⟩; have n0_ := Aside0.mk (Kd.R_below (by (with_reducible repeat (first | apply Kd.R_alloc | apply Kd.R_drewN | apply Kd.R_drew)); exact HO_6.out) hb); have n1_ := Aside0.mk (Kd.R_lower ho0 (below_size (by repeat (first | (with_reducible first | exact HB.out | apply below_alloc | apply pw_below_drewN | apply below_drew1) | exact HB.out)))); have n2_ := Aside0.mk (below_step (by repeat (first | (with_reducible first | exact HB.out | apply below_alloc | apply pw_below_drewN | apply below_drew1) | exact HB.out)) hb); clear HO_6; clear HB; have HO_6 := n0_; have HO112 := n1_; have HB := n2_; clear n0_ n1_ n2_; (try clear hb); (try clear hb2); (try clear hk); (try clear hi); (try clear ho0); obtain ⟨Ao25, co25, eo25⟩ := Kd.R_slice HO112.out; subst eo25))
                          go_roundg k2
                          case measure => have := HJ4.out; have := HK2.out; omega
                          case rel => exact ⟨(wrap64 (x8_2 + 1)), (by first | rfl | (simp; done) | (simp [*]; done)), H', ⟨by have := HJ4.out; have := HK2.out; omega⟩, ⟨by (with_reducible repeat (first | apply Kd.R_alloc | apply Kd.R_drewN | apply Kd.R_drew)); exact HO_6.out⟩, ⟨by repeat (first | (with_reducible first | exact HB.out | apply below_alloc | apply pw_below_drewN | apply below_drew1) | exact HB.out)⟩⟩
                      · rw [if_neg c18] at H
                        have c18b0 : (x8_2 == (wrap64 ((t103.length : Int) - 1))) = false := beq_eq_false_iff_ne.mpr c18
                        have c18b1 : (x8_2 != (wrap64 ((t103.length : Int) - 1))) = true := bne_iff_ne.mpr c18
                        have c18c : (t108.toList == ([99, 104, 117, 110, 107, 101, 100] : List UInt8)) = false := by { have q_ := c15b0; rw [c18b0] at q_; simpa using q_ }
                        have c18d : t108.toList ≠ [99, 104, 117, 110, 107, 101, 100] := by simpa using c18c
                        have H' := Aside0.mk H
                        clear H
                        obtain ⟨Ao26, co26, eo26⟩ := Kd.R_slice HO_6.out
                        subst eo26
                        have p107 : 0 ≤ (x8_2 : Int) := of_decide_eq_true (by first | (with_reducible assumption) | assumption)
                        have q107 : x8_2 < (t103.length : Int) := of_decide_eq_true (by first | (with_reducible assumption) | assumption)
                        obtain ⟨ad107, e107, hx107_0⟩ := Kd.at_string (Kd.R_reads' HO_6.out).2.2 x8_2 p107 q107
                        cases e107
                        replace p107 := eq_true p107
                        replace q107 := eq_true q107
                        go_wp2_with (first | ((with_reducible refine gate_callee (f := 77) rfl ?_); refine goesL_ (some 43) rfl rfl Try.func77 (by kernel_rfl) rfl #[.string (rdOf ByteArray.empty t103 x8_2)] rfl (by (try simp only [List.map_toArray, List.map_cons, List.map_nil]); first | done | rfl | (simp only [List.length_drop, List.length_take]; rfl)) ?_; (with_reducible refine (abutmentref08_Parse.calls k2 (rdOf ByteArray.empty t103 x8_2) t108 t109 t110 _ A13.out).mono ?_); rintro e w27 ⟨v111, rfl, ho0, hb⟩; refine ⟨_, rfl, ?_⟩; have n0_ := Aside0.mk (Kd.R_below (by (with_reducible repeat (first | apply Kd.R_alloc | apply Kd.R_drewN | apply Kd.R_drew)); exact HO_6.out) hb); have n1_ := Aside0.mk (Kd.R_lower ho0 (below_size (by repeat (first | (with_reducible first | exact HB.out | apply below_alloc | apply pw_below_drewN | apply below_drew1) | exact HB.out)))); have n2_ := Aside0.mk (below_step (by repeat (first | (with_reducible first | exact HB.out | apply below_alloc | apply pw_below_drewN | apply below_drew1) | exact HB.out)) hb); clear HO_6; clear HB; have HO_6 := n0_; have HO112 := n1_; have HB := n2_; clear n0_ n1_ n2_; (try clear hb); (try clear hb2); (try clear hk); (try clear hi); (try clear ho0)))
                        go_roundg k2
                        case measure => have := HJ4.out; have := HK2.out; omega
                        case rel => exact ⟨(wrap64 (x8_2 + 1)), (by first | rfl | (simp; done) | (simp [*]; done)), H', ⟨by have := HJ4.out; have := HK2.out; omega⟩, ⟨by (with_reducible repeat (first | apply Kd.R_alloc | apply Kd.R_drewN | apply Kd.R_drew)); exact HO_6.out⟩, ⟨by repeat (first | (with_reducible first | exact HB.out | apply below_alloc | apply pw_below_drewN | apply below_drew1) | exact HB.out)⟩⟩
                  · rw [if_neg c14] at H
                    have c14b0 : (t110 == 0) = false := beq_eq_false_iff_ne.mpr c14
                    have c14b1 : (t110 != 0) = true := bne_iff_ne.mpr c14
                    simp only [Option.some.injEq, Prod.mk.injEq] at H
                    obtain ⟨rfl, rfl⟩ := H
                    obtain ⟨Ao28, co28, eo28⟩ := Kd.R_slice HO_6.out
                    subst eo28
                    have p107 : 0 ≤ (x8_2 : Int) := of_decide_eq_true (by first | (with_reducible assumption) | assumption)
                    have q107 : x8_2 < (t103.length : Int) := of_decide_eq_true (by first | (with_reducible assumption) | assumption)
                    obtain ⟨ad107, e107, hx107_0⟩ := Kd.at_string (Kd.R_reads' HO_6.out).2.2 x8_2 p107 q107
                    cases e107
                    replace p107 := eq_true p107
                    replace q107 := eq_true q107
                    go_wp2_with (first | ((with_reducible refine gate_callee (f := 77) rfl ?_); refine goesL_ (some 43) rfl rfl Try.func77 (by kernel_rfl) rfl #[.string (rdOf ByteArray.empty t103 x8_2)] rfl (by (try simp only [List.map_toArray, List.map_cons, List.map_nil]); first | done | rfl | (simp only [List.length_drop, List.length_take]; rfl)) ?_; (with_reducible refine (abutmentref08_Parse.calls k2 (rdOf ByteArray.empty t103 x8_2) t108 t109 t110 _ A13.out).mono ?_); rintro e w29 ⟨v111, rfl, ho0, hb⟩; refine ⟨_, rfl, ?_⟩; have n0_ := Aside0.mk (Kd.R_below (by (with_reducible repeat (first | apply Kd.R_alloc | apply Kd.R_drewN | apply Kd.R_drew)); exact HO_6.out) hb); have n1_ := Aside0.mk (Kd.R_lower ho0 (below_size (by repeat (first | (with_reducible first | exact HB.out | apply below_alloc | apply pw_below_drewN | apply below_drew1) | exact HB.out)))); have n2_ := Aside0.mk (below_step (by repeat (first | (with_reducible first | exact HB.out | apply below_alloc | apply pw_below_drewN | apply below_drew1) | exact HB.out)) hb); clear HO_6; clear HB; have HO_6 := n0_; have HO112 := n1_; have HB := n2_; clear n0_ n1_ n2_; (try clear hb); (try clear hb2); (try clear hk); (try clear hi); (try clear ho0)))
                    go_ret2
                    exact ⟨by first | rfl | (simp [errW_none, errW_some] <;> rfl) | (simp [*, errW_none, errW_some] <;> rfl), by repeat (first | (with_reducible first | exact HB.out | apply below_alloc | apply pw_below_drewN | apply below_drew1) | exact HB.out)⟩
                · rw [if_neg c12] at H
                  exact absurd H (by simp)
              · rw [if_neg c11] at H
                have c11b0 : decide (x8_2 < (t103.length : Int)) = false := decide_eq_false c11
                clear c11
                by_cases c30 : (t103.length : Int) > 1
                · rw [if_pos c30] at H
                  have c30b0 : decide (1 < (t103.length : Int)) = true := decide_eq_true c30
                  have c30b1 : decide (1 < t103.length) = true := decide_eq_true (by omega)
                  clear c30
                  simp only [Option.some.injEq, Prod.mk.injEq] at H
                  obtain ⟨rfl, rfl⟩ := H
                  obtain ⟨Ao31, co31, eo31⟩ := Kd.R_slice HO_6.out
                  subst eo31
                  go_wp2
                  go_ret2
                  exact ⟨by first | rfl | (simp [errW_none, errW_some] <;> rfl) | (simp [*, errW_none, errW_some] <;> rfl), by repeat (first | (with_reducible first | exact HB.out | apply below_alloc | apply pw_below_drewN | apply below_drew1) | exact HB.out)⟩
                · rw [if_neg c30] at H
                  have c30b0 : decide (1 < (t103.length : Int)) = false := decide_eq_false c30
                  have c30b1 : decide (1 < t103.length) = false := decide_eq_false (by omega)
                  clear c30
                  simp only [Option.some.injEq, Prod.mk.injEq] at H
                  obtain ⟨rfl, rfl⟩ := H
                  obtain ⟨Ao32, co32, eo32⟩ := Kd.R_slice HO_6.out
                  subst eo32
                  go_wp2
                  go_ret2
                  exact ⟨by first | rfl | (simp [errW_none, errW_some] <;> rfl) | (simp [*, errW_none, errW_some] <;> rfl), by repeat (first | (with_reducible first | exact HB.out | apply below_alloc | apply pw_below_drewN | apply below_drew1) | exact HB.out)⟩
  · replace c4 := Bool.eq_false_iff.mpr c4
    subst c4
    have H1 : (some (false, 0)) = some (r1, r2) := by rw [if_neg (show ¬ (false = true) by decide)] at H; exact H
    clear H
    have H := H1
    clear H1
    simp only [Option.some.injEq, Prod.mk.injEq] at H
    obtain ⟨rfl, rfl⟩ := H
    go_enter Try.func29, Try.ntmps29
    go_wp2_with (first | ((with_reducible refine gate_callee (f := 75) rfl ?_); refine goesL_ (some 15) rfl rfl Try.func75 (by kernel_rfl) rfl #[.slice A0 l0.length c0, .string (⟨#[84, 114, 97, 110, 115, 102, 101, 114, 45, 69, 110, 99, 111, 100, 105, 110, 103]⟩ : ByteArray)] rfl (by (try simp only [List.map_toArray, List.map_cons, List.map_nil]); first | done | rfl | (simp only [List.length_drop, List.length_take]; rfl)) ?_; (with_reducible refine (abutmentref10_Combined.calls k _ _ l0 (⟨#[84, 114, 97, 110, 115, 102, 101, 114, 45, 69, 110, 99, 111, 100, 105, 110, 103]⟩ : ByteArray) t101 false _ ?side1 ?side2 A2.out).mono ?_); (case side1 => repeat (first | exact HR0.out | (with_reducible refine Kd.C_alloc ?_ _) | (with_reducible refine Kd.C_drewN ?_ _) | (with_reducible refine Kd.C_drew ?_))); (case side2 => exact HC0.out); rintro e w33 ⟨rfl, hb⟩; refine ⟨_, rfl, ?_⟩; have n0_ := Aside0.mk (below_step (by repeat (first | (with_reducible first | exact HB.out | apply below_alloc | apply pw_below_drewN | apply below_drew1) | exact HB.out)) hb); clear HB; have HB := n0_; clear n0_; (try clear hb); (try clear hb2); (try clear hk); (try clear hi)) | ((with_reducible refine gate_callee (f := 76) rfl ?_); refine goesL_ (some 20) rfl rfl Try.func76 (by kernel_rfl) rfl #[.string t101] rfl (by (try simp only [List.map_toArray, List.map_cons, List.map_nil]); first | done | rfl | (simp only [List.length_drop, List.length_take]; rfl)) ?_; (with_reducible refine (abutmentref07_Split.calls k t101 t103 t104 _ A3.out).mono ?_); rintro e w34 ⟨v105, rfl, ho0, hb⟩; refine ⟨_, rfl, ?_⟩; have n0_ := Aside0.mk (Kd.R_lower ho0 (below_size (by repeat (first | (with_reducible first | exact HB.out | apply below_alloc | apply pw_below_drewN | apply below_drew1) | exact HB.out)))); have n1_ := Aside0.mk (below_step (by repeat (first | (with_reducible first | exact HB.out | apply below_alloc | apply pw_below_drewN | apply below_drew1) | exact HB.out)) hb); clear HB; have HO106 := n0_; have HB := n1_; clear n0_ n1_; (try clear hb); (try clear hb2); (try clear hk); (try clear hi); (try clear ho0)))
    go_ret2
    exact ⟨by first | rfl | (simp [errW_none, errW_some] <;> rfl) | (simp [*, errW_none, errW_some] <;> rfl), by repeat (first | (with_reducible first | exact HB.out | apply below_alloc | apply pw_below_drewN | apply below_drew1) | exact HB.out)⟩
end Go.Proofs.Ytjnhghplfdiijaa.Q

namespace Go.Proofs.Ytjnhghplfdiijaa.Q
open Go.RowKit Go.Proofs.YtjnhghplfdiijaaW.PrintWords Go.Proofs.YtjnhghplfdiijaaW.PrintLast
set_option linter.unusedVariables false
set_option linter.unusedSimpArgs false
def abutmentref19_Trailers.l0 : Nat → List ByteArray → Bool → Int → Option (Bool)
  | 0, _, _, _ => none
  | k + 1, x5, x7, x8 => if x8 < (x5.length : Int) then (if 0 ≤ x8 then ((abutmentref08_Parse.f k (rdOf ByteArray.empty x5 x8)).bind fun bt108 => (if x7 = true then (abutmentref19_Trailers.l0 k x5 true (wrap64 (x8 + 1))) else (abutmentref19_Trailers.l0 k x5 (bt108.1.toList == ([116, 114, 97, 105, 108, 101, 114, 115] : List UInt8)) (wrap64 (x8 + 1))))) else (none)) else (some x7)
def abutmentref19_Trailers.f (k : Nat) (l0 : List (S60)) : Option (Bool) := (abutmentref10_Combined.f k l0 (⟨#[84, 69]⟩ : ByteArray)).bind fun bt101 => ((abutmentref07_Split.f k bt101.1).bind fun bt103 => (abutmentref19_Trailers.l0 k bt103.1 false 0))
theorem abutmentref19_Trailers.mono_l : ∀ k, (∀ y0 y1 y2, LeO (abutmentref19_Trailers.l0 k y0 y1 y2) (abutmentref19_Trailers.l0 (k + 1) y0 y1 y2))
  | 0 => fun _ _ _ r h => by simp [abutmentref19_Trailers.l0] at h
  | k + 1 => by
    have ih0 := abutmentref19_Trailers.mono_l k
    · intro y0 y1 y2
      unfold abutmentref19_Trailers.l0
      repeat' first
      | (with_reducible exact ih0 _ _ _)
      | (with_reducible exact abutmentref07_Split.mono _ _)
      | (with_reducible exact abutmentref08_Parse.mono _ _)
      | (with_reducible exact abutmentref10_Combined.mono _ _ _)
      | (with_reducible exact LeO.refl _)
      | (with_reducible exact LeO.none _)
      | (with_reducible refine LeO.ite ?_ ?_)
      | (with_reducible refine LeO.bind ?_ (fun _ => ?_))
      | exact ih0 _ _ _
      | exact abutmentref07_Split.mono _ _
      | exact abutmentref08_Parse.mono _ _
      | exact abutmentref10_Combined.mono _ _ _
      | exact LeO.none _
      | refine LeO.ite ?_ ?_
      | refine LeO.bind ?_ (fun _ => ?_)
theorem abutmentref19_Trailers.mono : ∀ a0 k, LeO (abutmentref19_Trailers.f k a0) (abutmentref19_Trailers.f (k + 1) a0) := by
  intro a0 k
  have ih0 := abutmentref19_Trailers.mono_l k
  unfold abutmentref19_Trailers.f
  repeat' first
      | (with_reducible exact ih0 _ _ _)
      | (with_reducible exact abutmentref07_Split.mono _ _)
      | (with_reducible exact abutmentref08_Parse.mono _ _)
      | (with_reducible exact abutmentref10_Combined.mono _ _ _)
      | (with_reducible exact LeO.refl _)
      | (with_reducible exact LeO.none _)
      | (with_reducible refine LeO.ite ?_ ?_)
      | (with_reducible refine LeO.bind ?_ (fun _ => ?_))
      | exact ih0 _ _ _
      | exact abutmentref07_Split.mono _ _
      | exact abutmentref08_Parse.mono _ _
      | exact abutmentref10_Combined.mono _ _ _
      | exact LeO.none _
      | refine LeO.ite ?_ ?_
      | refine LeO.bind ?_ (fun _ => ?_)
set_option maxHeartbeats 8000000 in
set_option maxRecDepth 100000 in
theorem abutmentref19_Trailers.calls (k : Nat) (A0 : Option Addr) (c0 : Nat) (l0 : List (S60)) (r : Bool) (w : World) (hr0 : Kd.C k60 w A0 l0.length l0) (hc0 : l0.length ≤ c0) (h : abutmentref19_Trailers.f k l0 = some r) :
    Calls Try.prog 31 #[.slice A0 l0.length c0] w fun e w' => e = .returned (.bool r) ∧ Below w.heap.size w w' := by
  have HR0 := Aside0.mk hr0
  have HC0 := Aside0.mk hc0
  clear hr0 hc0
  have HB := Aside0.mk (Below.refl w.heap.size w)
  have H : ((abutmentref10_Combined.f k l0 (⟨#[84, 69]⟩ : ByteArray)).bind fun bt101 => ((abutmentref07_Split.f k bt101.1).bind fun bt103 => (abutmentref19_Trailers.l0 k bt103.1 false 0))) = some r := h
  clear h
  replace H := Option.bind_eq_some_iff.mp H
  obtain ⟨⟨t101, t102⟩, A20, H⟩ := H
  (try dsimp only at H)
  have A2 := Aside0.mk A20
  clear A20
  replace H := Option.bind_eq_some_iff.mp H
  obtain ⟨⟨t103, t104⟩, A30, H⟩ := H
  (try dsimp only at H)
  have A3 := Aside0.mk A30
  clear A30
  have H' := Aside0.mk H
  clear H
  go_enter Try.func31, Try.ntmps31
  go_wp2_with (first | ((with_reducible refine gate_callee (f := 75) rfl ?_); refine goesL_ (some 14) rfl rfl Try.func75 (by kernel_rfl) rfl #[.slice A0 l0.length c0, .string (⟨#[84, 69]⟩ : ByteArray)] rfl (by (try simp only [List.map_toArray, List.map_cons, List.map_nil]); first | done | rfl | (simp only [List.length_drop, List.length_take]; rfl)) ?_; (with_reducible refine (abutmentref10_Combined.calls k _ _ l0 (⟨#[84, 69]⟩ : ByteArray) t101 t102 _ ?side1 ?side2 A2.out).mono ?_); (case side1 => repeat (first | exact HR0.out | (with_reducible refine Kd.C_alloc ?_ _) | (with_reducible refine Kd.C_drewN ?_ _) | (with_reducible refine Kd.C_drew ?_))); (case side2 => exact HC0.out); rintro e w4 ⟨rfl, hb⟩; refine ⟨_, rfl, ?_⟩; have n0_ := Aside0.mk (below_step (by repeat (first | (with_reducible first | exact HB.out | apply below_alloc | apply pw_below_drewN | apply below_drew1) | exact HB.out)) hb); clear HB; have HB := n0_; clear n0_; (try clear hb); (try clear hb2); (try clear hk); (try clear hi)) | ((with_reducible refine gate_callee (f := 76) rfl ?_); refine goesL_ (some 19) rfl rfl Try.func76 (by kernel_rfl) rfl #[.string t101] rfl (by (try simp only [List.map_toArray, List.map_cons, List.map_nil]); first | done | rfl | (simp only [List.length_drop, List.length_take]; rfl)) ?_; (with_reducible refine (abutmentref07_Split.calls k t101 t103 t104 _ A3.out).mono ?_); rintro e w5 ⟨v105, rfl, ho0, hb⟩; refine ⟨_, rfl, ?_⟩; have n0_ := Aside0.mk (Kd.R_lower ho0 (below_size (by repeat (first | (with_reducible first | exact HB.out | apply below_alloc | apply pw_below_drewN | apply below_drew1) | exact HB.out)))); have n1_ := Aside0.mk (below_step (by repeat (first | (with_reducible first | exact HB.out | apply below_alloc | apply pw_below_drewN | apply below_drew1) | exact HB.out)) hb); clear HB; have HO106 := n0_; have HB := n1_; clear n0_ n1_; (try clear hb); (try clear hb2); (try clear hk); (try clear hi); (try clear ho0)))
  go_loopg [7, 8] k (fun kq v7 v8 w' => ∃ (x7_1 : Bool) (x8_1 : Int), v7 = .bool x7_1 ∧ v8 = .int .i64 x8_1 ∧ Aside0 (abutmentref19_Trailers.l0 kq t103 x7_1 x8_1 = some r) ∧ Aside0 (kq ≤ k) ∧ Aside0 (Kd.R Kd.string 9 w' w.heap.size (fun _ => True) v105 t103) ∧ Aside0 (Below w.heap.size w w'))
  case atStart => exact ⟨(false), (0), (by first | rfl | (simp; done) | (simp [*]; done)), (by first | rfl | (simp; done) | (simp [*]; done)), H', ⟨Nat.le_refl _⟩, ⟨by (with_reducible repeat (first | apply Kd.R_alloc | apply Kd.R_drewN | apply Kd.R_drew)); exact HO106.out⟩, ⟨by repeat (first | (with_reducible first | exact HB.out | apply below_alloc | apply pw_below_drewN | apply below_drew1) | exact HB.out)⟩⟩
  case round =>
    clear H'
    try clear p2
    try clear c3
    obtain ⟨x7_1, x8_1, rfl, rfl, HA, HK1, HO_5, HB⟩ := hrel
    cases gk with
    | zero => exact absurd HA.out (by simp [abutmentref19_Trailers.l0])
    | succ k1 =>
      have H := HA.out
      clear HA
      simp only [abutmentref19_Trailers.l0] at H
      by_cases c6 : x8_1 < (t103.length : Int)
      · rw [if_pos c6] at H
        have c6b0 : decide (x8_1 < (t103.length : Int)) = true := decide_eq_true c6
        clear c6
        by_cases c7 : 0 ≤ x8_1
        · rw [if_pos c7] at H
          have c7b0 : decide (0 ≤ x8_1) = true := decide_eq_true c7
          clear c7
          replace H := Option.bind_eq_some_iff.mp H
          obtain ⟨⟨t108, t109, t110⟩, A80, H⟩ := H
          (try dsimp only at H)
          have A8 := Aside0.mk A80
          clear A80
          by_cases c9 : x7_1 = true
          · subst c9
            have H1 : (abutmentref19_Trailers.l0 k1 t103 true (wrap64 (x8_1 + 1))) = some r := by rw [if_pos rfl] at H; exact H
            clear H
            have H := H1
            clear H1
            have H' := Aside0.mk H
            clear H
            obtain ⟨Ao10, co10, eo10⟩ := Kd.R_slice HO_5.out
            subst eo10
            have p107 : 0 ≤ (x8_1 : Int) := of_decide_eq_true (by first | (with_reducible assumption) | assumption)
            have q107 : x8_1 < (t103.length : Int) := of_decide_eq_true (by first | (with_reducible assumption) | assumption)
            obtain ⟨ad107, e107, hx107_0⟩ := Kd.at_string (Kd.R_reads' HO_5.out).2.2 x8_1 p107 q107
            cases e107
            replace p107 := eq_true p107
            replace q107 := eq_true q107
            go_wp2_with (first | ((with_reducible refine gate_callee (f := 77) rfl ?_); refine goesL_ (some 33) rfl rfl Try.func77 (by kernel_rfl) rfl #[.string (rdOf ByteArray.empty t103 x8_1)] rfl (by (try simp only [List.map_toArray, List.map_cons, List.map_nil]); first | done | rfl | (simp only [List.length_drop, List.length_take]; rfl)) ?_; (with_reducible refine (abutmentref08_Parse.calls k1 (rdOf ByteArray.empty t103 x8_1) t108 t109 t110 _ A8.out).mono ?_); rintro e w11 ⟨v111, rfl, ho0, hb⟩; refine ⟨_, rfl, ?_⟩; have n0_ := Aside0.mk (Kd.R_below (by (with_reducible repeat (first | apply Kd.R_alloc | apply Kd.R_drewN | apply Kd.R_drew)); exact HO_5.out) hb); have n1_ := Aside0.mk (Kd.R_lower ho0 (below_size (by repeat (first | (with_reducible first | exact HB.out | apply below_alloc | apply pw_below_drewN | apply below_drew1) | exact HB.out)))); have n2_ := Aside0.mk (below_step (by repeat (first | (with_reducible first | exact HB.out | apply below_alloc | apply pw_below_drewN | apply below_drew1) | exact HB.out)) hb); clear HO_5; clear HB; have HO_5 := n0_; have HO112 := n1_; have HB := n2_; clear n0_ n1_ n2_; (try clear hb); (try clear hb2); (try clear hk); (try clear hi); (try clear ho0)))
            go_roundg k1
            case measure => have := HK1.out; omega
            case rel => exact ⟨(true), (wrap64 (x8_1 + 1)), (by first | rfl | (simp; done) | (simp [*]; done)), (by first | rfl | (simp; done) | (simp [*]; done)), H', ⟨by have := HK1.out; omega⟩, ⟨by (with_reducible repeat (first | apply Kd.R_alloc | apply Kd.R_drewN | apply Kd.R_drew)); exact HO_5.out⟩, ⟨by repeat (first | (with_reducible first | exact HB.out | apply below_alloc | apply pw_below_drewN | apply below_drew1) | exact HB.out)⟩⟩
          · replace c9 := Bool.eq_false_iff.mpr c9
            subst c9
            have H1 : (abutmentref19_Trailers.l0 k1 t103 (t108.toList == ([116, 114, 97, 105, 108, 101, 114, 115] : List UInt8)) (wrap64 (x8_1 + 1))) = some r := by rw [if_neg (show ¬ (false = true) by decide)] at H; exact H
            clear H
            have H := H1
            clear H1
            have H' := Aside0.mk H
            clear H
            obtain ⟨Ao12, co12, eo12⟩ := Kd.R_slice HO_5.out
            subst eo12
            have p107 : 0 ≤ (x8_1 : Int) := of_decide_eq_true (by first | (with_reducible assumption) | assumption)
            have q107 : x8_1 < (t103.length : Int) := of_decide_eq_true (by first | (with_reducible assumption) | assumption)
            obtain ⟨ad107, e107, hx107_0⟩ := Kd.at_string (Kd.R_reads' HO_5.out).2.2 x8_1 p107 q107
            cases e107
            replace p107 := eq_true p107
            replace q107 := eq_true q107
            go_wp2_with (first | ((with_reducible refine gate_callee (f := 77) rfl ?_); refine goesL_ (some 33) rfl rfl Try.func77 (by kernel_rfl) rfl #[.string (rdOf ByteArray.empty t103 x8_1)] rfl (by (try simp only [List.map_toArray, List.map_cons, List.map_nil]); first | done | rfl | (simp only [List.length_drop, List.length_take]; rfl)) ?_; (with_reducible refine (abutmentref08_Parse.calls k1 (rdOf ByteArray.empty t103 x8_1) t108 t109 t110 _ A8.out).mono ?_); rintro e w13 ⟨v111, rfl, ho0, hb⟩; refine ⟨_, rfl, ?_⟩; have n0_ := Aside0.mk (Kd.R_below (by (with_reducible repeat (first | apply Kd.R_alloc | apply Kd.R_drewN | apply Kd.R_drew)); exact HO_5.out) hb); have n1_ := Aside0.mk (Kd.R_lower ho0 (below_size (by repeat (first | (with_reducible first | exact HB.out | apply below_alloc | apply pw_below_drewN | apply below_drew1) | exact HB.out)))); have n2_ := Aside0.mk (below_step (by repeat (first | (with_reducible first | exact HB.out | apply below_alloc | apply pw_below_drewN | apply below_drew1) | exact HB.out)) hb); clear HO_5; clear HB; have HO_5 := n0_; have HO112 := n1_; have HB := n2_; clear n0_ n1_ n2_; (try clear hb); (try clear hb2); (try clear hk); (try clear hi); (try clear ho0)))
            go_roundg k1
            case measure => have := HK1.out; omega
            case rel => exact ⟨((t108.toList == ([116, 114, 97, 105, 108, 101, 114, 115] : List UInt8))), (wrap64 (x8_1 + 1)), (by first | rfl | (simp; done) | (simp [*]; done)), (by first | rfl | (simp; done) | (simp [*]; done)), H', ⟨by have := HK1.out; omega⟩, ⟨by (with_reducible repeat (first | apply Kd.R_alloc | apply Kd.R_drewN | apply Kd.R_drew)); exact HO_5.out⟩, ⟨by repeat (first | (with_reducible first | exact HB.out | apply below_alloc | apply pw_below_drewN | apply below_drew1) | exact HB.out)⟩⟩
        · rw [if_neg c7] at H
          exact absurd H (by simp)
      · rw [if_neg c6] at H
        have c6b0 : decide (x8_1 < (t103.length : Int)) = false := decide_eq_false c6
        clear c6
        obtain rfl := Option.some.inj H
        obtain ⟨Ao14, co14, eo14⟩ := Kd.R_slice HO_5.out
        subst eo14
        go_wp2
        go_ret
        exact ⟨by first | rfl | (simp [errW_none, errW_some] <;> rfl) | (simp [*, errW_none, errW_some] <;> rfl), by repeat (first | (with_reducible first | exact HB.out | apply below_alloc | apply pw_below_drewN | apply below_drew1) | exact HB.out)⟩
end Go.Proofs.Ytjnhghplfdiijaa.Q

namespace Go.Proofs.Ytjnhghplfdiijaa.Q
open Go.RowKit Go.Proofs.YtjnhghplfdiijaaW.PrintWords Go.Proofs.YtjnhghplfdiijaaW.PrintLast
set_option linter.unusedVariables false
set_option linter.unusedSimpArgs false
/-- What a text's parameters are. -/
def wordR (e : ByteArray) : ByteArray × List S141 × Int := (params_Parse.f e).getD (⟨#[]⟩, [], 0)
theorem word_parse (e : ByteArray) (he : e.size ≤ 100000000) : params_Parse.f e = some (wordR e) ∧ Ev (fun k => abutmentref08_Parse.f k e) (wordR e) := by
  obtain ⟨r, h1, h2⟩ := ev_parse e he
  have : wordR e = r := by unfold wordR; rw [h1]; rfl
  rw [this]
  exact ⟨h1, h2⟩
def chL : List UInt8 := [99, 104, 117, 110, 107, 101, 100]
def chB (e : ByteArray) : Bool := decide ((wordR e).1.toList = chL)
def goodB (e : ByteArray) : Bool := (wordR e).2.2 == 0
def moreB (e : ByteArray) : Bool := decide (((wordR e).2.1.length : Int) > 0)
theorem word_f (e : ByteArray) (he : e.size ≤ 100000000) : coding_word.f e = some ((wordR e).1, moreB e, goodB e) := by
  unfold coding_word.f
  rw [(word_parse e he).1]
  rfl
/-- The answer of both. -/
def chunkR (ok : Bool) (M : List ByteArray) (x : ByteArray) : Bool × Int :=
  if (ok && M.all (fun y => goodB y && !chB y) && goodB x && chB x && !moreB x) = true then (if (M.length : Int) > 0 then (false, 15) else (true, 0)) else (false, 14)
section
theorem at_list {L : List ByteArray} {j : Nat} {x : ByteArray} {r : List ByteArray} (h : L.drop j = x :: r) : j < L.length ∧ rdOf ByteArray.empty L (j : Int) = x ∧ L.drop (j + 1) = r ∧ x ∈ L := by
  have h1 : j < L.length := by
    rcases Nat.lt_or_ge j L.length with h1 | h1
    · exact h1
    · rw [List.drop_eq_nil_of_le h1] at h; cases h
  have e := List.drop_eq_getElem_cons h1
  rw [h] at e
  injection e with e1 e2
  exact ⟨h1, by simp [rdOf, h1, e1], e2.symm, by rw [e1]; exact List.getElem_mem h1⟩
theorem at_list_nil {L : List ByteArray} {j : Nat} (h : L.drop j = []) : L.length ≤ j := by
  rcases Nat.lt_or_ge j L.length with h1 | h1
  · rw [List.drop_eq_getElem_cons h1] at h; cases h
  · exact h1
end
/-- The program's loop: what it has counted. -/
theorem pch_loop (L : List ByteArray) (hL : L.length ≤ 1000000) (hx : ∀ x ∈ L, x.size ≤ 100000000) (R : Bool × Int) : ∀ (r : List ByteArray) (j m : Nat) (ok : Bool), L.drop j = r → j ≤ L.length → m ≤ j →
    Ev (fun k => coding_Chunked.j1 k L (!(ok && r.all goodB) || (((m + r.countP chB : Nat) : Int) != 1))) R → Ev (fun k => coding_Chunked.l0 k L ok (m : Int) L (L.length : Int) (j : Int)) R
  | [], j, m, ok, h, hj, hm, hR => by
    have h1 := at_list_nil h
    simp only [List.all_nil, Bool.and_true, List.countP_nil, Nat.add_zero] at hR
    refine Ev.step (fun k => ?_) hR
    simp only [coding_Chunked.l0]
    rw [if_neg (by omega)]
    cases ok with
    | true => rw [if_pos rfl]; rfl
    | false => rw [if_neg (by simp)]; rfl
  | x :: r, j, m, ok, h, hj, hm, hR => by
    obtain ⟨h1, h2, h3, h4⟩ := at_list h
    have hw : Aside0 (wrap64 ((j : Int) + 1) = ((j + 1 : Nat) : Int)) := ⟨by rw [wrap_small (by omega) (by omega)]; omega⟩
    have hw2 : Aside0 (wrap64 ((m : Int) + 1) = ((m + 1 : Nat) : Int)) := ⟨by rw [wrap_small (by omega) (by omega)]; omega⟩
    have hxs := hx x h4
    have key : Ev (fun k => coding_Chunked.l0 k L (ok && goodB x) ((m + (if chB x = true then 1 else 0) : Nat) : Int) L (L.length : Int) ((j + 1 : Nat) : Int)) R := by
      refine pch_loop L hL hx R r (j + 1) _ _ h3 (by omega) (by split <;> omega) ?_
      rw [List.all_cons, List.countP_cons] at hR
      rw [Bool.and_assoc]
      have e : m + (if chB x = true then 1 else 0) + r.countP chB = m + (r.countP chB + if chB x = true then 1 else 0) := by omega
      rw [e]
      exact hR
    refine Ev.step (fun k => ?_) key
    simp only [coding_Chunked.l0]
    rw [if_pos (by omega), if_pos (by omega), if_pos (by omega), h2, word_f x hxs]
    simp only [Option.bind_some]
    have hc : chB x = true ↔ (wordR x).1.toList = [99, 104, 117, 110, 107, 101, 100] := by unfold chB chL; rw [decide_eq_true_eq]
    by_cases c : (wordR x).1.toList = [99, 104, 117, 110, 107, 101, 100]
    · rw [if_pos c, if_pos c, if_pos (hc.2 c), hw.out, hw2.out]
      cases ok with
      | true => rw [if_pos rfl, Bool.true_and]
      | false => rw [if_neg (by simp), Bool.false_and]
    · rw [if_neg c, if_neg c, if_neg (fun h => c (hc.1 h)), hw.out]
      cases ok with
      | true => rw [if_pos rfl, Bool.true_and]; rfl
      | false => rw [if_neg (by simp), Bool.false_and]; rfl
theorem pch_tail (M : List ByteArray) (x : ByteArray) (hL : (M ++ [x]).length ≤ 1000000) (hx : x.size ≤ 100000000) (ok : Bool) :
    Ev (fun k => coding_Chunked.j1 k (M ++ [x]) (!(ok && (M ++ [x]).all goodB) || ((((M ++ [x]).countP chB : Nat) : Int) != 1))) (chunkR ok M x) := by
  have hlen : (M ++ [x]).length = M.length + 1 := by simp
  have hw : Aside0 (wrap64 (((M ++ [x]).length : Int) - 1) = (M.length : Int)) := ⟨by rw [hlen, wrap_small (by omega) (by omega)]; omega⟩
  have hrd : rdOf ByteArray.empty (M ++ [x]) (M.length : Int) = x := by simp [rdOf]
  have hc : chB x = true ↔ (wordR x).1.toList = [99, 104, 117, 110, 107, 101, 100] := by unfold chB chL; rw [decide_eq_true_eq]
  by_cases a : (!(ok && (M ++ [x]).all goodB) || ((((M ++ [x]).countP chB : Nat) : Int) != 1)) = true
  · have e : chunkR ok M x = (false, 14) := by
      unfold chunkR
      rw [if_neg]
      intro h
      simp only [Bool.and_eq_true, List.all_eq_true, Bool.not_eq_true'] at h
      obtain ⟨⟨⟨⟨h1, h2⟩, h3⟩, h4⟩, h5⟩ := h
      have hg : (M ++ [x]).all goodB = true := by
        rw [List.all_append, Bool.and_eq_true]
        exact ⟨List.all_eq_true.2 fun y hy => (h2 y hy).1, by simp [h3]⟩
      have hcnt : (M ++ [x]).countP chB = 1 := by
        rw [List.countP_append, List.countP_eq_zero.2 (fun y hy => by rw [(h2 y hy).2]; simp)]
        simp [List.countP_cons, h4]
      rw [hg, hcnt, h1] at a
      simp at a
    rw [e, a]
    exact Ev.step (f := fun _ => some (false, 14)) (fun k => by simp only [coding_Chunked.j1]; rw [if_pos trivial]) (Ev.now _)
  · have a' := a
    simp only [Bool.or_eq_true, Bool.not_eq_true', Bool.and_eq_false_iff, bne_iff_ne, ne_eq, not_or, Classical.not_not, Bool.not_eq_false] at a
    obtain ⟨⟨a1, a2⟩, a3⟩ := a
    have a3 : (M ++ [x]).countP chB = 1 := by omega
    rw [List.all_append, Bool.and_eq_true] at a2
    have gx : goodB x = true := by simpa using a2.2
    rw [show (!(ok && (M ++ [x]).all goodB) || ((((M ++ [x]).countP chB : Nat) : Int) != 1)) = false by simpa using a']
    refine Ev.step (f := fun k => if (wordR x).1.toList = [99, 104, 117, 110, 107, 101, 100] then coding_Chunked.j2 k (M ++ [x]) (moreB x) else coding_Chunked.j2 k (M ++ [x]) true) (fun k => by
      simp only [coding_Chunked.j1]; rw [if_neg (by simp), hw.out, if_pos (by omega), if_pos (by rw [hlen]; omega), hrd, word_f x hx]; rfl) ?_
    rw [List.countP_append] at a3
    by_cases c : (wordR x).1.toList = [99, 104, 117, 110, 107, 101, 100]
    · have cx := hc.2 c
      have hM : M.countP chB = 0 := by
        simp [List.countP_cons, cx] at a3 ⊢
        exact a3
      have hMall : M.all (fun y => goodB y && !chB y) = true := by
        rw [List.all_eq_true]
        intro y hy
        rw [Bool.and_eq_true]
        refine ⟨List.all_eq_true.1 a2.1 y hy, ?_⟩
        have := List.countP_eq_zero.1 hM y hy
        simpa using this
      have e : chunkR ok M x = if moreB x = true then (false, 14) else (if (M.length : Int) > 0 then (false, 15) else (true, 0)) := by
        unfold chunkR
        rw [a1, hMall, gx, cx]
        cases moreB x <;> rfl
      simp only [if_pos c]
      rw [e]
      cases moreB x with
      | true => exact Ev.step (f := fun _ => some (false, 14)) (fun k => by simp only [coding_Chunked.j2]; rw [if_pos trivial]) (Ev.now _)
      | false =>
        rw [if_neg (by simp)]
        refine Ev.step (f := fun _ => some (if (M.length : Int) > 0 then (false, 15) else (true, 0))) (fun k => ?_) (Ev.now _)
        simp only [coding_Chunked.j2]
        rw [if_neg (by simp), hlen]
        by_cases z : (M.length : Int) > 0
        · rw [if_pos (by omega), if_pos z]
        · rw [if_neg (by omega), if_neg z]
    · have cx : chB x = false := by
        cases h : chB x with
        | true => exact absurd (hc.1 h) c
        | false => rfl
      have e : chunkR ok M x = (false, 14) := by
        unfold chunkR
        rw [cx]
        simp
      simp only [if_neg c]
      rw [e]
      exact Ev.step (f := fun _ => some (false, 14)) (fun k => by simp only [coding_Chunked.j2]; rw [if_pos trivial]) (Ev.now _)
/-- The reference's loop. -/
theorem rch_loop (M : List ByteArray) (x : ByteArray) (hL : (M ++ [x]).length ≤ 1000000) (hx : ∀ y ∈ M ++ [x], y.size ≤ 100000000) : ∀ (r : List ByteArray) (j : Nat), M.drop j = r → j ≤ M.length →
    Ev (fun k => abutmentref19_Chunked.l0 k (M ++ [x]) (j : Int)) (if (r.all (fun y => goodB y && !chB y) && goodB x && chB x && !moreB x) = true then (if (M.length : Int) > 0 then (false, 15) else (true, 0)) else (false, 14))
  | [], j, h, hj => by
    have h1 : j = M.length := by have := at_list_nil h; omega
    subst h1
    have hlen : (M ++ [x]).length = M.length + 1 := by simp
    have hw : Aside0 (wrap64 (((M ++ [x]).length : Int) - 1) = (M.length : Int)) := ⟨by rw [hlen, wrap_small (by omega) (by omega)]; omega⟩
    have hw2 : Aside0 (wrap64 ((M.length : Int) + 1) = ((M.length + 1 : Nat) : Int)) := ⟨by rw [wrap_small (by omega) (by omega)]; omega⟩
    have hrd : rdOf ByteArray.empty (M ++ [x]) (M.length : Int) = x := by simp [rdOf]
    have hp := (word_parse x (hx x (by simp))).2
    have hb : ((M.length : Int) == (M.length : Int)) = true := beq_iff_eq.mpr rfl
    refine Ev.step (f := fun k => (abutmentref08_Parse.f k x).bind fun t => if t.2.2 = 0 then (if ((true) != (t.1.toList == ([99, 104, 117, 110, 107, 101, 100] : List UInt8))) = true then some (false, 14) else (if (t.2.1.length : Int) > 0 then some (false, 14) else abutmentref19_Chunked.l0 k (M ++ [x]) ((M.length + 1 : Nat) : Int))) else some (false, 14)) (fun k => by
      simp only [abutmentref19_Chunked.l0]; rw [if_pos (by omega), if_pos (by omega), hrd, hw.out, hw2.out, hb]; simp only [if_true]) ?_
    refine Ev.bind hp ?_
    simp only [List.all_nil, Bool.true_and]
    by_cases g : (wordR x).2.2 = 0
    · simp only [if_pos g]
      have gx : goodB x = true := by unfold goodB; rw [g]; rfl
      rw [gx, Bool.true_and]
      by_cases c : (wordR x).1.toList = [99, 104, 117, 110, 107, 101, 100]
      · have cx : chB x = true := by unfold chB chL; exact decide_eq_true c
        rw [cx, Bool.true_and]
        have e1 : ((true) != ((wordR x).1.toList == ([99, 104, 117, 110, 107, 101, 100] : List UInt8))) = false := by rw [beq_iff_eq.mpr c]; rfl
        simp only [e1, Bool.false_eq_true, if_false]
        by_cases m : ((wordR x).2.1.length : Int) > 0
        · have mx : moreB x = true := by unfold moreB; exact decide_eq_true m
          simp only [if_pos m, mx]
          exact Ev.now _
        · have mx : moreB x = false := by unfold moreB; exact decide_eq_false m
          simp only [if_neg m, mx]
          refine Ev.step (f := fun _ => some (if (M.length : Int) > 0 then (false, 15) else (true, 0))) (fun k => ?_) (Ev.now _)
          simp only [abutmentref19_Chunked.l0]
          rw [if_neg (show ¬ ((M.length + 1 : Nat) : Int) < ((M ++ [x]).length : Int) by rw [hlen]; omega), hlen]
          by_cases z : (M.length : Int) > 0
          · rw [if_pos (show ((M.length + 1 : Nat) : Int) > 1 by omega), if_pos z]
          · rw [if_neg (show ¬ ((M.length + 1 : Nat) : Int) > 1 by omega), if_neg z]
      · have cx : chB x = false := by unfold chB chL; exact decide_eq_false c
        rw [cx]
        have e1 : ((true) != ((wordR x).1.toList == ([99, 104, 117, 110, 107, 101, 100] : List UInt8))) = true := by rw [beq_eq_false_iff_ne.mpr c]; rfl
        simp only [e1, if_true]
        exact Ev.now _
    · simp only [if_neg g]
      have gx : goodB x = false := by unfold goodB; exact beq_eq_false_iff_ne.mpr g
      rw [gx]
      exact Ev.now _
  | y :: r, j, h, hj => by
    obtain ⟨h1, h2, h3, h4⟩ := at_list h
    have hlen : (M ++ [x]).length = M.length + 1 := by simp
    have hw : Aside0 (wrap64 (((M ++ [x]).length : Int) - 1) = (M.length : Int)) := ⟨by rw [hlen, wrap_small (by omega) (by omega)]; omega⟩
    have hw2 : Aside0 (wrap64 ((j : Int) + 1) = ((j + 1 : Nat) : Int)) := ⟨by rw [wrap_small (by omega) (by omega)]; omega⟩
    have hrd : rdOf ByteArray.empty (M ++ [x]) (j : Int) = y := by
      rw [← h2]
      simp [rdOf, h1, List.getElem?_append_left h1]
    have hp := (word_parse y (hx y (by simp [h4]))).2
    have hb : ((j : Int) == (M.length : Int)) = false := beq_eq_false_iff_ne.mpr (by omega)
    have ih := rch_loop M x hL hx r (j + 1) h3 h1
    refine Ev.step (f := fun k => (abutmentref08_Parse.f k y).bind fun t => if t.2.2 = 0 then (if ((false) != (t.1.toList == ([99, 104, 117, 110, 107, 101, 100] : List UInt8))) = true then some (false, 14) else abutmentref19_Chunked.l0 k (M ++ [x]) ((j + 1 : Nat) : Int)) else some (false, 14)) (fun k => by
      simp only [abutmentref19_Chunked.l0]; rw [if_pos (by omega), if_pos (by omega), hrd, hw.out, hw2.out, hb]; simp only [if_neg (show ¬ (j : Int) = (M.length : Int) by omega)]) ?_
    refine Ev.bind hp ?_
    rw [List.all_cons]
    by_cases g : (wordR y).2.2 = 0
    · simp only [if_pos g]
      have gy : goodB y = true := by unfold goodB; rw [g]; rfl
      rw [gy, Bool.true_and]
      by_cases c : (wordR y).1.toList = [99, 104, 117, 110, 107, 101, 100]
      · have cy : chB y = true := by unfold chB chL; exact decide_eq_true c
        have e1 : ((false) != ((wordR y).1.toList == ([99, 104, 117, 110, 107, 101, 100] : List UInt8))) = true := by rw [beq_iff_eq.mpr c]; rfl
        simp only [e1, if_true, cy]
        exact Ev.now _
      · have cy : chB y = false := by unfold chB chL; exact decide_eq_false c
        have e1 : ((false) != ((wordR y).1.toList == ([99, 104, 117, 110, 107, 101, 100] : List UInt8))) = false := by rw [beq_eq_false_iff_ne.mpr c]; rfl
        simp only [e1, cy, Bool.false_eq_true, if_false]
        exact ih
    · simp only [if_neg g]
      have gy : goodB y = false := by unfold goodB; exact beq_eq_false_iff_ne.mpr g
      rw [gy]
      exact Ev.now _
def codN : ByteArray := ⟨#[84, 114, 97, 110, 115, 102, 101, 114, 45, 69, 110, 99, 111, 100, 105, 110, 103]⟩
/-- What the pieces of a text are, and whether it ends well. -/
theorem split_both (s : ByteArray) (hs : s.size ≤ 900000) : ∃ L ok, lists_Split.f s = some (L, ok) ∧ Ev (fun k => abutmentref07_Split.f k s) (L, ok) ∧ L.length ≤ 1000000 ∧ (∀ x ∈ L, x.size ≤ 100000000) := by
  obtain ⟨L, ok, h1, h2⟩ := ev_split s (by omega)
  obtain ⟨_, h3, h4⟩ := split_sizes h1
  exact ⟨L, ok, h1, h2, by omega, fun x hx => by have := h4 x hx; omega⟩
theorem ev_chunked (l : List S60) (hl : Small l) : ∃ r, Ev (fun k => coding_Chunked.f k l) r ∧ Ev (fun k => abutmentref19_Chunked.f k l) r := by
  have hz := combS_size hl codN
  obtain ⟨L, ok, h1, h2, h3, h4⟩ := split_both (combS l codN) (by omega)
  have hc := comb_plain hl codN (by decide)
  have hr := ev_comb hl codN (by decide)
  have hp : ∀ R, Ev (fun k => if combB l codN = true then ((lists_Split.f (combS l codN)).bind fun t => coding_Chunked.l0 k t.1 t.2 0 t.1 (t.1.length : Int) 0) else some (false, 0)) R → Ev (fun k => coding_Chunked.f k l) R := fun R hR =>
    Ev.congr (fun k => by unfold coding_Chunked.f; change (header_Combined.f l codN).bind _ = _; rw [hc]; rfl) hR
  have hq : ∀ R, Ev (fun k => if combB l codN = true then (if ok = true then abutmentref19_Chunked.j0 k L ((L.length : Int) == 0) else abutmentref19_Chunked.j0 k L true) else some (false, 0)) R → Ev (fun k => abutmentref19_Chunked.f k l) R := fun R hR => Ev.bind hr (Ev.bind h2 hR)
  by_cases c : combB l codN = true
  · have hp2 : ∀ R, Ev (fun k => coding_Chunked.l0 k L ok ((0 : Nat) : Int) L (L.length : Int) ((0 : Nat) : Int)) R → Ev (fun k => coding_Chunked.f k l) R := fun R hR => hp R (by
      simp only [if_pos c, h1, Option.bind_some]
      exact hR)
    rcases List.eq_nil_or_concat L with e | ⟨M, x, e⟩
    · subst e
      refine ⟨(false, 14), hp2 _ ?_, hq _ ?_⟩
      · refine pch_loop [] h3 h4 (false, 14) [] 0 0 ok rfl (Nat.le_refl _) (Nat.le_refl _) ?_
        have e : (!(ok && ([] : List ByteArray).all goodB) || (((0 + ([] : List ByteArray).countP chB : Nat) : Int) != 1)) = true := by simp
        rw [e]
        exact Ev.step (f := fun _ => some (false, 14)) (fun k => by simp only [coding_Chunked.j1]; rw [if_pos trivial]) (Ev.now _)
      · simp only [if_pos c]
        have e : ((([] : List ByteArray).length : Int) == 0) = true := rfl
        rw [e]
        have j : Ev (fun k => abutmentref19_Chunked.j0 k [] true) (false, 14) := Ev.step (f := fun _ => some (false, 14)) (fun k => by simp only [abutmentref19_Chunked.j0]; rw [if_pos trivial]) (Ev.now _)
        cases ok with
        | true => exact j
        | false => exact j
    · rw [List.concat_eq_append] at e
      subst e
      refine ⟨chunkR ok M x, hp2 _ ?_, hq _ ?_⟩
      · refine pch_loop (M ++ [x]) h3 h4 _ (M ++ [x]) 0 0 ok rfl (Nat.zero_le _) (Nat.le_refl _) ?_
        have := pch_tail M x h3 (h4 x (by simp)) ok
        rw [Nat.zero_add]
        exact this
      · simp only [if_pos c]
        have e : (((M ++ [x]).length : Int) == 0) = false := beq_eq_false_iff_ne.mpr (by simp; omega)
        rw [e]
        cases ok with
        | true =>
          have hrl := rch_loop M x h3 h4 M 0 rfl (Nat.zero_le _)
          have ec : chunkR true M x = if (M.all (fun y => goodB y && !chB y) && goodB x && chB x && !moreB x) = true then (if (M.length : Int) > 0 then (false, 15) else (true, 0)) else (false, 14) := by
            unfold chunkR; rw [Bool.true_and]
          rw [ec]
          simp only [if_true]
          exact Ev.step (fun k => by simp only [abutmentref19_Chunked.j0]; rw [if_neg (by simp)]; rfl) hrl
        | false =>
          have ec : chunkR false M x = (false, 14) := by unfold chunkR; simp
          rw [ec]
          simp only [Bool.false_eq_true, if_false]
          exact Ev.step (f := fun _ => some (false, 14)) (fun k => by simp only [abutmentref19_Chunked.j0]; rw [if_pos trivial]) (Ev.now _)
  · refine ⟨(false, 0), hp _ ?_, hq _ ?_⟩
    · simp only [if_neg c]; exact Ev.now _
    · simp only [if_neg c]; exact Ev.now _
end Go.Proofs.Ytjnhghplfdiijaa.Q
