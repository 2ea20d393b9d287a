import Derived.Test.YtgkjdpdmmlalcaaKZF0
import Derived.Test.YtgkjdpdmmlalcaaKA0
import Derived.Test.YtgkjdpdmmlalcaaKA2HHost0
section
namespace Go.Proofs.Ytgkjdpdmmlalcaa.F
open Go.RowKit Go.Shelf Go.Proofs.YtgkjdpdmmlalcaaW.PrintWords Go.Proofs.YtgkjdpdmmlalcaaW.PrintLast Go.Proofs.YtgkjdpdmmlalcaaW.PrintMore
set_option linter.unusedVariables false
set_option linter.unusedSimpArgs false
theorem cmp32_nan.calls (a : Int) (w : World) : Calls Try.prog 155 #[.int .u32 a] w fun e w' => e = .returned (.bool false) ∧ w' = w := by
  go_enter Try.func155, Try.ntmps155
  go_wp2
  go_ret
  exact ⟨by simp, rfl⟩
set_option maxHeartbeats 4000000 in
theorem cmp32.calls (a b : Int) (w : World) : Calls Try.prog 131 #[.int .u32 a, .int .u32 b] w fun e w' => e = .returned (.int .i64 (cmpI a b)) ∧ w' = w := by
  have NN := Lib.hid cmp32_nan.calls
  rcases Int.lt_trichotomy a b with h | h | h
  · have e : cmpI a b = -1 := if_pos h
    rw [e]
    clear e
    go_enter Try.func131, Try.ntmps131
    go_wp2_with (go_at_call 155; (with_reducible refine (NN.out _ _).mono ?_); rintro e w1 ⟨rfl, rfl⟩)
    go_ret
    exact ⟨rfl, rfl⟩
  · subst h
    have e : cmpI a a = 0 := by simp [cmpI]
    rw [e]
    clear e
    go_enter Try.func131, Try.ntmps131
    go_wp2_with (go_at_call 155; (with_reducible refine (NN.out _ _).mono ?_); rintro e w1 ⟨rfl, rfl⟩)
    go_ret
    exact ⟨rfl, rfl⟩
  · have e : cmpI a b = 1 := by unfold cmpI; rw [if_neg (by omega), if_pos h]
    rw [e]
    clear e
    go_enter Try.func131, Try.ntmps131
    go_wp2_with (go_at_call 155; (with_reducible refine (NN.out _ _).mono ?_); rintro e w1 ⟨rfl, rfl⟩)
    go_ret
    exact ⟨rfl, rfl⟩
abbrev pgK (x : S41) : Int := x.f0
theorem pg_read {l : List S41} {k : Nat} (h : k < l.length) : rd_T41 l (k : Int) = l[k] := by
  unfold rd_T41
  simp [h]
set_option maxHeartbeats 4000000 in
theorem at1.calls (x : S41) (key : Int) (w : World) : Calls Try.prog 130 #[.agg #[.int .u32 x.f0, .int .i64 x.f1], .int .u32 key] w fun e w' => e = .returned (.int .i64 (cmpI x.f0 key)) ∧ Below w.heap.size w w' := by
  have TB := Lib.hid ((Below.refl _ w).alloc (Nat.le_refl _) (.cells #[.int .u32 x.f0, .int .i64 x.f1] 41))
  have HC := Lib.hid cmp32.calls
  have hu := Try.underlying41
  go_enter Try.func130, Try.ntmps130
  go_wp2_with (go_at_call 131; (with_reducible refine (HC.out _ _ _).mono ?_); rintro e w2 ⟨rfl, rfl⟩)
  go_ret
  exact ⟨rfl, TB.out⟩
set_option maxHeartbeats 8000000 in
set_option maxRecDepth 100000 in
theorem pg_bsf.calls (A : Option Addr) (c : Nat) (l : List S41) (key : Int) (w : World) (hr : Kd.C k41 w A l.length l) (hc : l.length ≤ c) (hl : l.length ≤ 1000000) (hs : Rises pgK l) :
    Calls Try.prog 129 #[.slice A l.length c, .int .u32 key, .func (.func 130) #[] #[]] w fun e w' => e = .returned (.tuple #[.int .i64 (lowB pgK key l : Nat), .bool (has pgK key l)]) ∧ Below w.heap.size w w' := by
  have CL := Lib.hid (fun (x : S41) (W : World) (_ : Below w.heap.size w W) => at1.calls x key W)
  have HS := Lib.hid hs
  have HR := Lib.hid hr
  have hlo : lowB pgK key l = lowB pgK key l := rfl
  generalize hN : lowB pgK key l = N at hlo ⊢
  have EN := Lib.hid hN
  generalize hH : has pgK key l = H at ⊢
  have EH := Lib.hid hH
  clear hN hH hlo hs hr
  go_enter Try.func129, Try.ntmps129
  go_wp2
  go_loopw [9, 10] (fun t9 t10 wr => ∃ lo hi : Nat, t9 = .int .i64 lo ∧ t10 = .int .i64 hi ∧ lo ≤ hi ∧ hi ≤ l.length ∧ Hid ((∀ j (hj : j < l.length), j < lo → pgK l[j] < key) ∧ (∀ j (hj : j < l.length), hi ≤ j → key ≤ pgK l[j])) ∧ Hid (Below w.heap.size w wr)) (fun t9 t10 _ => (intOf t10 - intOf t9).toNat)
  case atStart => exact ⟨0, l.length, rfl, rfl, Nat.zero_le _, Nat.le_refl _, Lib.hid ⟨fun j _ h => absurd h (Nat.not_lt_zero _), fun j hj h => absurd hj (Nat.not_lt.2 h)⟩, Lib.hid (Below.refl _ _)⟩
  case round =>
    obtain ⟨lo, hi, rfl, rfl, hlh, hil, I, hB⟩ := hrel
    by_cases hlt : lo < hi
    · have hm : (lo + hi) / 2 < l.length := by omega
      have hm1 : lo ≤ (lo + hi) / 2 := by omega
      have hm2 : (lo + hi) / 2 < hi := by omega
      obtain ⟨ad, rfl, c0, c1⟩ := at_T41 (Kd.C_below HR.out hB.out) (((lo + hi) / 2 : Nat) : Int) (by omega) (by omega)
      rw [pg_read hm, Int.toNat_natCast] at c0 c1
      generalize hx : l[(lo + hi) / 2] = x at c0 c1
      have EX := Lib.hid hx
      clear hx
      by_cases hcmp : cmpI x.f0 key < 0
      · go_wp2_with (go_at_call 130; (with_reducible refine (CL.out x _ hB.out).mono ?_); rintro ex w2 ⟨rfl, hb2⟩)
        refine ⟨⟨(lo + hi) / 2 + 1, hi, by go_num, rfl, by omega, hil, Lib.hid ⟨fun j hj hjl => ?_, I.out.2⟩, Lib.hid (hB.out.trans (hb2.mono hB.out.size))⟩, by simp [intOf]; omega⟩
        have hlt' := cmpI_neg hcmp
        rcases Nat.lt_or_ge j ((lo + hi) / 2) with h | h
        · have := rises_get pgK HS.out j _ hm h
          rw [EX.out] at this
          exact Int.lt_trans this hlt'
        · obtain rfl : j = (lo + hi) / 2 := by omega
          rw [EX.out]
          exact hlt'
      have HGE := Lib.hid (cmpI_pos hcmp)
      go_wp2_with (go_at_call 130; (with_reducible refine (CL.out x _ hB.out).mono ?_); rintro ex w2 ⟨rfl, hb2⟩)
      refine ⟨⟨lo, (lo + hi) / 2, rfl, rfl, hm1, by omega, Lib.hid ⟨I.out.1, fun j hj hjl => ?_⟩, Lib.hid (hB.out.trans (hb2.mono hB.out.size))⟩, by simp [intOf]; omega⟩
      have hge' := HGE.out
      rcases Nat.lt_or_eq_of_le hjl with h | h
      · have := rises_get pgK HS.out _ j hj h
        rw [EX.out] at this
        exact Int.le_of_lt (Int.lt_of_le_of_lt hge' this)
      · subst h
        rw [EX.out]
        exact hge'
    obtain rfl : hi = lo := by omega
    have hn := lowB_of pgK HS.out hi hil I.out.1 I.out.2
    rw [EN.out] at hn
    subst hn
    have hh := has_lowB pgK (k := key) HS.out
    rw [EH.out, EN.out] at hh
    by_cases hlt2 : N < l.length
    · obtain ⟨ad, rfl, c0, c1⟩ := at_T41 (Kd.C_below HR.out hB.out) (N : Int) (by omega) (by omega)
      rw [pg_read hlt2, Int.toNat_natCast] at c0 c1
      rw [List.getElem?_eq_getElem hlt2] at hh
      generalize l[N] = x at c0 c1 hh
      dsimp only at hh
      rw [← cmpI_zero] at hh
      generalize hq : cmpI x.f0 key = q at hh
      have EQ := Lib.hid hq
      have CL2 := Lib.hid (CL.out x _ hB.out)
      rw [hq] at CL2
      clear hq CL
      subst hh
      by_cases hz : q = 0
      · subst hz
        go_wp2_with (go_at_call 130; (with_reducible refine CL2.out.mono ?_); rintro ex w2 ⟨rfl, hb2⟩)
        go_ret2
        exact ⟨by simp, hB.out.trans (hb2.mono hB.out.size)⟩
      have hz1 : (q == 0) = false := beq_eq_false_iff_ne.2 hz
      go_wp2_with (go_at_call 130; (with_reducible refine CL2.out.mono ?_); rintro ex w2 ⟨rfl, hb2⟩)
      go_ret2
      exact ⟨by simp [hz], hB.out.trans (hb2.mono hB.out.size)⟩
    rw [List.getElem?_eq_none (by omega)] at hh
    dsimp only at hh
    subst hh
    go_wp2
    go_ret2
    exact ⟨rfl, hB.out⟩
-- HAND fn=ferry/guest.at ; rounds=0 ; making=1 ; laid=0
def guest_at.f (l0 : List S41) (a1 : Int) : Option (Int × Bool) := if l0.length ≤ 1000000 ∧ risesB pgK l0 = true then some ((lowB pgK a1 l0 : Nat), has pgK a1 l0) else none
set_option maxHeartbeats 4000000 in
theorem guest_at.calls (A0 : Option Addr) (c0 : Nat) (l0 : List S41) (a1 : Int) (r1 : Int) (r2 : Bool) (w : World) (hr0 : Kd.C k41 w A0 l0.length l0) (hc0 : l0.length ≤ c0) (h : guest_at.f l0 a1 = some (r1, r2)) :
    Calls Try.prog 97 #[.slice A0 l0.length c0, .int .u32 a1] w fun e w' => e = .returned (.tuple #[.int .i64 r1, .bool r2]) ∧ Below w.heap.size w w' := by
  unfold guest_at.f at h
  split at h
  · rename_i hh
    obtain ⟨rfl, rfl⟩ := Prod.mk.inj (Option.some.inj h)
    have PL := Lib.hid (fun W (hb : Below w.heap.size w W) => pg_bsf.calls A0 c0 l0 a1 W (Kd.C_below hr0 hb) hc0 hh.1 ((risesB_iff _).1 hh.2))
    clear hh h hr0
    go_enter Try.func97, Try.ntmps97
    go_wp2_with (go_at_call 129; (with_reducible refine (PL.out _ (Below.refl _ _)).mono ?_); rintro ex w2 ⟨rfl, hb2⟩; have B2 := Lib.hid hb2; clear hb2)
    go_ret2
    exact ⟨rfl, B2.out⟩
  · cases h
end Go.Proofs.Ytgkjdpdmmlalcaa.F
end
section
namespace Go.Proofs.Ytgkjdpdmmlalcaa.F
open Go.RowKit Go.Shelf Go.Proofs.YtgkjdpdmmlalcaaW.PrintWords Go.Proofs.YtgkjdpdmmlalcaaW.PrintLast Go.Proofs.YtgkjdpdmmlalcaaW.PrintMore
set_option linter.unusedVariables false
set_option linter.unusedSimpArgs false
def pgE (x : S41) : List Value := [.int .u32 x.f0, .int .i64 x.f1]
theorem pgE_2 (x : S41) : (pgE x).length = 2 := rfl
theorem pg_R {w : World} {g cap B : Nat} {l : List S41} (h : OwnB pgE 41 w g cap l) (hg : B ≤ g) : Kd.R k41 41 w B (fun _ => True) (.slice (some ⟨g, 0, none⟩) l.length cap) l := by
  obtain ⟨cur, h0, h1, h2, h3, h4⟩ := h
  refine ⟨fun _ _ => trivial, l.flatMap pgE, ⟨flat_len pgE_2 l, .inr ⟨g, cap, cur, rfl, hg, h0, h3, by unfold maxLen; exact h2, h1, h4⟩⟩, flat_len pgE_2 l, fun j x hj => ?_⟩
  obtain ⟨hl, hx⟩ := List.getElem?_eq_some_iff.1 hj
  have e : ((l.flatMap pgE).drop (j * 2)).take 2 = [.int .u32 x.f0, .int .i64 x.f1] := by
    rw [flat_drop pgE_2, List.drop_eq_getElem_cons hl, List.flatMap_cons, List.take_left' (pgE_2 _), hx]
    rfl
  show (k41).M w B _ x (((l.flatMap pgE).drop (j * 2)).take 2)
  rw [e]
  exact k41_mkM _ _ _ _
theorem pg_flat_of {w : World} {B : Nat} {ok : Nat → Prop} : ∀ {l : List S41} {cs : List Value}, Reps ((k41).M w B ok) 2 l cs → cs = l.flatMap pgE
  | [], cs, h => by
    have := h.1
    simp at this
    simp [this]
  | x :: l, cs, h => by
    obtain ⟨h1, h2⟩ := h
    have hx := h2 0 x rfl
    have hx := k41_openM hx
    rw [Nat.zero_mul, List.drop_zero] at hx
    have ih := pg_flat_of (l := l) (cs := cs.drop 2) ⟨by rw [List.length_drop, h1, List.length_cons]; omega, fun j y hj => by
      have := h2 (j + 1) y (by simpa using hj)
      rwa [show (j + 1) * 2 = 2 + j * 2 by omega, ← List.drop_drop] at this⟩
    rw [List.flatMap_cons, ← ih, ← List.take_append_drop 2 cs, hx]
    simp [pgE]
theorem pg_own {w : World} {B : Nat} {ok : Nat → Prop} {v : Value} {l : List S41} (h : Kd.R k41 41 w B ok v l) : (v = .slice none 0 0 ∧ l = []) ∨ ∃ g cap, v = .slice (some ⟨g, 0, none⟩) l.length cap ∧ B ≤ g ∧ OwnB pgE 41 w g cap l := by
  obtain ⟨_, inner, ⟨h1, h2⟩, h3⟩ := h
  have hin := pg_flat_of h3
  rcases h2 with ⟨rfl, hn⟩ | ⟨g, cap, cur, rfl, hg, hh, hnc, hcm, hcs, ht⟩
  · exact .inl ⟨rfl, List.eq_nil_of_length_eq_zero hn⟩
  · exact .inr ⟨g, cap, rfl, hg, cur, hh, hcs, by unfold maxLen at hcm; exact hcm, hnc, by rw [← hin]; exact ht⟩
end Go.Proofs.Ytgkjdpdmmlalcaa.F
end
section
namespace Go.Proofs.Ytgkjdpdmmlalcaa.F
open Go.RowKit Go.Proofs.YtgkjdpdmmlalcaaW.PrintWords Go.Proofs.YtgkjdpdmmlalcaaW.PrintLast Go.Proofs.YtgkjdpdmmlalcaaW.PrintMore
attribute [local go_sem] max2_int min2_int max_two min_two max_three min_three max_four min_four
set_option linter.unusedVariables false
set_option linter.unusedSimpArgs false

def host_within.f (a0 : Int) (a1 : Int) (a2 : Int) : Option (Bool) := if a0 ≥ a1 then (some (decide ((IntKind.u64.wrap (a0 - a1)) < a2))) else (some false)
end Go.Proofs.Ytgkjdpdmmlalcaa.F
end
section
namespace Go.Proofs.Ytgkjdpdmmlalcaa.F
open Go.RowKit Go.Shelf Go.Proofs.YtgkjdpdmmlalcaaW.PrintWords Go.Proofs.YtgkjdpdmmlalcaaW.PrintLast Go.Proofs.YtgkjdpdmmlalcaaW.PrintMore
set_option linter.unusedVariables false
set_option linter.unusedSimpArgs false
def withB (p a n : Int) : Bool := (host_within.f p a n).getD false
structure UmW (w W : World) (m c : Value) (pg n : Int) (x y : Value) : Prop where
  bel : Below w.heap.size w W
  h : W.heap[w.heap.size]? = some (.cells #[m, c] 25 (0, 0))
  p : W.heap[w.heap.size + 1]? = some (.cells #[.int .u64 pg] 26 (0, 0))
  q : W.heap[w.heap.size + 1 + 1]? = some (.cells #[.int .u64 n] 26 (0, 0))
  r : W.heap[w.heap.size + 1 + 1 + 1]? = some (.cells #[x, y] 25 (0, 0))
  s : w.heap.size + 4 ≤ W.heap.size
theorem UmW.first (w : World) (m c : Value) (pg n : Int) : UmW w ((((w.alloc (.cells #[m, c] 25)).alloc (.cells #[.int .u64 pg] 26)).alloc (.cells #[.int .u64 n] 26)).alloc (.cells #[.slice none 0 0, .slice none 0 0] 25)) m c pg n (.slice none 0 0) (.slice none 0 0) := by
  have s1 : ∀ (W : World) o, (W.alloc o).heap.size = W.heap.size + 1 := fun W o => World.size_alloc W o
  have b1 : Below w.heap.size w (w.alloc (.cells #[m, c] 25)) := (Below.refl _ _).alloc (Nat.le_refl _) _
  have b2 := b1.alloc (by rw [s1]; omega) (.cells #[.int .u64 pg] 26)
  have b3 := b2.alloc (by rw [s1, s1]; omega) (.cells #[.int .u64 n] 26)
  have b4 := b3.alloc (by rw [s1, s1, s1]; omega) (.cells #[.slice none 0 0, .slice none 0 0] 25)
  have n1 := blk_new w (.cells #[m, c] 25)
  have n2 := blk_new (w.alloc (.cells #[m, c] 25)) (.cells #[.int .u64 pg] 26)
  have n3 := blk_new ((w.alloc (.cells #[m, c] 25)).alloc (.cells #[.int .u64 pg] 26)) (.cells #[.int .u64 n] 26)
  have n4 := blk_new (((w.alloc (.cells #[m, c] 25)).alloc (.cells #[.int .u64 pg] 26)).alloc (.cells #[.int .u64 n] 26)) (.cells #[.slice none 0 0, .slice none 0 0] 25)
  rw [s1] at n2
  rw [s1, s1] at n3
  rw [s1, s1, s1] at n4
  exact ⟨b4, blk_alloc (blk_alloc (blk_alloc n1 _) _) _, blk_alloc (blk_alloc n2 _) _, blk_alloc n3 _, n4, by rw [s1, s1, s1, s1]; omega⟩
theorem UmW.step {w W W' : World} {m c x y : Value} {pg n : Int} (h : UmW w W m c pg n x y) (hb : Below (w.heap.size + 4) W W') : UmW w W' m c pg n x y :=
  ⟨h.bel.trans (hb.mono (by omega)), (hb.block _ (by omega)).trans h.h, (hb.block _ (by omega)).trans h.p, (hb.block _ (by omega)).trans h.q, (hb.block _ (by omega)).trans h.r, Nat.le_trans h.s hb.size⟩
theorem UmW.set1 {w W : World} {m c x y : Value} {pg n : Int} (h : UmW w W m c pg n x y) (u : Value) : UmW w (W.setCell ⟨w.heap.size, 1, none⟩ u) m u pg n x y :=
  have hk : ∀ k, k ≠ w.heap.size → (W.setCell ⟨w.heap.size, 1, none⟩ u).heap[k]? = W.heap[k]? := fun k hk => Below.heap_setCell W _ u k hk
  ⟨h.bel.setCell (Nat.le_refl _) _, blk_put h.h 1 u rfl, (hk _ (by omega)).trans h.p, (hk _ (by omega)).trans h.q, (hk _ (by omega)).trans h.r, by simpa [World.setCell] using h.s⟩
theorem UmW.setR {w W : World} {m c x y : Value} {pg n : Int} (h : UmW w W m c pg n x y) (u v : Value) : UmW w ((W.setCell ⟨w.heap.size + 1 + 1 + 1, 0, none⟩ u).setCell ⟨w.heap.size + 1 + 1 + 1, 1, none⟩ v) m c pg n u v :=
  have hk : ∀ k, k ≠ w.heap.size + 1 + 1 + 1 → ((W.setCell ⟨w.heap.size + 1 + 1 + 1, 0, none⟩ u).setCell ⟨w.heap.size + 1 + 1 + 1, 1, none⟩ v).heap[k]? = W.heap[k]? := fun k hk => (Below.heap_setCell _ _ v k hk).trans (Below.heap_setCell W _ u k hk)
  ⟨(h.bel.setCell (by show w.heap.size ≤ w.heap.size + 1 + 1 + 1; omega) _).setCell (by show w.heap.size ≤ w.heap.size + 1 + 1 + 1; omega) _, (hk _ (by omega)).trans h.h, (hk _ (by omega)).trans h.p, (hk _ (by omega)).trans h.q, blk_put (blk_put h.r 0 u rfl) 1 v rfl, by simpa [World.setCell] using h.s⟩
theorem UmW.below {w W W' : World} {m c x y : Value} {pg n : Int} (h : UmW w W m c pg n x y) (hb : Below W.heap.size W W') : UmW w W' m c pg n x y := h.step (hb.mono h.s)
theorem view_old {α : Type} {d : Kd α} {e : Nat} {w w' : World} {ok ok' : Nat → Prop} {v : Value} {l : List α} (h : Kd.V d e w w.heap.size ok v l) (hb : Below w.heap.size w w') (hok : ∀ k, ok k → ok' k) : Kd.V d e w' w.heap.size ok' v l := Kd.V_mono (Kd.V_below h hb) hok
theorem set_far {w : World} {g j k : Nat} {v : Value} (h : k ≠ g) : (w.setCell ⟨g, j, none⟩ v).heap[k]? = w.heap[k]? := Below.heap_setCell w _ v k h
-- HAND fn=ferry/host.Unmap ; rounds=0 ; making=1 ; laid=0 ; share=0_0,0_1 ; views=0,1
end Go.Proofs.Ytgkjdpdmmlalcaa.F
end
section
namespace Go.Proofs.Ytgkjdpdmmlalcaa.F
open Go.RowKit Go.Shelf Go.Proofs.YtgkjdpdmmlalcaaW.PrintWords Go.Proofs.YtgkjdpdmmlalcaaW.PrintLast Go.Proofs.YtgkjdpdmmlalcaaW.PrintMore
set_option linter.unusedVariables false
set_option linter.unusedSimpArgs false
def moreP (a1 : Int) (n : Nat) (a3 : Int) : List S83 := (List.range n).map (fun i : Nat => ⟨IntKind.u64.wrap (a1 + ((i : Nat) : Int)), a3⟩)
-- HAND fn=ferry/host.Map ; rounds=0 ; making=1 ; laid=0 ; share=0_0,0_1 ; views=0,1
theorem map_at_some {l0_0 : List S83} (l0_1 : List S88) (a1 : Int) (h : l0_0.length ≤ 1000000) (hr : risesB mpK l0_0 = true) : host_mapAt.f l0_0 l0_1 a1 = some (((lowB mpK a1 l0_0 : Nat) : Int), has mpK a1 l0_0) := by
  unfold host_mapAt.f
  rw [if_pos ⟨h, hr⟩]
end Go.Proofs.Ytgkjdpdmmlalcaa.F
end
section
namespace Go.Proofs.Ytgkjdpdmmlalcaa.F
open Go.RowKit Go.Shelf Go.Proofs.YtgkjdpdmmlalcaaW.PrintWords Go.Proofs.YtgkjdpdmmlalcaaW.PrintLast Go.Proofs.YtgkjdpdmmlalcaaW.PrintMore
set_option linter.unusedVariables false
set_option linter.unusedSimpArgs false
theorem mp_getR {l : List S83} {k : Nat} (h : k < l.length) : rd_T83 l (k : Int) = l[k] := by
  unfold rd_T83
  simp [h]
theorem cl_getR {l : List S88} {k : Nat} (h : k < l.length) : rd_T88 l (k : Int) = l[k] := by
  unfold rd_T88
  simp [h]
end Go.Proofs.Ytgkjdpdmmlalcaa.F
end
section
namespace Go.Proofs.Ytgkjdpdmmlalcaa.F
open Go.RowKit Go.Proofs.YtgkjdpdmmlalcaaW.PrintWords Go.Proofs.YtgkjdpdmmlalcaaW.PrintLast Go.Proofs.YtgkjdpdmmlalcaaW.PrintMore
attribute [local go_sem] max2_int min2_int max_two min_two max_three min_three max_four min_four
set_option linter.unusedVariables false
set_option linter.unusedSimpArgs false

def ferryref03_Place.l0 : Nat → Int → Int → List (S83) → List (S88) → Option (Int)
  | 0, _, _, _, _ => none
  | k + 1, x1, x5, x105000, x105001 => if x5 < (x105000.length : Int) then (if 0 ≤ x5 then (if ((rd_T83 x105000 x5).f0) = x1 then (some x5) else (ferryref03_Place.l0 k x1 (wrap64 (x5 + 1)) x105000 x105001)) else (none)) else (some (-1))
def ferryref03_Place.f (k : Nat) (l0_0 : List (S83)) (l0_1 : List (S88)) (a1 : Int) : Option (Int) := ferryref03_Place.l0 k a1 0 l0_0 l0_1
set_option maxHeartbeats 8000000 in
set_option maxRecDepth 100000 in
theorem ferryref03_Place.calls (k : Nat) (A0_0 : Option Addr) (c0_0 : Nat) (l0_0 : List (S83)) (A0_1 : Option Addr) (c0_1 : Nat) (l0_1 : List (S88)) (a1 : Int) (r : Int) (w : World) (hr0_0 : Kd.C k83 w A0_0 l0_0.length l0_0) (hc0_0 : l0_0.length ≤ c0_0) (hr0_1 : Kd.C k88 w A0_1 l0_1.length l0_1) (hc0_1 : l0_1.length ≤ c0_1) (h : ferryref03_Place.f k l0_0 l0_1 a1 = some r) :
    Calls Try.prog 45 #[.agg #[.slice A0_0 l0_0.length c0_0, .slice A0_1 l0_1.length c0_1], .int .u64 a1] w fun e w' => e = .returned (.int .i64 r) ∧ Below w.heap.size w w' := by
  have hu25 := Try.underlying25
  have HR0_0 := Aside0.mk hr0_0
  have HC0_0 := Aside0.mk hc0_0
  clear hr0_0 hc0_0
  have HR0_1 := Aside0.mk hr0_1
  have HC0_1 := Aside0.mk hc0_1
  clear hr0_1 hc0_1
  have HB := Aside0.mk (Below.refl w.heap.size w)
  have H : (ferryref03_Place.l0 k a1 0 l0_0 l0_1) = some r := h
  clear h
  have H' := Aside0.mk H
  clear H
  go_enter Try.func45, Try.ntmps45
  go_wp2_with (first | ((with_reducible refine gate_dst (N := 2) rfl ?_); refine bE_ 2 #[.slice A0_0 l0_0.length c0_0, .slice A0_1 l0_1.length c0_1] 25 ?_; intro gb104 hg w3 hbox hb; have BK104 := Aside0.mk hbox; have GW104 := geT_ w.heap.size hg; have GE104 := geT_ w.heap.size hg; replace HB := hB_ hb; clear hb hbox hg))
  go_loopg [5] k (fun kq v5 w' => ∃ (x5_1 : Int), v5 = .int .i64 x5_1 ∧ Aside0 (ferryref03_Place.l0 kq a1 x5_1 l0_0 l0_1 = some r) ∧ Aside0 (kq ≤ k) ∧ Aside0 (w'.heap[gb104]? = some (.cells #[(.slice A0_0 l0_0.length c0_0), (.slice A0_1 l0_1.length c0_1)] 25 (0, 0))) ∧ Aside0 (Below w.heap.size w w'))
  case atStart => exact ⟨(0), r1_, H', ⟨Nat.le_refl _⟩, ⟨bT_ BK104.out⟩, ⟨beT_⟩⟩
  case round =>
    clear H'
    try clear p2
    obtain ⟨x5_1, rfl, HA, HK1, BK104, HB⟩ := hrel
    cases gk with
    | zero => exact absurd HA.out (by simp [ferryref03_Place.l0])
    | succ k1 =>
      have H := HA.out
      clear HA
      simp only [ferryref03_Place.l0] at H
      by_cases c4 : x5_1 < (l0_0.length : Int)
      · rw [if_pos c4] at H
        have c4b0 : decide (x5_1 < (l0_0.length : Int)) = true := decide_eq_true c4
        clear c4
        by_cases c5 : 0 ≤ x5_1
        · rw [if_pos c5] at H
          have c5b0 : decide (0 ≤ x5_1) = true := decide_eq_true c5
          clear c5
          by_cases c6 : ((rd_T83 l0_0 x5_1).f0) = a1
          · rw [if_pos c6] at H
            have c6b0 : (((rd_T83 l0_0 x5_1).f0) == a1) = true := beq_iff_eq.mpr c6
            have c6b1 : (((rd_T83 l0_0 x5_1).f0) != a1) = false := bne_eq_false_iff_eq.mpr c6
            clear c6
            obtain rfl := Option.some.inj H
            obtain ⟨hcz7_0, hcz7_1, hfz7_0, hfz7_1⟩ := b2_ BK104.out
            have p105 : 0 ≤ (x5_1 : Int) := dT_
            have q105 : x5_1 < (l0_0.length : Int) := dT_
            obtain ⟨ad105, e105, hx105_0, hx105_1⟩ := at_T83 HR0_0.out x5_1 p105 q105
            cases e105
            replace hx105_0 := hX_ hx105_0
            replace hx105_1 := hX_ hx105_1
            replace p105 := eq_true p105
            replace q105 := eq_true q105
            go_wp2
            go_ret
            exact ⟨r3_, beT_⟩
          rw [if_neg c6] at H
          have c6b0 : (((rd_T83 l0_0 x5_1).f0) == a1) = false := beq_eq_false_iff_ne.mpr c6
          have c6b1 : (((rd_T83 l0_0 x5_1).f0) != a1) = true := bne_iff_ne.mpr c6
          have H' := Aside0.mk H
          clear H
          obtain ⟨hcz8_0, hcz8_1, hfz8_0, hfz8_1⟩ := b2_ BK104.out
          have p105 : 0 ≤ (x5_1 : Int) := dT_
          have q105 : x5_1 < (l0_0.length : Int) := dT_
          obtain ⟨ad105, e105, hx105_0, hx105_1⟩ := at_T83 HR0_0.out x5_1 p105 q105
          cases e105
          replace hx105_0 := hX_ hx105_0
          replace hx105_1 := hX_ hx105_1
          replace p105 := eq_true p105
          replace q105 := eq_true q105
          go_wp2
          go_roundg k1
          case measure => have := HK1.out; omega
          case rel => exact ⟨(wrap64 (x5_1 + 1)), r1_, H', ⟨by have := HK1.out; omega⟩, ⟨bT_ BK104.out⟩, ⟨beT_⟩⟩
        rw [if_neg c5] at H
        exact absurd H (by simp)
      rw [if_neg c4] at H
      have c4b0 : decide (x5_1 < (l0_0.length : Int)) = false := decide_eq_false c4
      clear c4
      obtain rfl := Option.some.inj H
      obtain ⟨hcz9_0, hcz9_1, hfz9_0, hfz9_1⟩ := b2_ BK104.out
      go_wp2
      go_ret
      exact ⟨r3_, beT_⟩

end Go.Proofs.Ytgkjdpdmmlalcaa.F
end
