import Derived.Test.YtgkjdpdmmlalcaaTZF0
import Derived.Test.YtgkjdpdmmlalcaaTA0
import Derived.Test.YtgkjdpdmmlalcaaTA1HHost0
import Derived.Test.YtgkjdpdmmlalcaaTA2
import Derived.Test.YtgkjdpdmmlalcaaTA3HHost2
import Derived.Test.YtgkjdpdmmlalcaaTA4
import Derived.Test.YtgkjdpdmmlalcaaTA5HHost11
import Derived.Test.YtgkjdpdmmlalcaaTA6
import Derived.Test.YtgkjdpdmmlalcaaTA9HSwap
section
namespace Go.Proofs.Ytgkjdpdmmlalcaa.F
open Go.RowKit Go.Proofs.YtgkjdpdmmlalcaaW.PrintWords Go.Proofs.YtgkjdpdmmlalcaaW.PrintLast Go.Proofs.YtgkjdpdmmlalcaaW.PrintMore
attribute [local go_sem] max2_int min2_int max_two min_two max_three min_three max_four min_four
set_option linter.unusedVariables false
set_option linter.unusedSimpArgs false

def swap_Le.f (a0 : ByteArray) : Option (Int) := (swap_number.f a0 true).bind fun t167 => (some t167)
set_option maxHeartbeats 8000000 in
set_option maxRecDepth 100000 in
theorem swap_Le.calls (a0 : ByteArray) (r : Int) (w : World) (h : swap_Le.f a0 = some r) :
    Calls Try.prog 77 #[.string a0] w fun e w' => e = .returned (.int .u64 r) ∧ Below w.heap.size w w' := by
  have HB := Aside0.mk (Below.refl w.heap.size w)
  have H : ((swap_number.f a0 true).bind fun t167 => (some t167)) = some r := h
  clear h
  replace H := Option.bind_eq_some_iff.mp H
  obtain ⟨t167, A20, H⟩ := H
  have A2 := Aside0.mk A20
  clear A20
  obtain rfl := Option.some.inj H
  go_enter Try.func77, Try.ntmps77
  go_wp2_with (first | ((with_reducible refine gate_callee (f := 80) rfl ?_); refine gL_ (some 4) Try.func80 #[.string a0, .bool true] ?_; (with_reducible refine (swap_number.calls a0 true t167 _ A2.out).mono ?_); rintro e w3 ⟨rfl, hb⟩; refine ⟨_, rfl, ?_⟩; replace HB := hB_ hb; (try clear hb); (try clear hb2); (try clear hk); (try clear hi)))
  go_ret
  exact ⟨r3_, beT_⟩

end Go.Proofs.Ytgkjdpdmmlalcaa.F
end
section
namespace Go.Proofs.Ytgkjdpdmmlalcaa.F
open Go.RowKit Go.Shelf Go.Proofs.YtgkjdpdmmlalcaaW.PrintWords Go.Proofs.YtgkjdpdmmlalcaaW.PrintLast Go.Proofs.YtgkjdpdmmlalcaaW.PrintMore
set_option linter.unusedVariables false
set_option linter.unusedSimpArgs false
theorem cmp32_nan.calls (a : Int) (w : World) : Calls Try.prog 155 #[.int .u32 a] w fun e w' => e = .returned (.bool false) ∧ w' = w := by
  go_enter Try.func155, Try.ntmps155
  go_wp2
  go_ret
  exact ⟨by simp, rfl⟩
set_option maxHeartbeats 4000000 in
theorem cmp32.calls (a b : Int) (w : World) : Calls Try.prog 131 #[.int .u32 a, .int .u32 b] w fun e w' => e = .returned (.int .i64 (cmpI a b)) ∧ w' = w := by
  have NN := Lib.hid cmp32_nan.calls
  rcases Int.lt_trichotomy a b with h | h | h
  · have e : cmpI a b = -1 := if_pos h
    rw [e]
    clear e
    go_enter Try.func131, Try.ntmps131
    go_wp2_with (go_at_call 155; (with_reducible refine (NN.out _ _).mono ?_); rintro e w1 ⟨rfl, rfl⟩)
    go_ret
    exact ⟨rfl, rfl⟩
  · subst h
    have e : cmpI a a = 0 := by simp [cmpI]
    rw [e]
    clear e
    go_enter Try.func131, Try.ntmps131
    go_wp2_with (go_at_call 155; (with_reducible refine (NN.out _ _).mono ?_); rintro e w1 ⟨rfl, rfl⟩)
    go_ret
    exact ⟨rfl, rfl⟩
  · have e : cmpI a b = 1 := by unfold cmpI; rw [if_neg (by omega), if_pos h]
    rw [e]
    clear e
    go_enter Try.func131, Try.ntmps131
    go_wp2_with (go_at_call 155; (with_reducible refine (NN.out _ _).mono ?_); rintro e w1 ⟨rfl, rfl⟩)
    go_ret
    exact ⟨rfl, rfl⟩
abbrev pgK (x : S41) : Int := x.f0
theorem pg_read {l : List S41} {k : Nat} (h : k < l.length) : rd_T41 l (k : Int) = l[k] := by
  unfold rd_T41
  simp [h]
set_option maxHeartbeats 4000000 in
theorem at1.calls (x : S41) (key : Int) (w : World) : Calls Try.prog 130 #[.agg #[.int .u32 x.f0, .int .i64 x.f1], .int .u32 key] w fun e w' => e = .returned (.int .i64 (cmpI x.f0 key)) ∧ Below w.heap.size w w' := by
  have TB := Lib.hid ((Below.refl _ w).alloc (Nat.le_refl _) (.cells #[.int .u32 x.f0, .int .i64 x.f1] 41))
  have HC := Lib.hid cmp32.calls
  have hu := Try.underlying41
  go_enter Try.func130, Try.ntmps130
  go_wp2_with (go_at_call 131; (with_reducible refine (HC.out _ _ _).mono ?_); rintro e w2 ⟨rfl, rfl⟩)
  go_ret
  exact ⟨rfl, TB.out⟩
set_option maxHeartbeats 8000000 in
set_option maxRecDepth 100000 in
theorem pg_bsf.calls (A : Option Addr) (c : Nat) (l : List S41) (key : Int) (w : World) (hr : Kd.C k41 w A l.length l) (hc : l.length ≤ c) (hl : l.length ≤ 1000000) (hs : Rises pgK l) :
    Calls Try.prog 129 #[.slice A l.length c, .int .u32 key, .func (.func 130) #[] #[]] w fun e w' => e = .returned (.tuple #[.int .i64 (lowB pgK key l : Nat), .bool (has pgK key l)]) ∧ Below w.heap.size w w' := by
  have CL := Lib.hid (fun (x : S41) (W : World) (_ : Below w.heap.size w W) => at1.calls x key W)
  have HS := Lib.hid hs
  have HR := Lib.hid hr
  have hlo : lowB pgK key l = lowB pgK key l := rfl
  generalize hN : lowB pgK key l = N at hlo ⊢
  have EN := Lib.hid hN
  generalize hH : has pgK key l = H at ⊢
  have EH := Lib.hid hH
  clear hN hH hlo hs hr
  go_enter Try.func129, Try.ntmps129
  go_wp2
  go_loopw [9, 10] (fun t9 t10 wr => ∃ lo hi : Nat, t9 = .int .i64 lo ∧ t10 = .int .i64 hi ∧ lo ≤ hi ∧ hi ≤ l.length ∧ Hid ((∀ j (hj : j < l.length), j < lo → pgK l[j] < key) ∧ (∀ j (hj : j < l.length), hi ≤ j → key ≤ pgK l[j])) ∧ Hid (Below w.heap.size w wr)) (fun t9 t10 _ => (intOf t10 - intOf t9).toNat)
  case atStart => exact ⟨0, l.length, rfl, rfl, Nat.zero_le _, Nat.le_refl _, Lib.hid ⟨fun j _ h => absurd h (Nat.not_lt_zero _), fun j hj h => absurd hj (Nat.not_lt.2 h)⟩, Lib.hid (Below.refl _ _)⟩
  case round =>
    obtain ⟨lo, hi, rfl, rfl, hlh, hil, I, hB⟩ := hrel
    by_cases hlt : lo < hi
    · have hm : (lo + hi) / 2 < l.length := by omega
      have hm1 : lo ≤ (lo + hi) / 2 := by omega
      have hm2 : (lo + hi) / 2 < hi := by omega
      obtain ⟨ad, rfl, c0, c1⟩ := at_T41 (Kd.C_below HR.out hB.out) (((lo + hi) / 2 : Nat) : Int) (by omega) (by omega)
      rw [pg_read hm, Int.toNat_natCast] at c0 c1
      generalize hx : l[(lo + hi) / 2] = x at c0 c1
      have EX := Lib.hid hx
      clear hx
      by_cases hcmp : cmpI x.f0 key < 0
      · go_wp2_with (go_at_call 130; (with_reducible refine (CL.out x _ hB.out).mono ?_); rintro ex w2 ⟨rfl, hb2⟩)
        refine ⟨⟨(lo + hi) / 2 + 1, hi, by go_num, rfl, by omega, hil, Lib.hid ⟨fun j hj hjl => ?_, I.out.2⟩, Lib.hid (hB.out.trans (hb2.mono hB.out.size))⟩, by simp [intOf]; omega⟩
        have hlt' := cmpI_neg hcmp
        rcases Nat.lt_or_ge j ((lo + hi) / 2) with h | h
        · have := rises_get pgK HS.out j _ hm h
          rw [EX.out] at this
          exact Int.lt_trans this hlt'
        · obtain rfl : j = (lo + hi) / 2 := by omega
          rw [EX.out]
          exact hlt'
      have HGE := Lib.hid (cmpI_pos hcmp)
      go_wp2_with (go_at_call 130; (with_reducible refine (CL.out x _ hB.out).mono ?_); rintro ex w2 ⟨rfl, hb2⟩)
      refine ⟨⟨lo, (lo + hi) / 2, rfl, rfl, hm1, by omega, Lib.hid ⟨I.out.1, fun j hj hjl => ?_⟩, Lib.hid (hB.out.trans (hb2.mono hB.out.size))⟩, by simp [intOf]; omega⟩
      have hge' := HGE.out
      rcases Nat.lt_or_eq_of_le hjl with h | h
      · have := rises_get pgK HS.out _ j hj h
        rw [EX.out] at this
        exact Int.le_of_lt (Int.lt_of_le_of_lt hge' this)
      · subst h
        rw [EX.out]
        exact hge'
    obtain rfl : hi = lo := by omega
    have hn := lowB_of pgK HS.out hi hil I.out.1 I.out.2
    rw [EN.out] at hn
    subst hn
    have hh := has_lowB pgK (k := key) HS.out
    rw [EH.out, EN.out] at hh
    by_cases hlt2 : N < l.length
    · obtain ⟨ad, rfl, c0, c1⟩ := at_T41 (Kd.C_below HR.out hB.out) (N : Int) (by omega) (by omega)
      rw [pg_read hlt2, Int.toNat_natCast] at c0 c1
      rw [List.getElem?_eq_getElem hlt2] at hh
      generalize l[N] = x at c0 c1 hh
      dsimp only at hh
      rw [← cmpI_zero] at hh
      generalize hq : cmpI x.f0 key = q at hh
      have EQ := Lib.hid hq
      have CL2 := Lib.hid (CL.out x _ hB.out)
      rw [hq] at CL2
      clear hq CL
      subst hh
      by_cases hz : q = 0
      · subst hz
        go_wp2_with (go_at_call 130; (with_reducible refine CL2.out.mono ?_); rintro ex w2 ⟨rfl, hb2⟩)
        go_ret2
        exact ⟨by simp, hB.out.trans (hb2.mono hB.out.size)⟩
      have hz1 : (q == 0) = false := beq_eq_false_iff_ne.2 hz
      go_wp2_with (go_at_call 130; (with_reducible refine CL2.out.mono ?_); rintro ex w2 ⟨rfl, hb2⟩)
      go_ret2
      exact ⟨by simp [hz], hB.out.trans (hb2.mono hB.out.size)⟩
    rw [List.getElem?_eq_none (by omega)] at hh
    dsimp only at hh
    subst hh
    go_wp2
    go_ret2
    exact ⟨rfl, hB.out⟩
-- HAND fn=ferry/guest.at ; rounds=0 ; making=1 ; laid=0
def guest_at.f (l0 : List S41) (a1 : Int) : Option (Int × Bool) := if l0.length ≤ 1000000 ∧ risesB pgK l0 = true then some ((lowB pgK a1 l0 : Nat), has pgK a1 l0) else none
set_option maxHeartbeats 4000000 in
theorem guest_at.calls (A0 : Option Addr) (c0 : Nat) (l0 : List S41) (a1 : Int) (r1 : Int) (r2 : Bool) (w : World) (hr0 : Kd.C k41 w A0 l0.length l0) (hc0 : l0.length ≤ c0) (h : guest_at.f l0 a1 = some (r1, r2)) :
    Calls Try.prog 97 #[.slice A0 l0.length c0, .int .u32 a1] w fun e w' => e = .returned (.tuple #[.int .i64 r1, .bool r2]) ∧ Below w.heap.size w w' := by
  unfold guest_at.f at h
  split at h
  · rename_i hh
    obtain ⟨rfl, rfl⟩ := Prod.mk.inj (Option.some.inj h)
    have PL := Lib.hid (fun W (hb : Below w.heap.size w W) => pg_bsf.calls A0 c0 l0 a1 W (Kd.C_below hr0 hb) hc0 hh.1 ((risesB_iff _).1 hh.2))
    clear hh h hr0
    go_enter Try.func97, Try.ntmps97
    go_wp2_with (go_at_call 129; (with_reducible refine (PL.out _ (Below.refl _ _)).mono ?_); rintro ex w2 ⟨rfl, hb2⟩; have B2 := Lib.hid hb2; clear hb2)
    go_ret2
    exact ⟨rfl, B2.out⟩
  · cases h
end Go.Proofs.Ytgkjdpdmmlalcaa.F
end
section
namespace Go.Proofs.Ytgkjdpdmmlalcaa.F
open Go.RowKit Go.Shelf Go.Proofs.YtgkjdpdmmlalcaaW.PrintWords Go.Proofs.YtgkjdpdmmlalcaaW.PrintLast Go.Proofs.YtgkjdpdmmlalcaaW.PrintMore
set_option linter.unusedVariables false
set_option linter.unusedSimpArgs false
def pgE (x : S41) : List Value := [.int .u32 x.f0, .int .i64 x.f1]
theorem pgE_2 (x : S41) : (pgE x).length = 2 := rfl
theorem pg_R {w : World} {g cap B : Nat} {l : List S41} (h : OwnB pgE 41 w g cap l) (hg : B ≤ g) : Kd.R k41 41 w B (fun _ => True) (.slice (some ⟨g, 0, none⟩) l.length cap) l := by
  obtain ⟨cur, h0, h1, h2, h3, h4⟩ := h
  refine ⟨fun _ _ => trivial, l.flatMap pgE, ⟨flat_len pgE_2 l, .inr ⟨g, cap, cur, rfl, hg, h0, h3, by unfold maxLen; exact h2, h1, h4⟩⟩, flat_len pgE_2 l, fun j x hj => ?_⟩
  obtain ⟨hl, hx⟩ := List.getElem?_eq_some_iff.1 hj
  have e : ((l.flatMap pgE).drop (j * 2)).take 2 = [.int .u32 x.f0, .int .i64 x.f1] := by
    rw [flat_drop pgE_2, List.drop_eq_getElem_cons hl, List.flatMap_cons, List.take_left' (pgE_2 _), hx]
    rfl
  show (k41).M w B _ x (((l.flatMap pgE).drop (j * 2)).take 2)
  rw [e]
  exact k41_mkM _ _ _ _
theorem pg_flat_of {w : World} {B : Nat} {ok : Nat → Prop} : ∀ {l : List S41} {cs : List Value}, Reps ((k41).M w B ok) 2 l cs → cs = l.flatMap pgE
  | [], cs, h => by
    have := h.1
    simp at this
    simp [this]
  | x :: l, cs, h => by
    obtain ⟨h1, h2⟩ := h
    have hx := h2 0 x rfl
    have hx := k41_openM hx
    rw [Nat.zero_mul, List.drop_zero] at hx
    have ih := pg_flat_of (l := l) (cs := cs.drop 2) ⟨by rw [List.length_drop, h1, List.length_cons]; omega, fun j y hj => by
      have := h2 (j + 1) y (by simpa using hj)
      rwa [show (j + 1) * 2 = 2 + j * 2 by omega, ← List.drop_drop] at this⟩
    rw [List.flatMap_cons, ← ih, ← List.take_append_drop 2 cs, hx]
    simp [pgE]
theorem pg_own {w : World} {B : Nat} {ok : Nat → Prop} {v : Value} {l : List S41} (h : Kd.R k41 41 w B ok v l) : (v = .slice none 0 0 ∧ l = []) ∨ ∃ g cap, v = .slice (some ⟨g, 0, none⟩) l.length cap ∧ B ≤ g ∧ OwnB pgE 41 w g cap l := by
  obtain ⟨_, inner, ⟨h1, h2⟩, h3⟩ := h
  have hin := pg_flat_of h3
  rcases h2 with ⟨rfl, hn⟩ | ⟨g, cap, cur, rfl, hg, hh, hnc, hcm, hcs, ht⟩
  · exact .inl ⟨rfl, List.eq_nil_of_length_eq_zero hn⟩
  · exact .inr ⟨g, cap, rfl, hg, cur, hh, hcs, by unfold maxLen at hcm; exact hcm, hnc, by rw [← hin]; exact ht⟩
end Go.Proofs.Ytgkjdpdmmlalcaa.F
end
section
namespace Go.Proofs.Ytgkjdpdmmlalcaa.F
open Go.RowKit Go.Shelf Go.Proofs.YtgkjdpdmmlalcaaW.PrintWords Go.Proofs.YtgkjdpdmmlalcaaW.PrintLast Go.Proofs.YtgkjdpdmmlalcaaW.PrintMore
set_option linter.unusedVariables false
set_option linter.unusedSimpArgs false
def fitMap (m : S83) : Bool := decide (m.f0 ≥ 1125899906842624) || (Go.bits .andNot .i64 m.f1 7 != 0)
def fitCell (l0_0 : List S83) (c : S88) : Bool := (!(has mpK (IntKind.u64.wrap (Int.tdiv c.f0 16384)) l0_0) || (Go.bits .and .u64 c.f0 7 != 0)) || (c.f1 == 0)
def fitB (l0_0 : List S83) (l0_1 : List S88) : Bool := risesB mpK l0_0 && (risesB clK l0_1 && (decide (l0_0.length ≤ 64) && (decide (l0_1.length ≤ 131072) && (!(l0_0.any fitMap) && !(l0_1.any (fitCell l0_0))))))
end Go.Proofs.Ytgkjdpdmmlalcaa.F
end
section
namespace Go.Proofs.Ytgkjdpdmmlalcaa.F
open Go.RowKit Go.Shelf Go.Proofs.YtgkjdpdmmlalcaaW.PrintWords Go.Proofs.YtgkjdpdmmlalcaaW.PrintLast Go.Proofs.YtgkjdpdmmlalcaaW.PrintMore
set_option linter.unusedVariables false
def Chain : List World → World → Prop
  | [], _ => True
  | w :: ws, W => Below w.heap.size w W ∧ Chain ws W
theorem Chain.step : ∀ {ws : List World} {W W' : World}, Chain ws W → Below W.heap.size W W' → Chain ws W'
  | [], _, _, _, _ => trivial
  | _ :: _, _, _, h, hb => ⟨h.1.trans (hb.mono h.1.size), Chain.step h.2 hb⟩
theorem below_new (W : World) (o : Obj) : Below W.heap.size W (W.alloc o) := (Below.refl _ W).alloc (Nat.le_refl _) o
theorem below_d (W : World) : Below W.heap.size W W.drew := below_drew (Below.refl _ _)
theorem Chain.alloc {ws : List World} {W : World} (h : Chain ws W) (o : Obj) : Chain ws (W.alloc o) := h.step (below_new W o)
theorem Chain.drew {ws : List World} {W : World} (h : Chain ws W) : Chain ws W.drew := h.step (below_d W)
def SlV {α : Type} (d : Kd α) (W : World) (v : Value) (l : List α) : Prop := ∃ A c, v = .slice A l.length c ∧ l.length ≤ c ∧ Kd.C d W A l.length l
theorem SlV.below {α : Type} {d : Kd α} {W W' : World} {v : Value} {l : List α} (h : SlV d W v l) (hb : Below W.heap.size W W') : SlV d W' v l := by
  obtain ⟨A, c, e, hc, hC⟩ := h
  exact ⟨A, c, e, hc, Kd.C_below hC hb⟩
theorem SlV.mk {α : Type} {d : Kd α} {W : World} {A : Option Addr} {l : List α} {c : Nat} (hC : Kd.C d W A l.length l) (hc : l.length ≤ c) : SlV d W (.slice A l.length c) l := ⟨A, c, rfl, hc, hC⟩
theorem SlV.of_view {α : Type} {d : Kd α} {e base : Nat} {W : World} {ok : Nat → Prop} {v : Value} {l : List α} (h : Kd.V d e W base ok v l) : SlV d W v l := by
  obtain ⟨A, c, ev, hc, hF⟩ := h
  exact ⟨A, c, ev, hc, Kd.F_now hF⟩
theorem SlV.nil {α : Type} (d : Kd α) (W : World) : SlV d W (.slice none 0 0) [] := ⟨none, 0, rfl, Nat.le_refl _, Kd.C_nil d W⟩
theorem blk_far2 {w : World} {g b : Nat} {t : TypeId} {cs : Array Value} (h : w.heap[g]? = some (.cells cs t (0, 0))) (hn : g ≠ b) (u v : Value) : ((w.setCell ⟨b, 0, none⟩ u).setCell ⟨b, 1, none⟩ v).heap[g]? = some (.cells cs t (0, 0)) :=
  blk_far (blk_far h hn u) hn v
end Go.Proofs.Ytgkjdpdmmlalcaa.F
end
section
namespace Go.Proofs.Ytgkjdpdmmlalcaa.F
open Go.RowKit Go.Proofs.YtgkjdpdmmlalcaaW.PrintWords Go.Proofs.YtgkjdpdmmlalcaaW.PrintLast Go.Proofs.YtgkjdpdmmlalcaaW.PrintMore
attribute [local go_sem] max2_int min2_int max_two min_two max_three min_three max_four min_four
attribute [local go_sem] cell_twice
set_option linter.unusedVariables false
set_option linter.unusedSimpArgs false

mutual
def host_ask.l0 : Nat → Int → Int → Int → Int → List (S83) → List (S88) → Option (Int × Int)
  | 0, _, _, _, _, _, _ => none
  | k + 1, x1, x3, x14, x15, x130000, x130001 => if x15 < x14 then ((host_mapAt.f x130000 x130001 (IntKind.u64.wrap (Int.tdiv (IntKind.u64.wrap (x1 + x15)) 16384))).bind fun bt131 => (if bt131.2 = true then (host_ask.j1 k x1 x3 (IntKind.u64.wrap (x1 + x15)) bt131.1 x14 x15 (decide ((IntKind.u64.wrap (x1 + x15)) < x1)) x130000 x130001) else (host_ask.j1 k x1 x3 (IntKind.u64.wrap (x1 + x15)) bt131.1 x14 x15 true x130000 x130001))) else (some (0, 0))
def host_ask.j1 : Nat → Int → Int → Int → Int → Int → Int → Bool → List (S83) → List (S88) → Option (Int × Int)
  | 0, _, _, _, _, _, _, _, _, _ => none
  | k + 1, x1, x3, x10, x11, x14, x15, x28, x130000, x130001 => if x28 = true then (some (1, x10)) else (if 0 ≤ x11 then (if x11 < (x130000.length : Int) then (if (Go.bits .and .i64 ((rd_T83 x130000 x11).f1) x3) = 0 then (some (2, x10)) else (host_ask.l0 k x1 x3 x14 (IntKind.u64.wrap (x15 + 1)) x130000 x130001)) else (none)) else (none))
end
def host_ask.f (k : Nat) (l0_0 : List (S83)) (l0_1 : List (S88)) (a1 : Int) (a2 : Int) (a3 : Int) : Option (Int × Int) := host_ask.l0 k a1 a3 (IntKind.u64.wrap (a2)) 0 l0_0 l0_1
set_option maxHeartbeats 8000000 in
set_option maxRecDepth 100000 in
theorem host_ask.calls (k : Nat) (A0_0 : Option Addr) (c0_0 : Nat) (l0_0 : List (S83)) (A0_1 : Option Addr) (c0_1 : Nat) (l0_1 : List (S88)) (a1 : Int) (a2 : Int) (a3 : Int) (r1 : Int) (r2 : Int) (w : World) (hr0_0 : Kd.C k83 w A0_0 l0_0.length l0_0) (hc0_0 : l0_0.length ≤ c0_0) (hr0_1 : Kd.C k88 w A0_1 l0_1.length l0_1) (hc0_1 : l0_1.length ≤ c0_1) (h : host_ask.f k l0_0 l0_1 a1 a2 a3 = some (r1, r2)) :
    Calls Try.prog 104 #[.agg #[.slice A0_0 l0_0.length c0_0, .slice A0_1 l0_1.length c0_1], .int .u64 a1, .int .i64 a2, .int .i64 a3] w fun e w' => e = .returned (.agg #[.int .i64 r1, .int .u64 r2]) ∧ Below w.heap.size w w' := by
  have hu25 := Try.underlying25
  have hu34 := Try.underlying34
  have HR0_0 := Aside0.mk hr0_0
  have HC0_0 := Aside0.mk hc0_0
  clear hr0_0 hc0_0
  have HR0_1 := Aside0.mk hr0_1
  have HC0_1 := Aside0.mk hc0_1
  clear hr0_1 hc0_1
  have HB := Aside0.mk (Below.refl w.heap.size w)
  have H : (host_ask.l0 k a1 a3 (IntKind.u64.wrap (a2)) 0 l0_0 l0_1) = some (r1, r2) := h
  clear h
  have H' := Aside0.mk H
  clear H
  go_enter Try.func104, Try.ntmps104
  go_wp2_with (first | ((with_reducible refine gate_dst (N := 4) rfl ?_); refine bE_ 4 #[.slice A0_0 l0_0.length c0_0, .slice A0_1 l0_1.length c0_1] 25 ?_; intro gb129 hg w5 hbox hb; have BK129 := Aside0.mk hbox; have GW129 := geT_ w.heap.size hg; have GE129 := geT_ w.heap.size hg; replace HB := hB_ hb; clear hb hbox hg) | ((with_reducible refine gate_dst (N := 8) rfl ?_); refine bE_ 8 #[.int .i64 0, .int .u64 0] 34 ?_; intro gb130 hg w6 hbox hb; have BK130 := Aside0.mk hbox; have GW130 := geT_ w.heap.size hg; have GE130 := geT_ w.heap.size hg; have NB129_130 := nlT_ BK129.out hg; have NB130_129 := ngT_ BK129.out hg; replace BK129 := kB_ BK129 hb; replace HB := hB_ hb; clear hb hbox hg))
  go_loopg [15] k (fun kq v15 w' => ∃ (x15_1 : Int) (x131000_1 : Int) (x131001_1 : Int), v15 = .int .u64 x15_1 ∧ Aside0 (host_ask.l0 kq a1 a3 (IntKind.u64.wrap (a2)) x15_1 l0_0 l0_1 = some (r1, r2)) ∧ Aside0 (kq ≤ k) ∧ Aside0 (w'.heap[gb129]? = some (.cells #[(.slice A0_0 l0_0.length c0_0), (.slice A0_1 l0_1.length c0_1)] 25 (0, 0))) ∧ Aside0 (w'.heap[gb130]? = some (.cells #[.int .i64 x131000_1, .int .u64 x131001_1] 34 (0, 0))) ∧ Aside0 (Below w.heap.size w w'))
  case atStart => exact ⟨(0), (0), (0), r1_, H', ⟨Nat.le_refl _⟩, ⟨bT_ BK129.out⟩, ⟨bT_ BK130.out⟩, ⟨beT_⟩⟩
  case round =>
    clear H'
    try clear c1
    try clear p2
    obtain ⟨x15_1, x131000_1, x131001_1, rfl, HA, HK1, BK129, BK130, HB⟩ := hrel
    cases gk with
    | zero => exact absurd HA.out (by simp [host_ask.l0])
    | succ k1 =>
      have H := HA.out
      clear HA
      simp only [host_ask.l0] at H
      by_cases c7 : x15_1 < (IntKind.u64.wrap (a2))
      · rw [if_pos c7] at H
        have c7b0 : decide (x15_1 < (IntKind.u64.wrap (a2))) = true := decide_eq_true c7
        clear c7
        replace H := Option.bind_eq_some_iff.mp H
        obtain ⟨⟨t131, t132⟩, A80, H⟩ := H
        have A8 := Aside0.mk A80
        clear A80
        have HC9 := Aside0.mk H
        clear H
        have hnb10 := NB129_130.out
        have hnc10 := NB130_129.out
        obtain ⟨hcz11_0, hcz11_1, hfz11_0, hfz11_1⟩ := b2_ BK129.out
        go_upto_region 6 with (first | ((with_reducible refine gate_callee (f := 126) rfl ?_); refine gL_ (some 25) Try.func126 #[.agg #[.slice A0_0 l0_0.length c0_0, .slice A0_1 l0_1.length c0_1], .int .u64 (IntKind.u64.wrap (Int.tdiv (IntKind.u64.wrap (a1 + x15_1)) 16384))] ?_; (with_reducible refine (host_mapAt.calls _ _ l0_0 _ _ l0_1 (IntKind.u64.wrap (Int.tdiv (IntKind.u64.wrap (a1 + x15_1)) 16384)) t131 t132 _ ?side1 ?side2 ?side3 ?side4 A8.out).mono ?_); (case side1 => exact cT_ (Kd.C_below HR0_0.out HB.out)); (case side2 => exact HC0_0.out); (case side3 => exact cT_ (Kd.C_below HR0_1.out HB.out)); (case side4 => exact HC0_1.out); rintro e w12 ⟨rfl, hb⟩; refine ⟨_, rfl, ?_⟩; replace BK129 := kB_ BK129 hb; replace BK130 := kB_ BK130 hb; replace HB := hB_ hb; (try clear hb); (try clear hb2); (try clear hk); (try clear hi)))
        (try simp only [Act.put, List.setIfInBounds_toArray, List.set_cons_zero, List.set_cons_succ])
        go_cut [28] (fun v28 wc => ∃ (kq : Nat) (x28_8 : Bool), v28 = .bool x28_8 ∧ Aside0 (host_ask.j1 kq a1 a3 (IntKind.u64.wrap (a1 + x15_1)) t131 (IntKind.u64.wrap (a2)) x15_1 x28_8 l0_0 l0_1 = some (r1, r2)) ∧ Aside0 (kq ≤ k1) ∧ Aside0 (wc.heap[gb129]? = some (.cells #[(.slice A0_0 l0_0.length c0_0), (.slice A0_1 l0_1.length c0_1)] 25 (0, 0))) ∧ Aside0 (wc.heap[gb130]? = some (.cells #[.int .i64 x131000_1, .int .u64 x131001_1] 34 (0, 0))) ∧ Aside0 (Below w.heap.size w wc))
        case first =>
          have H := HC9.out
          clear HC9
          by_cases c13 : t132 = true
          · subst c13
            replace H := hP_ H
            have H' := Aside0.mk H
            clear H
            go_wp2
            go_meet
            case rel => exact ⟨_, (decide ((IntKind.u64.wrap (a1 + x15_1)) < a1)), r1_, H', ⟨by have := HK1.out; first | omega | exact Nat.le_refl _⟩, ⟨bT_ BK129.out⟩, ⟨bT_ BK130.out⟩, ⟨beT_⟩⟩
          replace c13 := Bool.eq_false_iff.mpr c13
          subst c13
          replace H := hN_ H
          have H' := Aside0.mk H
          clear H
          go_wp2
          go_meet
          case rel => exact ⟨_, (true), r1_, H', ⟨by have := HK1.out; first | omega | exact Nat.le_refl _⟩, ⟨bT_ BK129.out⟩, ⟨bT_ BK130.out⟩, ⟨beT_⟩⟩
        case rest =>
          clear HC9
          try clear c1
          try clear p2
          try clear c7
          try clear c7b0
          try clear c10
          try clear c12
          try clear c13
          try clear hcz11_0
          try clear hcz11_1
          try clear hfz11_0
          try clear hfz11_1
          try clear p2
          obtain ⟨kq, x28_8, rfl, HA, HJ8, BK129, BK130, HB⟩ := hcut
          cases kq with
          | zero => exact absurd HA.out (by simp [host_ask.j1])
          | succ kj8 =>
            have H := HA.out
            clear HA
            simp only [host_ask.j1] at H
            by_cases c14 : x28_8 = true
            · subst c14
              replace H := hP_ H
              simp only [Option.some.injEq, Prod.mk.injEq] at H
              obtain ⟨rfl, rfl⟩ := H
              have hnb15 := NB130_129.out
              have hnc15 := NB129_130.out
              obtain ⟨hcz16_0, hcz16_1, hfz16_0, hfz16_1⟩ := b2_ BK130.out
              go_wp2
              refine bodyPost_ret (results_cell_row rfl _ _ gb130 34 #[.int .i64 1, .int .u64 (IntKind.u64.wrap (a1 + x15_1))] (0, 0) _ rfl (kP_ BK130.out) Try.underlying34 rfl (by kernel_rfl)) rfl ?_
              exact ⟨r3_, beT_⟩
            replace c14 := Bool.eq_false_iff.mpr c14
            subst c14
            replace H := hN_ H
            by_cases c17 : 0 ≤ t131
            · rw [if_pos c17] at H
              have c17b0 : decide (0 ≤ t131) = true := decide_eq_true c17
              clear c17
              by_cases c18 : t131 < (l0_0.length : Int)
              · rw [if_pos c18] at H
                have c18b0 : decide (t131 < (l0_0.length : Int)) = true := decide_eq_true c18
                clear c18
                by_cases c19 : (Go.bits .and .i64 ((rd_T83 l0_0 t131).f1) a3) = 0
                · rw [if_pos c19] at H
                  have c19b0 : ((Go.bits .and .i64 ((rd_T83 l0_0 t131).f1) a3) == 0) = true := beq_iff_eq.mpr c19
                  have c19b1 : ((Go.bits .and .i64 ((rd_T83 l0_0 t131).f1) a3) != 0) = false := bne_eq_false_iff_eq.mpr c19
                  clear c19
                  simp only [Option.some.injEq, Prod.mk.injEq] at H
                  obtain ⟨rfl, rfl⟩ := H
                  have hnb20 := NB129_130.out
                  have hnc20 := NB130_129.out
                  obtain ⟨hcz21_0, hcz21_1, hfz21_0, hfz21_1⟩ := b2_ BK129.out
                  have p133 : 0 ≤ (t131 : Int) := dT_
                  have q133 : t131 < (l0_0.length : Int) := dT_
                  obtain ⟨ad133, e133, hx133_0, hx133_1⟩ := at_T83 HR0_0.out t131 p133 q133
                  cases e133
                  replace hx133_0 := hX_ hx133_0
                  replace hx133_1 := hX_ hx133_1
                  replace p133 := eq_true p133
                  replace q133 := eq_true q133
                  obtain ⟨hcz22_0, hcz22_1, hfz22_0, hfz22_1⟩ := b2_ BK130.out
                  go_wp2
                  refine bodyPost_ret (results_cell_row rfl _ _ gb130 34 #[.int .i64 2, .int .u64 (IntKind.u64.wrap (a1 + x15_1))] (0, 0) _ rfl (kP_ BK130.out) Try.underlying34 rfl (by kernel_rfl)) rfl ?_
                  exact ⟨r3_, beT_⟩
                rw [if_neg c19] at H
                have c19b0 : ((Go.bits .and .i64 ((rd_T83 l0_0 t131).f1) a3) == 0) = false := beq_eq_false_iff_ne.mpr c19
                have c19b1 : ((Go.bits .and .i64 ((rd_T83 l0_0 t131).f1) a3) != 0) = true := bne_iff_ne.mpr c19
                have H' := Aside0.mk H
                clear H
                have hnb23 := NB129_130.out
                have hnc23 := NB130_129.out
                obtain ⟨hcz24_0, hcz24_1, hfz24_0, hfz24_1⟩ := b2_ BK129.out
                have p133 : 0 ≤ (t131 : Int) := dT_
                have q133 : t131 < (l0_0.length : Int) := dT_
                obtain ⟨ad133, e133, hx133_0, hx133_1⟩ := at_T83 HR0_0.out t131 p133 q133
                cases e133
                replace hx133_0 := hX_ hx133_0
                replace hx133_1 := hX_ hx133_1
                replace p133 := eq_true p133
                replace q133 := eq_true q133
                go_wp2
                go_roundg kj8
                case measure => have := HK1.out; have := HJ8.out; omega
                case rel => exact ⟨(IntKind.u64.wrap (x15_1 + 1)), (x131000_1), (x131001_1), r1_, H', ⟨by have := HK1.out; have := HJ8.out; omega⟩, ⟨bT_ BK129.out⟩, ⟨bT_ BK130.out⟩, ⟨beT_⟩⟩
              rw [if_neg c18] at H
              exact absurd H (by simp)
            rw [if_neg c17] at H
            exact absurd H (by simp)
      rw [if_neg c7] at H
      have c7b0 : decide (x15_1 < (IntKind.u64.wrap (a2))) = false := decide_eq_false c7
      clear c7
      simp only [Option.some.injEq, Prod.mk.injEq] at H
      obtain ⟨rfl, rfl⟩ := H
      have hnb25 := NB130_129.out
      have hnc25 := NB129_130.out
      obtain ⟨hcz26_0, hcz26_1, hfz26_0, hfz26_1⟩ := b2_ BK130.out
      go_wp2
      refine bodyPost_ret (results_cell_row rfl _ _ gb130 34 #[.int .i64 0, .int .u64 0] (0, 0) _ rfl (kP_ BK130.out) Try.underlying34 rfl (by kernel_rfl)) rfl ?_
      exact ⟨r3_, beT_⟩

end Go.Proofs.Ytgkjdpdmmlalcaa.F
end
section
namespace Go.Proofs.Ytgkjdpdmmlalcaa.F
open Go.RowKit Go.Proofs.YtgkjdpdmmlalcaaW.PrintWords Go.Proofs.YtgkjdpdmmlalcaaW.PrintLast Go.Proofs.YtgkjdpdmmlalcaaW.PrintMore
attribute [local go_sem] max2_int min2_int max_two min_two max_three min_three max_four min_four
set_option linter.unusedVariables false
set_option linter.unusedSimpArgs false

def host_word.f (l0_0 : List (S83)) (l0_1 : List (S88)) (a1 : Int) : Option (Int) := (host_cellAt.f l0_0 l0_1 a1).bind fun bt135 => (if bt135.2 = true then (if 0 ≤ bt135.1 then (if bt135.1 < (l0_1.length : Int) then (some ((rd_T88 l0_1 bt135.1).f1)) else (none)) else (none)) else (some 0))
set_option maxHeartbeats 8000000 in
set_option maxRecDepth 100000 in
theorem host_word.calls (A0_0 : Option Addr) (c0_0 : Nat) (l0_0 : List (S83)) (A0_1 : Option Addr) (c0_1 : Nat) (l0_1 : List (S88)) (a1 : Int) (r : Int) (w : World) (hr0_0 : Kd.C k83 w A0_0 l0_0.length l0_0) (hc0_0 : l0_0.length ≤ c0_0) (hr0_1 : Kd.C k88 w A0_1 l0_1.length l0_1) (hc0_1 : l0_1.length ≤ c0_1) (h : host_word.f l0_0 l0_1 a1 = some r) :
    Calls Try.prog 107 #[.agg #[.slice A0_0 l0_0.length c0_0, .slice A0_1 l0_1.length c0_1], .int .u64 a1] w fun e w' => e = .returned (.int .u64 r) ∧ Below w.heap.size w w' := by
  have hu25 := Try.underlying25
  have HR0_0 := Aside0.mk hr0_0
  have HC0_0 := Aside0.mk hc0_0
  clear hr0_0 hc0_0
  have HR0_1 := Aside0.mk hr0_1
  have HC0_1 := Aside0.mk hc0_1
  clear hr0_1 hc0_1
  have HB := Aside0.mk (Below.refl w.heap.size w)
  have H : ((host_cellAt.f l0_0 l0_1 a1).bind fun bt135 => (if bt135.2 = true then (if 0 ≤ bt135.1 then (if bt135.1 < (l0_1.length : Int) then (some ((rd_T88 l0_1 bt135.1).f1)) else (none)) else (none)) else (some 0))) = some r := h
  clear h
  replace H := Option.bind_eq_some_iff.mp H
  obtain ⟨⟨t135, t136⟩, A30, H⟩ := H
  have A3 := Aside0.mk A30
  clear A30
  by_cases c4 : t136 = true
  · subst c4
    replace H := hP_ H
    by_cases c5 : 0 ≤ t135
    · rw [if_pos c5] at H
      have c5b0 : decide (0 ≤ t135) = true := decide_eq_true c5
      clear c5
      by_cases c6 : t135 < (l0_1.length : Int)
      · rw [if_pos c6] at H
        have c6b0 : decide (t135 < (l0_1.length : Int)) = true := decide_eq_true c6
        clear c6
        obtain rfl := Option.some.inj H
        go_enter Try.func107, Try.ntmps107
        go_wp2_with (first | ((with_reducible refine gate_dst (N := 2) rfl ?_); refine bE_ 2 #[.slice A0_0 l0_0.length c0_0, .slice A0_1 l0_1.length c0_1] 25 ?_; intro gb134 hg w7 hbox hb; have BK134 := Aside0.mk hbox; have GW134 := geT_ w.heap.size hg; have GE134 := geT_ w.heap.size hg; replace HB := hB_ hb; clear hb hbox hg; obtain ⟨hcz8_0, hcz8_1, hfz8_0, hfz8_1⟩ := b2_ BK134.out) | ((with_reducible refine gate_callee (f := 144) rfl ?_); refine gL_ (some 10) Try.func144 #[.agg #[.slice A0_0 l0_0.length c0_0, .slice A0_1 l0_1.length c0_1], .int .u64 a1] ?_; (with_reducible refine (host_cellAt.calls _ _ l0_0 _ _ l0_1 a1 t135 true _ ?side1 ?side2 ?side3 ?side4 A3.out).mono ?_); (case side1 => exact cT_ (Kd.C_below HR0_0.out HB.out)); (case side2 => exact HC0_0.out); (case side3 => exact cT_ (Kd.C_below HR0_1.out HB.out)); (case side4 => exact HC0_1.out); rintro e w9 ⟨rfl, hb⟩; refine ⟨_, rfl, ?_⟩; replace BK134 := kB_ BK134 hb; replace HB := hB_ hb; (try clear hb); (try clear hb2); (try clear hk); (try clear hi); obtain ⟨hcz10_0, hcz10_1, hfz10_0, hfz10_1⟩ := b2_ BK134.out; have p137 : 0 ≤ (t135 : Int) := dT_; have q137 : t135 < (l0_1.length : Int) := dT_; obtain ⟨ad137, e137, hx137_0, hx137_1⟩ := at_T88 HR0_1.out t135 p137 q137; cases e137; replace hx137_0 := hX_ hx137_0; replace hx137_1 := hX_ hx137_1; replace p137 := eq_true p137; replace q137 := eq_true q137))
        go_ret
        exact ⟨r3_, beT_⟩
      rw [if_neg c6] at H
      exact absurd H (by simp)
    rw [if_neg c5] at H
    exact absurd H (by simp)
  replace c4 := Bool.eq_false_iff.mpr c4
  subst c4
  replace H := hN_ H
  obtain rfl := Option.some.inj H
  go_enter Try.func107, Try.ntmps107
  go_wp2_with (first | ((with_reducible refine gate_dst (N := 2) rfl ?_); refine bE_ 2 #[.slice A0_0 l0_0.length c0_0, .slice A0_1 l0_1.length c0_1] 25 ?_; intro gb134 hg w11 hbox hb; have BK134 := Aside0.mk hbox; have GW134 := geT_ w.heap.size hg; have GE134 := geT_ w.heap.size hg; replace HB := hB_ hb; clear hb hbox hg; obtain ⟨hcz12_0, hcz12_1, hfz12_0, hfz12_1⟩ := b2_ BK134.out) | ((with_reducible refine gate_callee (f := 144) rfl ?_); refine gL_ (some 10) Try.func144 #[.agg #[.slice A0_0 l0_0.length c0_0, .slice A0_1 l0_1.length c0_1], .int .u64 a1] ?_; (with_reducible refine (host_cellAt.calls _ _ l0_0 _ _ l0_1 a1 t135 false _ ?side1 ?side2 ?side3 ?side4 A3.out).mono ?_); (case side1 => exact cT_ (Kd.C_below HR0_0.out HB.out)); (case side2 => exact HC0_0.out); (case side3 => exact cT_ (Kd.C_below HR0_1.out HB.out)); (case side4 => exact HC0_1.out); rintro e w13 ⟨rfl, hb⟩; refine ⟨_, rfl, ?_⟩; replace BK134 := kB_ BK134 hb; replace HB := hB_ hb; (try clear hb); (try clear hb2); (try clear hk); (try clear hi)))
  go_ret
  exact ⟨r3_, beT_⟩

end Go.Proofs.Ytgkjdpdmmlalcaa.F
end
section
namespace Go.Proofs.Ytgkjdpdmmlalcaa.Opens
open Go.ChangeShapes Go.WideShapes Go.RowKit Go.Deep
open Go.Proofs.YtgkjdpdmmlalcaaW.PrintWords

def Opens {α : Type} (P : Program) (t : TypeId) (d : Kd α) (wf : α → Prop) : Prop :=
  P.cellsOf t = d.sz ∧ ∀ {H : Type} (enc : TypeId × Value → H) (w : World) (base : Nat) (spare : Nat → Bool) (held : Bool) (fuel : Nat) (cs : List Value) (x : DataW H × List MemPlace),
    DataW.trod enc P w base spare held fuel t cs = some x → ∃ a : α, d.K w a cs ∧ wf a
theorem opens_int {P : Program} {t : TypeId} {k : IntKind} (hc : P.cellsOf t = 1) (ht : P.underlying t = some (.int k)) : Opens P t (Kd.int k) (fun n => (Lit.int k n).wf = true) :=
  ⟨hc, fun enc w base spare held fuel cs x h => by
    obtain ⟨n, rfl, _, hw⟩ := DataW.trod_int ht h
    exact ⟨n, rfl, hw⟩⟩
theorem add_add (a : Addr) (i j : Nat) : (a.add i).add j = a.add (i + j) := by
  obtain ⟨b, o, s⟩ := a
  unfold Addr.add
  by_cases h1 : i = 0
  · subst h1
    simp
  by_cases h2 : j = 0
  · subst h2
    simp [h1]
  · simp [h1, h2, Nat.add_assoc]
theorem list_of {α : Type} {p : Nat → α → Prop} : ∀ (n : Nat), (∀ i, i < n → ∃ a, p i a) → ∃ l : List α, l.length = n ∧ ∀ (i : Nat) (a : α), l[i]? = some a → p i a
  | 0, _ => ⟨[], rfl, fun i a h => by simp at h⟩
  | n + 1, h => by
    obtain ⟨l, hl, hp⟩ := list_of n (fun i hi => h i (by omega))
    obtain ⟨a, ha⟩ := h n (by omega)
    refine ⟨l ++ [a], by simp [hl], fun i b hb => ?_⟩
    rcases Nat.lt_or_ge i n with hi | hi
    · rw [List.getElem?_append_left (by omega)] at hb
      exact hp i b hb
    · rw [List.getElem?_append_right (by omega)] at hb
      have : i = n := by
        rcases Nat.lt_or_ge (i - l.length) 1 with h1 | h1
        · omega
        · rw [List.getElem?_eq_none (by simpa using h1)] at hb
          cases hb
      subst this
      simp [hl] at hb
      subst hb
      exact ha
theorem opens_slice {α : Type} {P : Program} {t e : TypeId} {d : Kd α} {wf : α → Prop} (hc : P.cellsOf t = 1) (ht : P.underlying t = some (.slice e)) (he : Opens P e d wf) :
    Opens P t (Kd.slice e d) (fun l => l.length ≤ 9223372036854775807 ∧ ∀ x ∈ l, wf x) :=
  ⟨hc, fun enc w base spare held fuel cs x h => by
    rcases open_slice ht h with ⟨rfl, _⟩ | ⟨a, len, cap, m, n, D, Pl, rfl, _, hl, hm, hmm, _, hx⟩
    · exact ⟨[], ⟨none, 0, rfl, Nat.le_refl _, Kd.C_nil d w⟩, by simp, by simp⟩
    · have hlm : len ≤ m := by rw [hmm]; split <;> omega
      obtain ⟨l, hll, hp⟩ := list_of (p := fun i (y : α) => wf y ∧ ∃ c, c.length = d.sz ∧ d.K w y c ∧ ∀ (j : Nat) (u : Value), c[j]? = some u → w.cell? (a.add (i * d.sz + j)) = some u) len (fun i hi => by
        obtain ⟨cs', h1, h2⟩ := hx i (by omega)
        obtain ⟨y, hK, hw⟩ := he.2 enc w base spare held n cs' _ h2
        obtain ⟨_, hlen, hcell⟩ := World.cells?_some h1
        refine ⟨y, hw, cs', d.K_len hK, hK, fun j u hu => ?_⟩
        have hj : j < cs'.length := by
          rcases Nat.lt_or_ge j cs'.length with h' | h'
          · exact h'
          · rw [List.getElem?_eq_none h'] at hu
            cases hu
        have z := hcell j (by omega)
        rw [hu] at z
        rw [← he.1, ← z]
        congr 1
        exact (add_add a _ _).symm)
      have hmax : len ≤ 9223372036854775807 := by unfold maxLen at hm; omega
      refine ⟨l, ⟨some a, cap, by rw [hll], by omega, hll ▸ rfl, by omega, fun _ => ⟨a, rfl, fun j p hj => ?_⟩⟩, by omega, fun y hy => ?_⟩
      · exact (hp j p hj).2
      · obtain ⟨i, hi, e⟩ := List.getElem_of_mem hy
        exact (hp i y (by rw [List.getElem?_eq_getElem hi, e])).1⟩

structure OpensF {α : Type} (P : Program) (fl : List Field) (off : Nat) (d : Kd α) (wf : α → Prop) : Prop where
  out : ∀ {H : Type} (enc : TypeId × Value → H) (w : World) (base : Nat) (spare : Nat → Bool) (held : Bool) (fuel : Nat) (cs : List Value), cs.length = off + d.sz →
    (∀ (i : Nat) (f : Field), fl[i]? = some f → ∃ y, DataW.trod enc P w base spare held fuel f.type ((cs.drop f.offset).take (P.cellsOf f.type)) = some y) → ∃ a : α, d.K w a (cs.drop off) ∧ wf a
theorem opens_one {α : Type} {P : Program} {f : Field} {off : Nat} {d : Kd α} {wf : α → Prop} (ho : f.offset = off) (h : Opens P f.type d wf) : OpensF P [f] off d wf := by
  constructor
  intro H enc w base spare held fuel cs hl hf
  obtain ⟨y, hy⟩ := hf 0 f rfl
  obtain ⟨a, hK, hw⟩ := h.2 enc w base spare held fuel _ y hy
  have e : (cs.drop f.offset).take (P.cellsOf f.type) = cs.drop off := by
    rw [ho]
    apply List.take_of_length_le
    rw [h.1, List.length_drop]
    omega
  rw [e] at hK
  exact ⟨a, hK, hw⟩
theorem opens_cons {α β : Type} {P : Program} {f : Field} {fl : List Field} {off : Nat} {d : Kd α} {d' : Kd β} {wf : α → Prop} {wf' : β → Prop} (ho : f.offset = off) (h : Opens P f.type d wf) (hr : OpensF P fl (off + d.sz) d' wf') :
    OpensF P (f :: fl) off (Kd.pair d d') (fun x => wf x.1 ∧ wf' x.2) := by
  constructor
  intro H enc w base spare held fuel cs hl hf
  have hl' : cs.length = off + (d.sz + d'.sz) := hl
  obtain ⟨y, hy⟩ := hf 0 f rfl
  obtain ⟨a, hK, hw⟩ := h.2 enc w base spare held fuel _ y hy
  obtain ⟨b, hK', hw'⟩ := hr.out enc w base spare held fuel cs (by omega) (fun i g hg => hf (i + 1) g (by simpa using hg))
  refine ⟨(a, b), ⟨(cs.drop off).take d.sz, cs.drop (off + d.sz), ?_, ?_, hK'⟩, hw, hw'⟩
  · rw [← List.drop_drop, List.take_append_drop]
  · rw [ho, h.1] at hK
    exact hK
theorem opens_struct {α : Type} {P : Program} {t : TypeId} {fs : Array Field} {d : Kd α} {wf : α → Prop} (hc : P.cellsOf t = d.sz) (ht : P.underlying t = some (.struct fs)) (h : OpensF P fs.toList 0 d wf) : Opens P t d wf :=
  ⟨hc, fun enc w base spare held fuel cs x hx => by
    obtain ⟨xs, n, _, _, hl, hlen, hf⟩ := DataW.trod_struct ht hx
    have z := h.out enc w base spare held n cs (by omega) (fun i f hi => by
      have hi' : fs[i]? = some f := by simpa using hi
      have hlt : i < fs.size := by
        rcases Nat.lt_or_ge i fs.size with h' | h'
        · exact h'
        · rw [Array.getElem?_eq_none h'] at hi'
          cases hi'
      rw [hf i f hi', List.getElem?_eq_getElem (by omega)]
      exact ⟨_, rfl⟩)
    simpa using z⟩
theorem opens_iso {α β : Type} {P : Program} {t : TypeId} {d : Kd α} {wf : α → Prop} {f : β → α} (g : α → β) (hg : ∀ a, f (g a) = a) (h : Opens P t d wf) : Opens P t (Kd.iso d f) (fun b => wf (f b)) :=
  ⟨h.1, fun enc w base spare held fuel cs x hx => by
    obtain ⟨a, hK, hw⟩ := h.2 enc w base spare held fuel cs x hx
    exact ⟨g a, by show d.K w (f (g a)) cs; rw [hg]; exact hK, by show wf (f (g a)); rw [hg]; exact hw⟩⟩

theorem Opens.imp {α : Type} {P : Program} {t : TypeId} {d : Kd α} {wf wf' : α → Prop} (h : Opens P t d wf) (hi : ∀ a, wf a → wf' a) : Opens P t d wf' :=
  ⟨h.1, fun enc w base spare held fuel cs x hx => by
    obtain ⟨a, hK, hw⟩ := h.2 enc w base spare held fuel cs x hx
    exact ⟨a, hK, hi a hw⟩⟩
theorem wf_u32 {n : Int} (h : (Lit.int .u32 n).wf = true) : 0 ≤ n ∧ n ≤ 4294967295 := by
  simp only [Lit.wf, Bool.and_eq_true, decide_eq_true_eq] at h
  exact ⟨h.1, h.2⟩
theorem opens_u32 {P : Program} {t : TypeId} (hc : P.cellsOf t = 1) (ht : P.underlying t = some (.int .u32)) : Opens P t (Kd.int .u32) (fun n => 0 ≤ n ∧ n ≤ 4294967295) := (opens_int hc ht).imp (fun _ h => wf_u32 h)
theorem wf_u64 {n : Int} (h : (Lit.int .u64 n).wf = true) : 0 ≤ n ∧ n ≤ 18446744073709551615 := by
  simp only [Lit.wf, Bool.and_eq_true, decide_eq_true_eq] at h
  exact ⟨h.1, h.2⟩
theorem opens_u64 {P : Program} {t : TypeId} (hc : P.cellsOf t = 1) (ht : P.underlying t = some (.int .u64)) : Opens P t (Kd.int .u64) (fun n => 0 ≤ n ∧ n ≤ 18446744073709551615) := (opens_int hc ht).imp (fun _ h => wf_u64 h)
theorem wf_i64 {n : Int} (h : (Lit.int .i64 n).wf = true) : (-9223372036854775808) ≤ n ∧ n ≤ 9223372036854775807 := by
  simp only [Lit.wf, Bool.and_eq_true, decide_eq_true_eq] at h
  exact ⟨h.1, h.2⟩
theorem opens_i64 {P : Program} {t : TypeId} (hc : P.cellsOf t = 1) (ht : P.underlying t = some (.int .i64)) : Opens P t (Kd.int .i64) (fun n => (-9223372036854775808) ≤ n ∧ n ≤ 9223372036854775807) := (opens_int hc ht).imp (fun _ h => wf_i64 h)

theorem arg_struct {α H : Type} {P : Program} {w : World} {base b0 : Nat} {r : Reach} {spare : Nat → Bool} {held : Bool} {enc : TypeId × Value → H} {t : TypeId} {fs : Array Field} {d : Kd α} {wf : α → Prop} {v : Value} {x : DataW H} {p : List MemPlace}
    (ht : P.underlying t = some (.struct fs)) (hv : Value.okWide P w r b0 t v) (ho : Opens P t d wf) (h : DataW.Trod enc P w base spare held t v x p) : ∃ (cs : List Value) (a : α), v = .agg cs.toArray ∧ d.K w a cs ∧ wf a := by
  obtain ⟨cs, rfl, hsz⟩ := okWide_struct ht hv
  obtain ⟨fuel, hf⟩ := h
  obtain ⟨a, hK, hw⟩ := ho.2 enc w base spare held fuel _ _ hf
  exact ⟨cs.toList, a, by simp, by simpa [Value.cells] using hK, hw⟩
end Go.Proofs.Ytgkjdpdmmlalcaa.Opens
end
section
namespace Go.Proofs.Ytgkjdpdmmlalcaa.F
open Go.RowKit Go.Proofs.YtgkjdpdmmlalcaaW.PrintWords Go.Proofs.YtgkjdpdmmlalcaaW.PrintLast Go.Proofs.YtgkjdpdmmlalcaaW.PrintMore

def wfS83 (x : S83) : Prop := (0 ≤ x.f0 ∧ x.f0 ≤ 18446744073709551615) ∧ ((-9223372036854775808) ≤ x.f1 ∧ x.f1 ≤ 9223372036854775807)
theorem opens_S83 : Opens.Opens Try.prog 83 k83 wfS83 := Opens.opens_iso (fun a => (⟨a.1, a.2⟩ : S83)) (fun _ => rfl) (Opens.opens_struct (by kernel_rfl) Try.underlying83 (Opens.opens_cons rfl (Opens.opens_u64 (by kernel_rfl) (by kernel_rfl)) (Opens.opens_one rfl (Opens.opens_i64 (by kernel_rfl) (by kernel_rfl)))))
def wfS88 (x : S88) : Prop := (0 ≤ x.f0 ∧ x.f0 ≤ 18446744073709551615) ∧ (0 ≤ x.f1 ∧ x.f1 ≤ 18446744073709551615)
theorem opens_S88 : Opens.Opens Try.prog 88 k88 wfS88 := Opens.opens_iso (fun a => (⟨a.1, a.2⟩ : S88)) (fun _ => rfl) (Opens.opens_struct (by kernel_rfl) Try.underlying88 (Opens.opens_cons rfl (Opens.opens_u64 (by kernel_rfl) (by kernel_rfl)) (Opens.opens_one rfl (Opens.opens_u64 (by kernel_rfl) (by kernel_rfl)))))
def wfS41 (x : S41) : Prop := (0 ≤ x.f0 ∧ x.f0 ≤ 4294967295) ∧ ((-9223372036854775808) ≤ x.f1 ∧ x.f1 ≤ 9223372036854775807)
theorem opens_S41 : Opens.Opens Try.prog 41 k41 wfS41 := Opens.opens_iso (fun a => (⟨a.1, a.2⟩ : S41)) (fun _ => rfl) (Opens.opens_struct (by kernel_rfl) Try.underlying41 (Opens.opens_cons rfl (Opens.opens_u32 (by kernel_rfl) (by kernel_rfl)) (Opens.opens_one rfl (Opens.opens_i64 (by kernel_rfl) (by kernel_rfl)))))
end Go.Proofs.Ytgkjdpdmmlalcaa.F
end
section
namespace Go.Proofs.Ytgkjdpdmmlalcaa.F
open Go.RowKit Go.Proofs.YtgkjdpdmmlalcaaW.PrintWords Go.Proofs.YtgkjdpdmmlalcaaW.PrintLast Go.Proofs.YtgkjdpdmmlalcaaW.PrintMore
set_option linter.unusedVariables false
theorem bv_andNot {w : Nat} (x y : BitVec w) : (x &&& ~~~y).toNat + (x &&& y).toNat = x.toNat := by
  have h : (x &&& ~~~y) &&& (x &&& y) = 0#w := by
    ext i hi
    simp
    cases x[i] <;> cases y[i] <;> simp
  rw [← BitVec.toNat_add_of_and_eq_zero h, BitVec.add_eq_or_of_and_eq_zero _ _ h]
  congr 1
  ext i hi
  simp
  cases x[i] <;> cases y[i] <;> simp
theorem andNot64 (a b : Nat) (ha : a < 2 ^ 64) (hb : b < 2 ^ 64) : Go.bits .andNot .u64 a b = (a : Int) - ((a &&& b : Nat) : Int) := by
  have h := bv_andNot (BitVec.ofNat 64 a) (BitVec.ofNat 64 b)
  have e : (BitVec.ofNat 64 a &&& BitVec.ofNat 64 b).toNat = a &&& b := by
    rw [BitVec.toNat_and, BitVec.toNat_ofNat, BitVec.toNat_ofNat, Nat.mod_eq_of_lt ha, Nat.mod_eq_of_lt hb]
  rw [e, BitVec.toNat_ofNat, Nat.mod_eq_of_lt ha] at h
  show IntKind.u64.wrap (((BitVec.ofInt 64 (a : Int) &&& ~~~BitVec.ofInt 64 (b : Int)).toNat : Nat) : Int) = _
  rw [BitVec.ofInt_natCast, BitVec.ofInt_natCast, u64_keep _ (by omega) (by omega)]
  omega
theorem nat_mask_at (x i j : Nat) : x &&& ((2 ^ i - 1) * 2 ^ j) = x / 2 ^ j % 2 ^ i * 2 ^ j := by
  rw [← Nat.shiftLeft_eq, ← Nat.and_two_pow_sub_one_eq_mod, ← Nat.shiftRight_eq_div_pow, ← Nat.shiftLeft_eq]
  apply Nat.eq_of_testBit_eq
  intro k
  simp only [Nat.testBit_and, Nat.testBit_shiftLeft, Nat.testBit_shiftRight, Nat.testBit_two_pow_sub_one]
  by_cases h : j ≤ k
  · simp [h]
  simp [h]
theorem without64 {x : Int} (i j : Nat) (hij : i + j ≤ 64) (h0 : 0 ≤ x) (h1 : x ≤ 18446744073709551615) : Go.bits .andNot .u64 x ((2 ^ i - 1) * 2 ^ j) = x - x / 2 ^ j % 2 ^ i * 2 ^ j := by
  obtain ⟨n, rfl⟩ := Int.eq_ofNat_of_zero_le h0
  have hp : 0 < 2 ^ i := Nat.two_pow_pos i
  have e : (((2 : Int) ^ i - 1) * 2 ^ j) = (((2 ^ i - 1) * 2 ^ j : Nat) : Int) := by
    rw [Int.natCast_mul, Int.natCast_sub hp]
    simp
  have hb : (2 ^ i - 1) * 2 ^ j < 2 ^ 64 := by
    have h2 : (2 ^ i - 1) * 2 ^ j < 2 ^ i * 2 ^ j := Nat.mul_lt_mul_of_pos_right (by omega) (Nat.two_pow_pos j)
    rw [← Nat.pow_add] at h2
    exact Nat.lt_of_lt_of_le h2 (Nat.pow_le_pow_right (by decide) hij)
  rw [e, andNot64 n _ (by omega) hb, nat_mask_at]
  simp
end Go.Proofs.Ytgkjdpdmmlalcaa.F
end
section
set_option linter.unusedVariables false
namespace Go.Proofs.Ytgkjdpdmmlalcaa.F
def byteAt (w : Nat) (k : Nat) : Nat := w / 256 ^ k % 256
def leN : Nat → (Nat → Nat) → Nat
  | 0, _ => 0
  | n + 1, f => f 0 + 256 * leN n (fun i => f (i + 1))
theorem pos256 (n : Nat) : 0 < 256 ^ n := Nat.pow_pos (by decide)
theorem leN_congr : ∀ {n : Nat} {f g : Nat → Nat}, (∀ i, i < n → f i = g i) → leN n f = leN n g
  | 0, _, _, _ => rfl
  | n + 1, f, g, h => by
    unfold leN
    rw [h 0 (by omega), leN_congr (n := n) (fun i hi => h (i + 1) (by omega))]
theorem leN_bytes : ∀ (n o w : Nat), leN n (fun i => byteAt w (o + i)) = w / 256 ^ o % 256 ^ n
  | 0, o, w => by simp [leN, Nat.mod_one]
  | n + 1, o, w => by
    unfold leN
    have e : (fun i => byteAt w (o + (i + 1))) = fun i => byteAt w ((o + 1) + i) := by
      funext i
      rw [Nat.add_assoc, Nat.add_comm 1 i]
    rw [e, leN_bytes n (o + 1) w]
    show byteAt w (o + 0) + 256 * (w / 256 ^ (o + 1) % 256 ^ n) = _
    rw [Nat.add_zero]
    unfold byteAt
    rw [Nat.pow_succ 256 o, ← Nat.div_div_eq_div_mul, Nat.pow_succ 256 n, Nat.mul_comm (256 ^ n) 256, Nat.mod_mul]
theorem word_bytes {w : Nat} (h : w < 256 ^ 8) : leN 8 (byteAt w) = w := by
  have := leN_bytes 8 0 w
  simp only [Nat.zero_add, Nat.pow_zero, Nat.div_one] at this
  rw [this, Nat.mod_eq_of_lt h]
theorem word_ext {w x : Nat} (hw : w < 256 ^ 8) (hx : x < 256 ^ 8) (h : ∀ k, k < 8 → byteAt w k = byteAt x k) : w = x := by
  rw [← word_bytes hw, ← word_bytes hx]
  exact leN_congr h
theorem byteAt_lt (w k : Nat) : byteAt w k < 256 := Nat.mod_lt _ (by decide)
theorem byteAt_join {a o c : Nat} (ha : a < 256 ^ o) (k : Nat) : byteAt (a + 256 ^ o * c) k = if k < o then byteAt a k else byteAt c (k - o) := by
  unfold byteAt
  by_cases hk : k < o
  · rw [if_pos hk]
    have e : 256 ^ o = 256 ^ k * (256 * 256 ^ (o - k - 1)) := by
      rw [← Nat.mul_assoc, ← Nat.pow_succ, ← Nat.pow_add]
      congr 1
      omega
    rw [e, Nat.mul_assoc, Nat.add_mul_div_left _ _ (pos256 k), Nat.mul_assoc, Nat.add_mul_mod_self_left]
  rw [if_neg hk]
  have e : 256 ^ k = 256 ^ o * 256 ^ (k - o) := by
    rw [← Nat.pow_add]
    congr 1
    omega
  rw [e, ← Nat.div_div_eq_div_mul, Nat.add_mul_div_left _ _ (pos256 o), Nat.div_eq_of_lt ha, Nat.zero_add]
theorem byteAt_mod (w o k : Nat) (hk : k < o) : byteAt (w % 256 ^ o) k = byteAt w k := by
  have h := byteAt_join (a := w % 256 ^ o) (c := w / 256 ^ o) (Nat.mod_lt _ (pos256 o)) k
  rw [Nat.mod_add_div, if_pos hk] at h
  exact h.symm
theorem byteAt_div (w o k : Nat) : byteAt (w / 256 ^ o) k = byteAt w (o + k) := by
  unfold byteAt
  rw [Nat.div_div_eq_div_mul, ← Nat.pow_add]
def putIn (w o m v : Nat) : Nat := w % 256 ^ o + 256 ^ o * (v % 256 ^ m + 256 ^ m * (w / 256 ^ (o + m)))
theorem byteAt_putIn (w o m v k : Nat) : byteAt (putIn w o m v) k = if k < o then byteAt w k else if k < o + m then byteAt v (k - o) else byteAt w k := by
  unfold putIn
  rw [byteAt_join (Nat.mod_lt _ (pos256 o))]
  by_cases h1 : k < o
  · rw [if_pos h1, if_pos h1, byteAt_mod _ _ _ h1]
  rw [if_neg h1, if_neg h1, byteAt_join (Nat.mod_lt _ (pos256 m))]
  by_cases h2 : k < o + m
  · rw [if_pos h2, if_pos (by omega), byteAt_mod _ _ _ (by omega)]
  rw [if_neg h2, if_neg (by omega), byteAt_div]
  congr 1
  omega
theorem putIn_lt {w o m v : Nat} (h : w < 256 ^ 8) (ho : o + m ≤ 8) : putIn w o m v < 256 ^ 8 := by
  unfold putIn
  have h1 : w / 256 ^ (o + m) < 256 ^ (8 - (o + m)) := by
    rw [Nat.div_lt_iff_lt_mul (pos256 _), ← Nat.pow_add]
    rwa [show 8 - (o + m) + (o + m) = 8 by omega]
  have h2 := Nat.mod_lt w (pos256 o)
  have h3 := Nat.mod_lt v (pos256 m)
  have h4 : v % 256 ^ m + 256 ^ m * (w / 256 ^ (o + m)) < 256 ^ m * 256 ^ (8 - (o + m)) := by
    have : 256 ^ m * (w / 256 ^ (o + m)) + 256 ^ m ≤ 256 ^ m * 256 ^ (8 - (o + m)) := by
      rw [← Nat.mul_succ]
      exact Nat.mul_le_mul_left _ h1
    omega
  have h5 : w % 256 ^ o + 256 ^ o * (v % 256 ^ m + 256 ^ m * (w / 256 ^ (o + m))) < 256 ^ o * (256 ^ m * 256 ^ (8 - (o + m))) := by
    have : 256 ^ o * (v % 256 ^ m + 256 ^ m * (w / 256 ^ (o + m))) + 256 ^ o ≤ 256 ^ o * (256 ^ m * 256 ^ (8 - (o + m))) := by
      rw [← Nat.mul_succ]
      exact Nat.mul_le_mul_left _ h4
    omega
  rw [← Nat.pow_add, ← Nat.pow_add, show o + (m + (8 - (o + m))) = 8 by omega] at h5
  exact h5
theorem putIn_eq (w o m v : Nat) : putIn w o m v = w - w / 256 ^ o % 256 ^ m * 256 ^ o + v % 256 ^ m * 256 ^ o := by
  unfold putIn
  have e1 := Nat.mod_add_div w (256 ^ o)
  have e2 := Nat.mod_add_div (w / 256 ^ o) (256 ^ m)
  rw [Nat.div_div_eq_div_mul, ← Nat.pow_add] at e2
  rw [← e2, Nat.mul_add] at e1
  rw [Nat.mul_add, Nat.mul_comm (w / 256 ^ o % 256 ^ m), Nat.mul_comm (v % 256 ^ m)]
  omega
end Go.Proofs.Ytgkjdpdmmlalcaa.F
end
section
namespace Go.Proofs.Ytgkjdpdmmlalcaa.F
open Go.RowKit Go.Shelf Go.Proofs.YtgkjdpdmmlalcaaW.PrintWords Go.Proofs.YtgkjdpdmmlalcaaW.PrintLast Go.Proofs.YtgkjdpdmmlalcaaW.PrintMore
set_option linter.unusedVariables false
set_option linter.unusedSimpArgs false
abbrev SM := S83
abbrev SC := S88
abbrev wfM := wfS83
abbrev wfC := wfS88
abbrev mpV (x : SM) : Int := x.f1
abbrev clV (x : SC) : Int := x.f1
def wrd (m : List SC) (a : Int) : Int := look clK clV a m
def prt (l : List SM) (a : Int) : Int := look mpK mpV a l
def faultS (l : List SM) (a need : Int) : Int := if has mpK (a / 16384) l = true then (if Go.bits .and .i64 (prt l (a / 16384)) need = 0 then 2 else 0) else 1
def askS (l : List SM) (at_ need : Int) : Nat → Int → Int × Int
  | 0, _ => (0, 0)
  | r + 1, i => if (at_ + i) % 18446744073709551616 < at_ then (1, (at_ + i) % 18446744073709551616) else if faultS l ((at_ + i) % 18446744073709551616) need = 0 then askS l at_ need r (i + 1) else (faultS l ((at_ + i) % 18446744073709551616) need, (at_ + i) % 18446744073709551616)
theorem quo_u64 {a b : Int} (h0 : 0 ≤ a) (h1 : a < 18446744073709551616) (hb : 0 < b) : IntKind.u64.wrap (Int.tdiv a b) = a / b := by
  rw [u64w, Int.tdiv_eq_ediv_of_nonneg h0]
  have := Int.ediv_nonneg h0 (Int.le_of_lt hb)
  have h2 : a / b ≤ a := Int.ediv_le_self b h0
  omega
theorem placeFrom_has (a : Int) : ∀ (l : List SM) (i : Nat), decide (placeFrom a l i < 0) = !has mpK a l
  | [], _ => rfl
  | x :: l, i => by
    unfold placeFrom has
    rw [List.any_cons]
    split
    · rename_i h
      rw [decide_eq_true (show mpK x = a from h)]
      simp
    · rename_i h
      rw [decide_eq_false (show ¬ mpK x = a from h), Bool.false_or]
      exact placeFrom_has a l (i + 1)
theorem placeR_has (l : List SM) (a : Int) : decide (placeR l a < 0) = !has mpK a l := placeFrom_has a l 0
theorem ref_place (a : Int) (l : List SM) (m : List SC) (hl : l.length ≤ 1000000) : ∀ k, l.length < k → ferryref03_Place.f k l m a = some (placeR l a) := fun k hk => place_l0 a l m hl k 0 (Nat.zero_le _) (by omega)
theorem low_hit {α : Type} {key val : α → Int} {l : List α} {p : Int} (hr : Rises key l) (h : has key p l = true) : ∃ hj : lowB key p l < l.length, key l[lowB key p l] = p ∧ val l[lowB key p l] = look key val p l := by
  have h1 := has_lowB key (k := p) hr
  have h2 := look_lowB key val (k := p) hr
  rw [h] at h1
  rcases Nat.lt_or_ge (lowB key p l) l.length with hlt | hge
  · refine ⟨hlt, ?_⟩
    rw [List.getElem?_eq_getElem hlt] at h1 h2
    dsimp only at h1 h2
    have h3 := of_decide_eq_true h1.symm
    rw [if_pos h3] at h2
    exact ⟨h3, h2.symm⟩
  · rw [List.getElem?_eq_none hge] at h1
    simp at h1
theorem host_ask_l0 (l : List SM) (m : List SC) (hl : l.length ≤ 1000000) (hr : Rises mpK l) {a : Int} (need : Int) (n : Nat) (hn : n ≤ 8) (h0 : 0 ≤ a) (h1 : a < 18446744073709551616) :
    ∀ (k i : Nat), i ≤ n → 2 * (n - i) < k → host_ask.l0 k a need (n : Int) (i : Int) l m = some (askS l a need (n - i) i)
  | 0, i, _, h => by omega
  | 1, i, hi, h => by
    unfold host_ask.l0
    obtain rfl : i = n := by omega
    rw [if_neg (by omega), Nat.sub_self]
    rfl
  | k + 2, i, hi, h => by
    unfold host_ask.l0
    by_cases hlt : i < n
    · have hw : IntKind.u64.wrap ((i : Int) + 1) = ((i + 1 : Nat) : Int) := by rw [u64w]; omega
      have hq : IntKind.u64.wrap (a + (i : Int)) = (a + (i : Int)) % 18446744073709551616 := u64w _
      have ih := host_ask_l0 l m hl hr need n hn h0 h1 k (i + 1) hlt (by omega)
      rw [if_pos (by omega), hq, quo_u64 (by omega) (by omega) (by omega), map_at_some m _ hl ((risesB_iff l).2 hr), Option.bind_some, show n - i = (n - (i + 1)) + 1 by omega]
      unfold askS
      generalize (a + (i : Int)) % 18446744073709551616 = b
      dsimp only
      unfold faultS
      cases hh : has mpK (b / 16384) l with
      | false =>
        rw [if_neg (show ¬ (false = true) by decide), if_neg (show ¬ (false = true) by decide)]
        unfold host_ask.j1
        rw [if_pos rfl]
        split
        · rfl
        · rw [if_neg (by decide)]
      | true =>
        rw [if_pos rfl, if_pos rfl]
        unfold host_ask.j1
        obtain ⟨hj, h3, h4⟩ := low_hit (val := mpV) hr hh
        by_cases hb : b < a
        · rw [decide_eq_true hb, if_pos rfl, if_pos hb]
          try rfl
        rw [decide_eq_false hb, if_neg (show ¬ (false = true) by decide), if_neg hb, if_pos (by omega), if_pos (by omega), mp_getR hj]
        have h5 : (l[lowB mpK (b / 16384) l]).f1 = prt l (b / 16384) := h4
        rw [h5, hw, ih]
        by_cases hz : Go.bits .and .i64 (prt l (b / 16384)) need = 0
        · rw [if_pos hz, if_pos hz, if_neg (by decide)]
        rw [if_neg hz, if_neg hz, if_pos rfl]
        rfl
    obtain rfl : i = n := by omega
    rw [if_neg (by omega), Nat.sub_self]
    rfl
theorem host_ask_spec (l : List SM) (m : List SC) (hl : l.length ≤ 1000000) (hr : Rises mpK l) {a : Int} (need : Int) (n : Nat) (hn : n ≤ 8) (h0 : 0 ≤ a) (h1 : a < 18446744073709551616) (k : Nat) (hk : 2 * n < k) :
    host_ask.f k l m a (n : Int) need = some (askS l a need n 0) := by
  unfold host_ask.f
  rw [show IntKind.u64.wrap (n : Int) = (n : Int) by rw [u64w]; omega]
  exact host_ask_l0 l m hl hr need n hn h0 h1 k 0 (Nat.zero_le _) (by omega)
theorem host_word_spec (l : List SM) (m : List SC) (hm : m.length ≤ 1000000) (hr : Rises clK m) (a : Int) : host_word.f l m a = some (wrd m a) := by
  unfold host_word.f host_cellAt.f
  rw [if_pos ⟨hm, (risesB_iff m).2 hr⟩, Option.bind_some]
  dsimp only
  unfold wrd
  cases hh : has clK a m with
  | false =>
    rw [if_neg (by simp)]
    rw [look_none clK clV (fun x hx => ?_)]
    have := List.any_eq_false.1 hh x hx
    simpa using this
  | true =>
    obtain ⟨hj, h3, h4⟩ := low_hit (val := clV) hr hh
    rw [if_pos rfl, if_pos (by omega), if_pos (by omega), cl_getR hj]
    exact congrArg some h4
end Go.Proofs.Ytgkjdpdmmlalcaa.F
end
section
namespace Go.Proofs.Ytgkjdpdmmlalcaa.F
open Go.RowKit Go.Proofs.YtgkjdpdmmlalcaaW.PrintWords Go.Proofs.YtgkjdpdmmlalcaaW.PrintLast Go.Proofs.YtgkjdpdmmlalcaaW.PrintMore
attribute [local go_sem] max2_int min2_int max_two min_two max_three min_three max_four min_four
set_option linter.unusedVariables false
set_option linter.unusedSimpArgs false

theorem eqA83 (d : Nat) (w : World) (x0 y0 : Int) (x1 y1 : Int) :
    (Op.equalIn (d + 2) 83 (.agg #[.int .u64 x0, .int .i64 x1]) (.agg #[.int .u64 y0, .int .i64 y1])).run Try.prog w = .ok (x0 == y0 && (x1 == y1)) w := by
  refine eqA_of Try.underlying83 (by kernel_rfl) ?_
  refine eqf_cons (by rfl) (by go_simp; rfl) (by go_simp; rfl) (by go_simp) ?_
  exact eqf_last (by rfl) (by go_simp; rfl) (by go_simp; rfl) (by go_simp)
end Go.Proofs.Ytgkjdpdmmlalcaa.F
end
section
namespace Go.Proofs.Ytgkjdpdmmlalcaa.F
open Go.RowKit Go.Proofs.YtgkjdpdmmlalcaaW.PrintWords Go.Proofs.YtgkjdpdmmlalcaaW.PrintLast Go.Proofs.YtgkjdpdmmlalcaaW.PrintMore
attribute [local go_sem] max2_int min2_int max_two min_two max_three min_three max_four min_four
set_option linter.unusedVariables false
set_option linter.unusedSimpArgs false

theorem eqA88 (d : Nat) (w : World) (x0 y0 : Int) (x1 y1 : Int) :
    (Op.equalIn (d + 2) 88 (.agg #[.int .u64 x0, .int .u64 x1]) (.agg #[.int .u64 y0, .int .u64 y1])).run Try.prog w = .ok (x0 == y0 && (x1 == y1)) w := by
  refine eqA_of Try.underlying88 (by kernel_rfl) ?_
  refine eqf_cons (by rfl) (by go_simp; rfl) (by go_simp; rfl) (by go_simp) ?_
  exact eqf_last (by rfl) (by go_simp; rfl) (by go_simp; rfl) (by go_simp)
end Go.Proofs.Ytgkjdpdmmlalcaa.F
end
section
namespace Go.Proofs.Ytgkjdpdmmlalcaa.F
open Go.RowKit Go.Proofs.YtgkjdpdmmlalcaaW.PrintWords Go.Proofs.YtgkjdpdmmlalcaaW.PrintLast Go.Proofs.YtgkjdpdmmlalcaaW.PrintMore
attribute [local go_sem] max2_int min2_int max_two min_two max_three min_three max_four min_four
set_option linter.unusedVariables false
set_option linter.unusedSimpArgs false

attribute [local go_sem high] eqA83 eqA88
mutual
def ferryref03_Same.j0 : Nat → Bool → List (S83) → List (S88) → List (S83) → List (S88) → Option (Bool)
  | 0, _, _, _, _, _ => none
  | k + 1, x22, x335000, x335001, x336000, x336001 => if x22 = true then (some false) else (ferryref03_Same.l0 k 0 x335000 x335001 x336000 x336001)
def ferryref03_Same.l0 : Nat → Int → List (S83) → List (S88) → List (S83) → List (S88) → Option (Bool)
  | 0, _, _, _, _, _ => none
  | k + 1, x5, x335000, x335001, x336000, x336001 => if x5 < (x335000.length : Int) then (if 0 ≤ x5 then (if x5 < (x336000.length : Int) then (if (!(((rd_T83 x335000 x5).f0) == ((rd_T83 x336000 x5).f0)) || (!(((rd_T83 x335000 x5).f1) == ((rd_T83 x336000 x5).f1)))) = true then (some false) else (ferryref03_Same.l0 k (wrap64 (x5 + 1)) x335000 x335001 x336000 x336001)) else (none)) else (none)) else (ferryref03_Same.l1 k 0 x335000 x335001 x336000 x336001)
def ferryref03_Same.l1 : Nat → Int → List (S83) → List (S88) → List (S83) → List (S88) → Option (Bool)
  | 0, _, _, _, _, _ => none
  | k + 1, x6, x335000, x335001, x336000, x336001 => if x6 < (x335001.length : Int) then (if 0 ≤ x6 then (if x6 < (x336001.length : Int) then (if (!(((rd_T88 x335001 x6).f0) == ((rd_T88 x336001 x6).f0)) || (!(((rd_T88 x335001 x6).f1) == ((rd_T88 x336001 x6).f1)))) = true then (some false) else (ferryref03_Same.l1 k (wrap64 (x6 + 1)) x335000 x335001 x336000 x336001)) else (none)) else (none)) else (some true)
end
def ferryref03_Same.f (k : Nat) (l0_0 : List (S83)) (l0_1 : List (S88)) (l1_0 : List (S83)) (l1_1 : List (S88)) : Option (Bool) := if (l0_0.length : Int) = (l1_0.length : Int) then (ferryref03_Same.j0 k ((l0_1.length : Int) != (l1_1.length : Int)) l0_0 l0_1 l1_0 l1_1) else (ferryref03_Same.j0 k true l0_0 l0_1 l1_0 l1_1)
end Go.Proofs.Ytgkjdpdmmlalcaa.F
end
section
namespace Go.Proofs.Ytgkjdpdmmlalcaa.F
open Go.RowKit Go.Shelf Go.Proofs.YtgkjdpdmmlalcaaW.PrintWords Go.Proofs.YtgkjdpdmmlalcaaW.PrintLast Go.Proofs.YtgkjdpdmmlalcaaW.PrintMore
set_option linter.unusedVariables false
set_option linter.unusedSimpArgs false
theorem andNot7_i64 {n : Int} (h0 : -9223372036854775808 ≤ n) (h1 : n ≤ 9223372036854775807) : Go.bits .andNot .i64 n 7 = n - n % 8 := by
  have h := bv_andNot (BitVec.ofInt 64 n) (BitVec.ofInt 64 7)
  have e : (BitVec.ofInt 64 n &&& BitVec.ofInt 64 7).toNat = (n % ((2 ^ 64 : Nat) : Int)).toNat % 8 := by
    rw [BitVec.toNat_and, BitVec.toNat_ofInt, show (BitVec.ofInt 64 7).toNat = 2 ^ 3 - 1 from rfl, Nat.and_two_pow_sub_one_eq_mod]
  rw [e, BitVec.toNat_ofInt] at h
  show IntKind.i64.wrap (((BitVec.ofInt 64 n &&& ~~~BitVec.ofInt 64 7).toNat : Nat) : Int) = _
  rw [IntKind.wrap_i64]
  have h3 : ((2 ^ 64 : Nat) : Int) = 18446744073709551616 := rfl
  rw [h3] at h
  omega
theorem badProt_iff {n : Int} (h0 : -9223372036854775808 ≤ n) (h1 : n ≤ 9223372036854775807) : (Go.bits .andNot .i64 n 7 != 0) = !decide (0 ≤ n ∧ n ≤ 7) := by
  rw [andNot7_i64 h0 h1]
  by_cases h : 0 ≤ n ∧ n ≤ 7
  · rw [decide_eq_true h, bne_eq_false_iff_eq.2 (by omega)]
    rfl
  rw [decide_eq_false h, bne_iff_ne.2 (by omega)]
  rfl
theorem rises_of_next {α : Type} {key : α → Int} : ∀ {l : List α}, (∀ i (h : i + 1 < l.length), key (l[i]'(by omega)) < key l[i + 1]) → Rises key l
  | [], _ => trivial
  | [_], _ => trivial
  | x :: y :: l, h => ⟨h 0 (by simp), rises_of_next (l := y :: l) (fun i hi => h (i + 1) (by simpa using hi))⟩
theorem rises_prev {α : Type} {key : α → Int} (l : List α) : Rises key l ↔ ∀ i (h : i < l.length), prevGe key l i (key l[i]) = false := by
  constructor
  · intro hr i hi
    cases i with
    | zero => rfl
    | succ j =>
      rw [prevGe_succ key l j (by omega)]
      have := rises_get key hr j (j + 1) hi (by omega)
      exact decide_eq_false (by omega)
  · intro h
    refine rises_of_next (fun i hi => ?_)
    have h2 := h (i + 1) hi
    rw [prevGe_succ key l i (by omega)] at h2
    have := of_decide_eq_false h2
    omega
structure FitH (l : List SM) (m : List SC) : Prop where
  lr : Rises mpK l
  ln : l.length ≤ 64
  lp : ∀ x ∈ l, 0 ≤ x.f0 ∧ x.f0 < 1125899906842624 ∧ 0 ≤ x.f1 ∧ x.f1 ≤ 7
  mr : Rises clK m
  mn : m.length ≤ 131072
  mp : ∀ x ∈ m, 0 ≤ x.f0 ∧ x.f0 < 18446744073709551616 ∧ x.f0 % 8 = 0 ∧ 0 < x.f1 ∧ x.f1 < 18446744073709551616 ∧ has mpK (x.f0 / 16384) l = true
theorem tmod8 {a : Int} (h : 0 ≤ a) : (Int.tmod a 8 != 0) = !decide (a % 8 = 0) := by
  rw [Int.tmod_eq_emod_of_nonneg h]
  by_cases h2 : a % 8 = 0
  · rw [decide_eq_true h2, bne_eq_false_iff_eq.2 h2]
    rfl
  rw [decide_eq_false h2, bne_iff_ne.2 h2]
  rfl
theorem badM_iff {l : List SM} (wl : ∀ x ∈ l, wfM x) (k : Nat) (hk : k < l.length) : badM l k = false ↔ (l[k].f0 < 1125899906842624 ∧ 0 ≤ l[k].f1 ∧ l[k].f1 ≤ 7) ∧ prevGe mpK l k (mpK l[k]) = false := by
  unfold badM
  rw [List.getElem?_eq_getElem hk]
  simp only [Bool.or_eq_false_iff, decide_eq_false_iff_not]
  constructor
  · rintro ⟨h1, h2, h3, h4⟩
    exact ⟨⟨by omega, by omega, by omega⟩, h4⟩
  · rintro ⟨⟨h1, h2, h3⟩, h4⟩
    exact ⟨by omega, by omega, by omega, h4⟩
theorem badC_iff {l : List SM} {m : List SC} (wm : ∀ x ∈ m, wfC x) (k : Nat) (hk : k < m.length) : badC l m k = false ↔ (m[k].f0 % 8 = 0 ∧ m[k].f1 ≠ 0 ∧ has mpK (m[k].f0 / 16384) l = true) ∧ prevGe clK m k (clK m[k]) = false := by
  have hw := wm _ (List.getElem_mem hk)
  have h0 : 0 ≤ m[k].f0 ∧ m[k].f0 ≤ 18446744073709551615 := hw.1
  unfold badC
  rw [List.getElem?_eq_getElem hk]
  dsimp only
  rw [tmod8 h0.1, quo_u64 h0.1 (by omega) (by omega), placeR_has]
  simp only [Bool.or_eq_false_iff, Bool.not_eq_false', decide_eq_true_eq, beq_eq_false_iff_ne]
  constructor
  · rintro ⟨h1, h2, h3, h4⟩
    exact ⟨⟨h1, h2, h4⟩, h3⟩
  · rintro ⟨⟨h1, h2, h3⟩, h4⟩
    exact ⟨h1, h2, h4, h3⟩
theorem not_any_range {n : Nat} {p : Nat → Bool} : (!((List.range n).any p)) = true ↔ ∀ k, k < n → p k = false := by
  rw [Bool.not_eq_true', List.any_eq_false]
  constructor
  · intro h k hk
    have := h k (List.mem_range.2 hk)
    simpa using this
  · intro h k hk
    rw [h k (List.mem_range.1 hk)]
    simp
theorem fitR_iff {l : List SM} {m : List SC} (wl : ∀ x ∈ l, wfM x) (wm : ∀ x ∈ m, wfC x) : fitR l m = true ↔ FitH l m := by
  unfold fitR
  simp only [Bool.and_eq_true, decide_eq_true_eq]
  rw [not_any_range, not_any_range]
  constructor
  · rintro ⟨h1, h2, h3, h4⟩
    have b1 := fun k hk => (badM_iff wl k hk).1 (h3 k hk)
    have b2 := fun k hk => (badC_iff wm k hk).1 (h4 k hk)
    refine ⟨(rises_prev l).2 (fun i hi => (b1 i hi).2), h1, fun x hx => ?_, (rises_prev m).2 (fun i hi => (b2 i hi).2), h2, fun x hx => ?_⟩
    · obtain ⟨i, hi, rfl⟩ := List.getElem_of_mem hx
      have hw : (0 ≤ l[i].f0 ∧ l[i].f0 ≤ 18446744073709551615) ∧ _ := wl _ hx
      have := (b1 i hi).1
      exact ⟨hw.1.1, this.1, this.2.1, this.2.2⟩
    · obtain ⟨i, hi, rfl⟩ := List.getElem_of_mem hx
      have hw : (0 ≤ m[i].f0 ∧ m[i].f0 ≤ 18446744073709551615) ∧ (0 ≤ m[i].f1 ∧ m[i].f1 ≤ 18446744073709551615) := wm _ hx
      have := (b2 i hi).1
      have h5 := this.2.1
      exact ⟨hw.1.1, by omega, this.1, by omega, by omega, this.2.2⟩
  · intro h
    refine ⟨h.ln, h.mn, fun k hk => (badM_iff wl k hk).2 ?_, fun k hk => (badC_iff wm k hk).2 ?_⟩
    · have := h.lp _ (List.getElem_mem hk)
      exact ⟨⟨this.2.1, this.2.2.1, this.2.2.2⟩, (rises_prev l).1 h.lr k hk⟩
    · have := h.mp _ (List.getElem_mem hk)
      exact ⟨⟨this.2.2.1, by omega, this.2.2.2.2.2⟩, (rises_prev m).1 h.mr k hk⟩
theorem and7_u64 {a : Int} (h0 : 0 ≤ a) (h1 : a ≤ 18446744073709551615) : Go.bits .and .u64 a 7 = a % 8 := mask64 3 (by decide) h0 h1
theorem fitB_iff {l : List SM} {m : List SC} (wl : ∀ x ∈ l, wfM x) (wm : ∀ x ∈ m, wfC x) : fitB l m = true ↔ FitH l m := by
  unfold fitB
  simp only [Bool.and_eq_true, decide_eq_true_eq, Bool.not_eq_true', List.any_eq_false]
  rw [risesB_iff, risesB_iff]
  constructor
  · rintro ⟨h1, h2, h3, h4, h5, h6⟩
    refine ⟨h1, h3, fun x hx => ?_, h2, h4, fun x hx => ?_⟩
    · have hw : (0 ≤ x.f0 ∧ x.f0 ≤ 18446744073709551615) ∧ (-9223372036854775808 ≤ x.f1 ∧ x.f1 ≤ 9223372036854775807) := wl _ hx
      have h7 := h5 x hx
      unfold fitMap at h7
      rw [badProt_iff hw.2.1 hw.2.2] at h7
      simp only [Bool.or_eq_true, decide_eq_true_eq, Bool.not_eq_true', decide_eq_false_iff_not, not_or, Classical.not_not] at h7
      exact ⟨hw.1.1, by omega, h7.2.1, h7.2.2⟩
    · have hw : (0 ≤ x.f0 ∧ x.f0 ≤ 18446744073709551615) ∧ (0 ≤ x.f1 ∧ x.f1 ≤ 18446744073709551615) := wm _ hx
      have h7 := h6 x hx
      unfold fitCell at h7
      rw [and7_u64 hw.1.1 hw.1.2, quo_u64 hw.1.1 (by omega) (by omega)] at h7
      simp only [Bool.or_eq_true, Bool.not_eq_true', not_or, bne_iff_ne, beq_iff_eq, Classical.not_not, Bool.not_eq_false] at h7
      exact ⟨hw.1.1, by omega, h7.1.2, by omega, by omega, h7.1.1⟩
  · intro h
    refine ⟨h.lr, h.mr, h.ln, h.mn, fun x hx => ?_, fun x hx => ?_⟩
    · have hw : (0 ≤ x.f0 ∧ x.f0 ≤ 18446744073709551615) ∧ (-9223372036854775808 ≤ x.f1 ∧ x.f1 ≤ 9223372036854775807) := wl _ hx
      have := h.lp x hx
      unfold fitMap
      rw [badProt_iff hw.2.1 hw.2.2]
      simp only [Bool.or_eq_true, decide_eq_true_eq, Bool.not_eq_true', decide_eq_false_iff_not, not_or, Classical.not_not]
      exact ⟨by omega, this.2.2⟩
    · have hw : (0 ≤ x.f0 ∧ x.f0 ≤ 18446744073709551615) ∧ (0 ≤ x.f1 ∧ x.f1 ≤ 18446744073709551615) := wm _ hx
      have := h.mp x hx
      unfold fitCell
      rw [and7_u64 hw.1.1 hw.1.2, quo_u64 hw.1.1 (by omega) (by omega)]
      simp only [Bool.or_eq_true, Bool.not_eq_true', not_or, bne_iff_ne, beq_iff_eq, Classical.not_not, Bool.not_eq_false]
      exact ⟨⟨this.2.2.2.2.2, this.2.2.1⟩, by omega⟩
theorem FitH.wl {l : List SM} {m : List SC} (h : FitH l m) : ∀ x ∈ l, wfM x := fun x hx => by
  have := h.lp x hx
  exact ⟨⟨this.1, by omega⟩, ⟨by omega, by omega⟩⟩
theorem FitH.wm {l : List SM} {m : List SC} (h : FitH l m) : ∀ x ∈ m, wfC x := fun x hx => by
  have := h.mp x hx
  exact ⟨⟨this.1, by omega⟩, ⟨by omega, by omega⟩⟩
theorem FitH.fitR {l : List SM} {m : List SC} (h : FitH l m) : fitR l m = true := (fitR_iff h.wl h.wm).2 h
def eqL {α : Type} (p : α → α → Bool) : List α → List α → Bool
  | [], [] => true
  | x :: l, y :: m => p x y && eqL p l m
  | _, _ => false
theorem eqL_refl {α : Type} {p : α → α → Bool} (h : ∀ x, p x x = true) : ∀ l : List α, eqL p l l = true
  | [] => rfl
  | x :: l => by
    unfold eqL
    rw [h x, eqL_refl h l]
    rfl
theorem eqL_length {α : Type} {p : α → α → Bool} : ∀ {l m : List α}, eqL p l m = true → l.length = m.length
  | [], [], _ => rfl
  | x :: l, y :: m, h => by
    unfold eqL at h
    rw [Bool.and_eq_true] at h
    simp [eqL_length h.2]
  | [], _ :: _, h => by simp [eqL] at h
  | _ :: _, [], h => by simp [eqL] at h
def eqMp (x y : SM) : Bool := (x.f0 == y.f0) && (x.f1 == y.f1)
def eqCl (x y : SC) : Bool := (x.f0 == y.f0) && (x.f1 == y.f1)
def sameS (l : List SM) (m : List SC) (l' : List SM) (m' : List SC) : Bool := eqL eqMp l l' && eqL eqCl m m'
theorem sameS_refl (l : List SM) (m : List SC) : sameS l m l m = true := by
  unfold sameS
  rw [eqL_refl (fun x => by simp [eqMp]), eqL_refl (fun x => by simp [eqCl])]
  rfl
end Go.Proofs.Ytgkjdpdmmlalcaa.F
end
section
namespace Go.Proofs.Ytgkjdpdmmlalcaa.F
open Go.RowKit Go.Shelf Go.Proofs.YtgkjdpdmmlalcaaW.PrintWords Go.Proofs.YtgkjdpdmmlalcaaW.PrintLast Go.Proofs.YtgkjdpdmmlalcaaW.PrintMore
set_option linter.unusedVariables false
set_option linter.unusedSimpArgs false
theorem ref_Same_l1 (l l' : List SM) (m m' : List SC) (e : m.length = m'.length) (hm : m.length ≤ 1000000) : ∀ (k i : Nat), i ≤ m.length → m.length - i < k → ferryref03_Same.l1 k (i : Int) l m l' m' = some (eqL eqCl (m.drop i) (m'.drop i))
  | 0, i, _, h => by omega
  | k + 1, i, hi, h => by
    unfold ferryref03_Same.l1
    by_cases hlt : i < m.length
    · have hw : wrap64 ((i : Int) + 1) = ((i + 1 : Nat) : Int) := by unfold wrap64; omega
      rw [if_pos (by omega), if_pos (by omega), if_pos (by omega), cl_getR hlt, cl_getR (by omega), hw, ref_Same_l1 l l' m m' e hm k (i + 1) hlt (by omega), List.drop_eq_getElem_cons hlt, List.drop_eq_getElem_cons (show i < m'.length by omega)]
      rw [show eqL eqCl (m[i] :: m.drop (i + 1)) (m'[i] :: m'.drop (i + 1)) = (eqCl m[i] m'[i] && eqL eqCl (m.drop (i + 1)) (m'.drop (i + 1))) from rfl]
      unfold eqCl
      cases (m[i].f0 == m'[i].f0) <;> cases (m[i].f1 == m'[i].f1) <;> rfl
    rw [if_neg (by omega), List.drop_eq_nil_of_le (by omega), List.drop_eq_nil_of_le (by omega)]
    rfl
theorem ref_Same_l0 (l l' : List SM) (m m' : List SC) (e0 : l.length = l'.length) (e : m.length = m'.length) (hl : l.length ≤ 1000000) (hm : m.length ≤ 1000000) : ∀ (k i : Nat), i ≤ l.length → (l.length - i) + m.length + 1 < k → ferryref03_Same.l0 k (i : Int) l m l' m' = some (eqL eqMp (l.drop i) (l'.drop i) && eqL eqCl m m')
  | 0, i, _, h => by omega
  | k + 1, i, hi, h => by
    unfold ferryref03_Same.l0
    by_cases hlt : i < l.length
    · have hw : wrap64 ((i : Int) + 1) = ((i + 1 : Nat) : Int) := by unfold wrap64; omega
      rw [if_pos (by omega), if_pos (by omega), if_pos (by omega), mp_getR hlt, mp_getR (by omega), hw, ref_Same_l0 l l' m m' e0 e hl hm k (i + 1) hlt (by omega), List.drop_eq_getElem_cons hlt, List.drop_eq_getElem_cons (show i < l'.length by omega)]
      rw [show eqL eqMp (l[i] :: l.drop (i + 1)) (l'[i] :: l'.drop (i + 1)) = (eqMp l[i] l'[i] && eqL eqMp (l.drop (i + 1)) (l'.drop (i + 1))) from rfl]
      unfold eqMp
      cases (l[i].f0 == l'[i].f0) <;> cases (l[i].f1 == l'[i].f1) <;> rfl
    rw [if_neg (by omega), List.drop_eq_nil_of_le (by omega), List.drop_eq_nil_of_le (by omega)]
    exact ref_Same_l1 l l' m m' e hm k 0 (Nat.zero_le _) (by omega)
theorem ref_Same (l : List SM) (m : List SC) (l' : List SM) (m' : List SC) (hl : l.length ≤ 1000000) (hm : m.length ≤ 1000000) (k : Nat) (hk : l.length + m.length + 2 < k) : ferryref03_Same.f k l m l' m' = some (sameS l m l' m') := by
  unfold ferryref03_Same.f
  obtain ⟨k, rfl⟩ : ∃ q, k = q + 1 := ⟨k - 1, by omega⟩
  have hne : ∀ b, ferryref03_Same.j0 (k + 1) b l m l' m' = if b = true then some false else ferryref03_Same.l0 k 0 l m l' m' := fun b => rfl
  unfold sameS
  by_cases e : l.length = l'.length
  · rw [if_pos (by omega), hne]
    by_cases e2 : m.length = m'.length
    · rw [bne_eq_false_iff_eq.2 (by omega), if_neg (by decide)]
      exact ref_Same_l0 l l' m m' e e2 hl hm k 0 (Nat.zero_le _) (by omega)
    rw [bne_iff_ne.2 (by omega), if_pos rfl]
    cases h : eqL eqCl m m' with
    | false => rw [Bool.and_false]
    | true => exact absurd (eqL_length h) e2
  rw [if_neg (by omega), hne, if_pos rfl]
  cases h : eqL eqMp l l' with
  | false => rfl
  | true => exact absurd (eqL_length h) e
end Go.Proofs.Ytgkjdpdmmlalcaa.F
end
section
namespace Go.Proofs.Ytgkjdpdmmlalcaa.F
open Go.RowKit Go.Shelf Go.Proofs.YtgkjdpdmmlalcaaW.PrintWords Go.Proofs.YtgkjdpdmmlalcaaW.PrintLast Go.Proofs.YtgkjdpdmmlalcaaW.PrintMore
set_option linter.unusedVariables false
set_option linter.unusedSimpArgs false
def setL (a u : Int) (l : List S88) : List S88 :=
  if has clK a l = true then (if u = 0 then l.eraseIdx (lowB clK a l) else l.set (lowB clK a l) ⟨a, u⟩) else if u = 0 then l else l.take (lowB clK a l) ++ [⟨a, u⟩] ++ l.drop (lowB clK a l)
theorem cl_set1 {w : World} {g cap : Nat} {l : List S88} (h : OwnB clE 88 w g cap l) {i : Nat} (hi : i < l.length) (u : Int) : OwnB clE 88 (w.setCell ⟨g, i * 2 + 1, none⟩ (.int .u64 u)) g cap (l.set i ⟨l[i].f0, u⟩) := by
  have hp := h.put clE_2 i [(⟨l[i].f0, u⟩ : S88)] (by omega) (by have := h.len_le; simp; omega)
  have hc := h.cell clE_2 hi (j := 0) (by omega)
  obtain ⟨cur, h0, h1, h5, h3, h4⟩ := h
  obtain ⟨cur', a0, a1, a2⟩ := setCells_row [Value.int .u64 u] (i * 2 + 1) w cur h0 (by simp; omega)
  obtain ⟨cur2, b0, b1, b2⟩ := setCells_row [Value.int .u64 l[i].f0, Value.int .u64 u] (i * 2) w cur h0 (by simp; omega)
  have hcl : cur.toList.length = cap * 2 := by rw [Array.length_toList, h1]
  have hx : cur.toList[i * 2]'(by omega) = .int .u64 l[i].f0 := by
    rw [sblk_cell h0, Nat.add_zero, ← Array.getElem?_toList, List.getElem?_eq_getElem (by omega)] at hc
    exact Option.some.inj hc
  have he : cur' = cur2 := by
    apply Array.toList_inj.1
    rw [a2, b2, List.take_succ_eq_append_getElem (by omega), hx]
    simp
  have hl : l.set i ⟨l[i].f0, u⟩ = l.take i ++ [(⟨l[i].f0, u⟩ : S88)] ++ l.drop (i + [(⟨l[i].f0, u⟩ : S88)].length) := by
    rw [List.set_eq_take_append_cons_drop, if_pos hi]
    simp
  rw [hl]
  exact hp.move (a0.trans (by rw [he]; exact b0.symm))
set_option maxHeartbeats 8000000 in
set_option maxRecDepth 100000 in
theorem host_set.calls (B : Nat) (ok : Nat → Prop) (v : Value) (l : List S88) (a u : Int) (w : World) (hR : Kd.R k88 88 w B ok v l) (hB : B ≤ w.heap.size) (hl : l.length ≤ 1000000) (hs : Rises clK l) :
    Calls Try.prog 105 #[v, .int .u64 a, .int .u64 u] w fun e w' => ∃ v', e = .returned v' ∧ Kd.R k88 88 w' B (fun _ => True) v' (setL a u l) ∧ Below B w w' := by
  obtain ⟨A, c, rfl, hlc, hC⟩ := Kd.R_reads hR
  have PL := Lib.hid (cl_place.calls 141 set_key.calls (fun _ _ => by kernel_rfl) A c l a w hC hlc hl hs)
  have hlo := lowB_le clK a l
  have hh := has_lowB clK (k := a) hs
  have RR := Lib.hid hR
  have HBB := Lib.hid hB
  unfold setL
  clear hR hs hC hB
  cases hhas : has clK a l
  · rw [hhas] at PL
    rw [if_neg (by simp)]
    clear hh hhas
    generalize lowB clK a l = i at PL hlo ⊢
    by_cases hu : u = 0
    · subst hu
      rw [if_pos rfl]
      go_enter Try.func105, Try.ntmps105
      go_wp2_with (go_at_call 140; (with_reducible refine PL.out.mono ?_); rintro e w1 ⟨rfl, hb⟩)
      go_ret
      exact ⟨_, rfl, Kd.R_mono (Kd.R_below RR.out hb) (fun _ _ => trivial), hb.mono HBB.out⟩
    rw [if_neg hu]
    have hu2 : (u == 0) = false := beq_eq_false_iff_ne.2 hu
    go_enter Try.func105, Try.ntmps105
    go_wp2_with (go_at_call 140; (with_reducible refine PL.out.mono ?_); rintro e w1 ⟨rfl, hb⟩; have R1 := Lib.hid (Kd.R_below RR.out hb); have B1 := Lib.hid hb; clear hb)
    have B2 : Below w1.heap.size w1 (w1.alloc (.cells #[.int .u64 a, .int .u64 u] 88)) := (Below.refl _ w1).alloc (Nat.le_refl _) _
    have OV : OwnB clE 88 (w1.alloc (.cells #[.int .u64 a, .int .u64 u] 88)) w1.heap.size 1 [⟨a, u⟩] := ⟨_, blk_new w1 _, rfl, by omega, by simp, rfl⟩
    have hs1 : (w1.alloc (.cells #[.int .u64 a, .int .u64 u] 88)).heap.size = w1.heap.size + 1 := World.size_alloc _ _
    rcases cl_own R1.out with ⟨hv, hn⟩ | ⟨g, cap, hv, hg, ho⟩
    · subst hn
      obtain rfl : i = 0 := by simpa using hlo
      injection hv with hA _ hcc
      subst hA; subst hcc
      refine (cl_ins_nil.calls w1.heap.size 1 [⟨a, u⟩] _ OV (by simp) (by simp)).mono ?_
      rintro e w2 ⟨g', cap', rfl, h1, h2, h3⟩
      have O2 := Lib.hid h1
      have G2 := Lib.hid (show B ≤ g' by have := B1.out.size; have := HBB.out; omega)
      have B3 := Lib.hid ((B1.out.mono HBB.out).trans ((B2.mono (Nat.le_trans HBB.out B1.out.size)).trans (h3.mono (by have := B1.out.size; have := HBB.out; omega))))
      clear h1 h2 h3 OV B2 hs1
      go_wp2
      go_ret
      exact ⟨_, rfl, cl_R O2.out G2.out, B3.out⟩
    · injection hv with hA _ hcc
      subst hA; subst hcc
      refine (cl_ins.calls g c w1.heap.size 1 i l [⟨a, u⟩] _ (ho.below B2) OV (by have := ho.lt; omega) hl (by simp) (by simp) hlo).mono ?_
      rintro e w2 ⟨g', cap', rfl, h1, h2, h3⟩
      have O2 := Lib.hid h1
      have G2 := Lib.hid (show B ≤ g' by have := B1.out.size; have := HBB.out; rcases h2 with h | h <;> omega)
      have B3 := Lib.hid ((B1.out.mono HBB.out).trans ((B2.mono (Nat.le_trans HBB.out B1.out.size)).trans (below_of_grown (Below.refl _ _) h3 hg (by have := B1.out.size; have := HBB.out; omega))))
      have L2 := Lib.hid (show (l.take i ++ [(⟨a, u⟩ : S88)] ++ l.drop i).length = l.length + [(⟨a, u⟩ : S88)].length by rw [List.length_append, List.length_append, List.length_take, List.length_drop]; omega)
      clear h1 h2 h3 OV B2 hs1 ho hg
      go_wp2
      go_ret
      have hRR := cl_R O2.out G2.out
      rw [L2.out] at hRR
      exact ⟨_, rfl, hRR, B3.out⟩
  · rw [hhas] at PL hh
    rw [if_pos rfl]
    clear hhas
    generalize lowB clK a l = i at PL hlo hh ⊢
    have hi : i < l.length := by
      rcases Nat.lt_or_ge i l.length with h | h
      · exact h
      · rw [List.getElem?_eq_none h] at hh
        cases hh
    rw [List.getElem?_eq_getElem hi] at hh
    have hx : l[i].f0 = a := of_decide_eq_true hh.symm
    clear hh
    rcases cl_own RR.out with ⟨_, h5⟩ | ⟨g, cap, hv, hg, ho⟩
    · subst h5
      simp at hi
    injection hv with hA _ hcc
    subst hA; subst hcc
    have HO := Lib.hid ho
    have HG := Lib.hid hg
    have HX := Lib.hid hx
    clear ho hg hx
    by_cases hu : u = 0
    · subst hu
      rw [if_pos rfl]
      go_enter Try.func105, Try.ntmps105
      go_wp2_with (go_at_call 140; (with_reducible refine PL.out.mono ?_); rintro e w1 ⟨rfl, hb⟩; have O1 := Lib.hid (HO.out.below hb); have B1 := Lib.hid hb; clear hb)
      have hd := cl_del.calls g c i (i + 1) l w1 O1.out hl hi rfl
      rw [show ((i + 1 : Nat) : Int) = (i : Int) + 1 from rfl] at hd
      refine hd.mono ?_
      clear hd
      rintro e w2 ⟨rfl, h1, h2⟩
      have O2 := Lib.hid h1
      have B2 := Lib.hid (below_of_grown (B1.out.mono HBB.out) h2 HG.out (Nat.le_trans HBB.out B1.out.size))
      have L2 := Lib.hid (show (l.eraseIdx i).length = l.length - 1 from List.length_eraseIdx_of_lt hi)
      clear h1 h2
      go_wp2
      go_ret
      have hRR := cl_R O2.out HG.out
      rw [L2.out] at hRR
      exact ⟨_, rfl, hRR, B2.out⟩
    rw [if_neg hu]
    have hu2 : (u == 0) = false := beq_eq_false_iff_ne.2 hu
    go_enter Try.func105, Try.ntmps105
    go_wp2_with (go_at_call 140; (with_reducible refine PL.out.mono ?_); rintro e w1 ⟨rfl, hb⟩; have O1 := Lib.hid (HO.out.below hb); have B1 := Lib.hid hb; clear hb; have e1 := O1.out.cell clE_2 hi (j := 1) (by omega); have z1 := O1.out.free (i * 2 + 1); simp only [clE, List.getElem?_cons_succ, List.getElem?_cons_zero] at e1)
    have h2 := cl_set1 O1.out hi u
    rw [HX.out] at h2
    have hRR := cl_R h2 HG.out
    rw [List.length_set] at hRR
    exact bodyPost_ret (v := .slice (some ⟨g, 0, none⟩) l.length c) (by simp [results, Try.results105, go_sem]) rfl ⟨_, rfl, hRR, (B1.out.mono HBB.out).setCell HG.out _⟩
end Go.Proofs.Ytgkjdpdmmlalcaa.F
end
section
namespace Go.Proofs.Ytgkjdpdmmlalcaa.F
open Go.RowKit Go.Shelf Go.Proofs.YtgkjdpdmmlalcaaW.PrintWords Go.Proofs.YtgkjdpdmmlalcaaW.PrintLast Go.Proofs.YtgkjdpdmmlalcaaW.PrintMore
set_option linter.unusedVariables false
set_option linter.unusedSimpArgs false
structure HW (w W : World) (m c x y : Value) : Prop where
  bel : Below w.heap.size w W
  h : W.heap[w.heap.size]? = some (.cells #[m, c] 25 (0, 0))
  r : W.heap[w.heap.size + 1]? = some (.cells #[x, y] 25 (0, 0))
  s : w.heap.size + 2 ≤ W.heap.size
theorem HW.first (w : World) (m c x y : Value) : HW w ((w.alloc (.cells #[m, c] 25)).alloc (.cells #[x, y] 25)) m c x y := by
  have s1 : ∀ (W : World) o, (W.alloc o).heap.size = W.heap.size + 1 := fun W o => World.size_alloc W o
  have b1 : Below w.heap.size w (w.alloc (.cells #[m, c] 25)) := (Below.refl _ _).alloc (Nat.le_refl _) _
  have b2 := b1.alloc (by rw [s1]; omega) (.cells #[x, y] 25)
  have n1 := blk_new w (.cells #[m, c] 25)
  have n2 := blk_new (w.alloc (.cells #[m, c] 25)) (.cells #[x, y] 25)
  rw [s1] at n2
  exact ⟨b2, blk_alloc n1 _, n2, by rw [s1, s1]; omega⟩
theorem HW.step {w W W' : World} {m c x y : Value} (h : HW w W m c x y) (hb : Below (w.heap.size + 2) W W') : HW w W' m c x y :=
  ⟨h.bel.trans (hb.mono (by omega)), (hb.block _ (by omega)).trans h.h, (hb.block _ (by omega)).trans h.r, Nat.le_trans h.s hb.size⟩
theorem HW.below {w W W' : World} {m c x y : Value} (h : HW w W m c x y) (hb : Below W.heap.size W W') : HW w W' m c x y := h.step (hb.mono h.s)
theorem HW.set1 {w W : World} {m c x y : Value} (h : HW w W m c x y) (u : Value) : HW w (W.setCell ⟨w.heap.size, 1, none⟩ u) m u x y :=
  have hk : ∀ k, k ≠ w.heap.size → (W.setCell ⟨w.heap.size, 1, none⟩ u).heap[k]? = W.heap[k]? := fun k hk => Below.heap_setCell W _ u k hk
  ⟨h.bel.setCell (Nat.le_refl _) _, blk_put h.h 1 u rfl, (hk _ (by omega)).trans h.r, by simpa [World.setCell] using h.s⟩
theorem HW.setR {w W : World} {m c x y : Value} (h : HW w W m c x y) (u v : Value) : HW w ((W.setCell ⟨w.heap.size + 1, 0, none⟩ u).setCell ⟨w.heap.size + 1, 1, none⟩ v) m c u v :=
  have hk : ∀ k, k ≠ w.heap.size + 1 → ((W.setCell ⟨w.heap.size + 1, 0, none⟩ u).setCell ⟨w.heap.size + 1, 1, none⟩ v).heap[k]? = W.heap[k]? := fun k hk => (Below.heap_setCell _ _ v k hk).trans (Below.heap_setCell W _ u k hk)
  ⟨(h.bel.setCell (by show w.heap.size ≤ w.heap.size + 1; omega) _).setCell (by show w.heap.size ≤ w.heap.size + 1; omega) _, (hk _ (by omega)).trans h.h, blk_put (blk_put h.r 0 u rfl) 1 v rfl, by simpa [World.setCell] using h.s⟩
def clrStep (a1 a2 a : Int) (u : Int) (k : Nat) : Int := if withB (IntKind.u64.wrap (a + (k : Int))) a1 a2 = true then Go.bits .andNot .u64 u (IntKind.u64.wrap (255 * 2 ^ (8 * k))) else u
def clrW (a1 a2 a u : Int) (k : Nat) : Int := (List.range k).foldl (clrStep a1 a2 a) u
theorem clrW_succ (a1 a2 a u : Int) (k : Nat) : clrW a1 a2 a u (k + 1) = clrStep a1 a2 a (clrW a1 a2 a u k) k := by
  unfold clrW
  rw [List.range_succ, List.foldl_append]
  rfl
def clrC (a1 a2 : Int) (x : S88) : S88 := ⟨x.f0, clrW a1 a2 x.f0 x.f1 8⟩
end Go.Proofs.Ytgkjdpdmmlalcaa.F
end
section
namespace Go.Proofs.Ytgkjdpdmmlalcaa.F
open Go.RowKit Go.Proofs.YtgkjdpdmmlalcaaW.PrintWords Go.Proofs.YtgkjdpdmmlalcaaW.PrintLast Go.Proofs.YtgkjdpdmmlalcaaW.PrintMore
attribute [local go_sem] max2_int min2_int max_two min_two max_three min_three max_four min_four
set_option linter.unusedVariables false
set_option linter.unusedSimpArgs false

def ferryref03_wrong.f (a0 : Int) (a1 : Int) (a2 : Int) : Option (Bool) := if a1 = 0 then (some true) else (if a0 ≥ 1125899906842624 then (some true) else (if a1 > (IntKind.u64.wrap (1125899906842624 - a0)) then (some true) else (if a2 < 0 then (some true) else (some (decide (a2 > 7))))))
set_option maxHeartbeats 8000000 in
set_option maxRecDepth 100000 in
theorem ferryref03_wrong.calls (a0 : Int) (a1 : Int) (a2 : Int) (r : Bool) (w : World) (h : ferryref03_wrong.f a0 a1 a2 = some r) :
    Calls Try.prog 102 #[.int .u64 a0, .int .u64 a1, .int .i64 a2] w fun e w' => e = .returned (.bool r) ∧ Drawn0 w w' := by
  have H : (if a1 = 0 then (some true) else (if a0 ≥ 1125899906842624 then (some true) else (if a1 > (IntKind.u64.wrap (1125899906842624 - a0)) then (some true) else (if a2 < 0 then (some true) else (some (decide (a2 > 7))))))) = some r := h
  clear h
  by_cases c4 : a1 = 0
  · rw [if_pos c4] at H
    have c4b0 : (a1 == 0) = true := beq_iff_eq.mpr c4
    have c4b1 : (a1 != 0) = false := bne_eq_false_iff_eq.mpr c4
    clear c4
    obtain rfl := Option.some.inj H
    go_enter Try.func102, Try.ntmps102
    go_wp2
    go_ret
    exact ⟨by first | rfl | (simp; done) | (simp [*]; done), by repeat (first | exact Drawn0.refl _ | apply Drawn0.step)⟩
  rw [if_neg c4] at H
  have c4b0 : (a1 == 0) = false := beq_eq_false_iff_ne.mpr c4
  have c4b1 : (a1 != 0) = true := bne_iff_ne.mpr c4
  by_cases c5 : a0 ≥ 1125899906842624
  · rw [if_pos c5] at H
    have c5b0 : decide (1125899906842624 ≤ a0) = true := decide_eq_true c5
    clear c5
    obtain rfl := Option.some.inj H
    go_enter Try.func102, Try.ntmps102
    go_wp2
    go_ret
    exact ⟨by first | rfl | (simp; done) | (simp [*]; done), by repeat (first | exact Drawn0.refl _ | apply Drawn0.step)⟩
  rw [if_neg c5] at H
  have c5b0 : decide (1125899906842624 ≤ a0) = false := decide_eq_false c5
  clear c5
  by_cases c6 : a1 > (IntKind.u64.wrap (1125899906842624 - a0))
  · rw [if_pos c6] at H
    have c6b0 : decide ((IntKind.u64.wrap (1125899906842624 - a0)) < a1) = true := decide_eq_true c6
    clear c6
    obtain rfl := Option.some.inj H
    go_enter Try.func102, Try.ntmps102
    go_wp2
    go_ret
    exact ⟨by first | rfl | (simp; done) | (simp [*]; done), by repeat (first | exact Drawn0.refl _ | apply Drawn0.step)⟩
  rw [if_neg c6] at H
  have c6b0 : decide ((IntKind.u64.wrap (1125899906842624 - a0)) < a1) = false := decide_eq_false c6
  clear c6
  by_cases c7 : a2 < 0
  · rw [if_pos c7] at H
    have c7b0 : decide (a2 < 0) = true := decide_eq_true c7
    clear c7
    obtain rfl := Option.some.inj H
    go_enter Try.func102, Try.ntmps102
    go_wp2
    go_ret
    exact ⟨by first | rfl | (simp; done) | (simp [*]; done), by repeat (first | exact Drawn0.refl _ | apply Drawn0.step)⟩
  rw [if_neg c7] at H
  have c7b0 : decide (a2 < 0) = false := decide_eq_false c7
  clear c7
  obtain rfl := Option.some.inj H
  go_enter Try.func102, Try.ntmps102
  go_wp2
  go_ret
  exact ⟨by first | rfl | (simp; done) | (simp [*]; done), by repeat (first | exact Drawn0.refl _ | apply Drawn0.step)⟩

end Go.Proofs.Ytgkjdpdmmlalcaa.F
end
