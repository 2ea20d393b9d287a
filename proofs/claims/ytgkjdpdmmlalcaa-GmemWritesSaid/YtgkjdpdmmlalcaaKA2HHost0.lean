import Derived.Test.YtgkjdpdmmlalcaaKZF0
import Derived.Test.YtgkjdpdmmlalcaaKA0
section
namespace Go.Proofs.Ytgkjdpdmmlalcaa.F
open Go.RowKit Go.Shelf Go.Proofs.YtgkjdpdmmlalcaaW.PrintWords Go.Proofs.YtgkjdpdmmlalcaaW.PrintLast Go.Proofs.YtgkjdpdmmlalcaaW.PrintMore
set_option linter.unusedVariables false
set_option linter.unusedSimpArgs false
def cmpI (a b : Int) : Int := if a < b then -1 else if b < a then 1 else 0
theorem cmpI_neg {a b : Int} (h : cmpI a b < 0) : a < b := by
  unfold cmpI at h
  split at h
  · assumption
  · split at h <;> omega
theorem cmpI_pos {a b : Int} (h : ¬ cmpI a b < 0) : b ≤ a := by
  unfold cmpI at h
  split at h
  · omega
  · omega
theorem cmpI_zero (a b : Int) : decide (cmpI a b = 0) = decide (a = b) := by
  unfold cmpI
  rcases Int.lt_trichotomy a b with h | h | h
  · rw [if_pos h, decide_eq_false (by omega), decide_eq_false (by omega)]
  · subst h
    simp
  · rw [if_neg (by omega), if_pos h, decide_eq_false (by omega), decide_eq_false (by omega)]
def risesB {α : Type} (key : α → Int) : List α → Bool
  | [] => true
  | [_] => true
  | x :: y :: l => decide (key x < key y) && risesB key (y :: l)
theorem risesB_iff {α : Type} {key : α → Int} : ∀ (l : List α), risesB key l = true ↔ Rises key l
  | [] => ⟨fun _ => trivial, fun _ => rfl⟩
  | [_] => ⟨fun _ => trivial, fun _ => rfl⟩
  | x :: y :: l => by
    unfold risesB Rises
    rw [Bool.and_eq_true, decide_eq_true_eq, risesB_iff (y :: l)]
theorem cmp64_nan.calls (a : Int) (w : World) : Calls Try.prog 169 #[.int .u64 a] w fun e w' => e = .returned (.bool false) ∧ w' = w := by
  go_enter Try.func169, Try.ntmps169
  go_wp2
  go_ret
  exact ⟨by simp, rfl⟩
set_option maxHeartbeats 4000000 in
theorem cmp64.calls (a b : Int) (w : World) : Calls Try.prog 161 #[.int .u64 a, .int .u64 b] w fun e w' => e = .returned (.int .i64 (cmpI a b)) ∧ w' = w := by
  have NN := Lib.hid cmp64_nan.calls
  rcases Int.lt_trichotomy a b with h | h | h
  · have e : cmpI a b = -1 := if_pos h
    rw [e]
    clear e
    go_enter Try.func161, Try.ntmps161
    go_wp2_with (go_at_call 169; (with_reducible refine (NN.out _ _).mono ?_); rintro e w1 ⟨rfl, rfl⟩)
    go_ret
    exact ⟨rfl, rfl⟩
  · subst h
    have e : cmpI a a = 0 := by simp [cmpI]
    rw [e]
    clear e
    go_enter Try.func161, Try.ntmps161
    go_wp2_with (go_at_call 169; (with_reducible refine (NN.out _ _).mono ?_); rintro e w1 ⟨rfl, rfl⟩)
    go_ret
    exact ⟨rfl, rfl⟩
  · have e : cmpI a b = 1 := by unfold cmpI; rw [if_neg (by omega), if_pos h]
    rw [e]
    clear e
    go_enter Try.func161, Try.ntmps161
    go_wp2_with (go_at_call 169; (with_reducible refine (NN.out _ _).mono ?_); rintro e w1 ⟨rfl, rfl⟩)
    go_ret
    exact ⟨rfl, rfl⟩
abbrev mpK (x : S83) : Int := x.f0
theorem mp_read {l : List S83} {k : Nat} (h : k < l.length) : rd_T83 l (k : Int) = l[k] := by
  unfold rd_T83
  simp [h]
set_option maxHeartbeats 4000000 in
theorem map_key.calls (x : S83) (w : World) : Calls Try.prog 152 #[.agg #[.int .u64 x.f0, .int .i64 x.f1]] w fun e w' => e = .returned (.int .u64 x.f0) ∧ Below w.heap.size w w' := by
  have TB := Lib.hid ((Below.refl _ w).alloc (Nat.le_refl _) (.cells #[.int .u64 x.f0, .int .i64 x.f1] 83))
  go_enter Try.func152, Try.ntmps152
  go_wp2
  go_ret
  exact ⟨rfl, TB.out⟩
set_option maxHeartbeats 4000000 in
theorem mp_place1.calls (g b : Nat) (HG : ∀ (x : S83) (w : World), Calls Try.prog g #[.agg #[.int .u64 x.f0, .int .i64 x.f1]] w fun e w' => e = .returned (.int .u64 x.f0) ∧ Below w.heap.size w w') (eg : ∀ args w, (callFunc g args).run Try.prog w = .ok (.enter g args) w) (x : S83) (key : Int) (w : World) (hc : w.cell? ⟨b, 0, none⟩ = some (.func (.func g) #[] #[])) (hb : b < w.heap.size) :
    Calls Try.prog 166 #[.agg #[.int .u64 x.f0, .int .i64 x.f1], .int .u64 key, .pointer (some ⟨b, 0, none⟩)] w fun e w' => e = .returned (.int .i64 (cmpI x.f0 key)) ∧ Below w.heap.size w w' := by
  have HB0 : Below w.heap.size w (w.alloc (.cells #[.int .u64 x.f0, .int .i64 x.f1] 83)) := (Below.refl _ w).alloc (Nat.le_refl _) _
  have hc1 : (w.alloc (.cells #[.int .u64 x.f0, .int .i64 x.f1] 83)).cell? ⟨b, 0, none⟩ = some (.func (.func g) #[] #[]) := (HB0.cell (p := ⟨b, 0, none⟩) hb).trans hc
  have HC := Lib.hid cmp64.calls
  have HG' := Lib.hid (HG x (w.alloc (.cells #[.int .u64 x.f0, .int .i64 x.f1] 83)))
  have TB := Lib.hid HB0
  have hu := Try.underlying83
  clear hc HB0 HG
  go_enter Try.func166, Try.ntmps166
  go_wp2_with (first | (go_at_fn g; (with_reducible refine HG'.out.mono ?_); rintro e w1 ⟨rfl, hb1⟩; have B1 := Lib.hid hb1; clear hb1) | (go_at_call 161; (with_reducible refine (HC.out _ _ _).mono ?_); rintro e w2 ⟨rfl, rfl⟩))
  go_ret
  exact ⟨rfl, TB.out.trans (B1.out.mono TB.out.size)⟩
set_option maxHeartbeats 8000000 in
set_option maxRecDepth 100000 in
theorem mp_bsf.calls (g b : Nat) (HG : ∀ (x : S83) (w : World), Calls Try.prog g #[.agg #[.int .u64 x.f0, .int .i64 x.f1]] w fun e w' => e = .returned (.int .u64 x.f0) ∧ Below w.heap.size w w') (eg : ∀ args w, (callFunc g args).run Try.prog w = .ok (.enter g args) w) (A : Option Addr) (c : Nat) (l : List S83) (key : Int) (w : World) (hcb : w.cell? ⟨b, 0, none⟩ = some (.func (.func g) #[] #[])) (hb : b < w.heap.size) (hr : Kd.C k83 w A l.length l) (hc : l.length ≤ c) (hl : l.length ≤ 1000000) (hs : Rises mpK l) :
    Calls Try.prog 165 #[.slice A l.length c, .int .u64 key, .func (.func 166) #[] #[.pointer (some ⟨b, 0, none⟩)]] w fun e w' => e = .returned (.tuple #[.int .i64 (lowB mpK key l : Nat), .bool (has mpK key l)]) ∧ Below w.heap.size w w' := by
  have CL := Lib.hid (fun x W hB => mp_place1.calls g b HG eg x key W ((Below.cell hB (p := ⟨b, 0, none⟩) hb).trans hcb) (Nat.lt_of_lt_of_le hb (Below.size hB)))
  clear HG eg
  have HS := Lib.hid hs
  have HR := Lib.hid hr
  have hlo : lowB mpK key l = lowB mpK key l := rfl
  generalize hN : lowB mpK key l = N at hlo ⊢
  have EN := Lib.hid hN
  generalize hH : has mpK key l = H at ⊢
  have EH := Lib.hid hH
  clear hN hH hlo hs hr
  go_enter Try.func165, Try.ntmps165
  go_wp2
  go_loopw [9, 10] (fun t9 t10 wr => ∃ lo hi : Nat, t9 = .int .i64 lo ∧ t10 = .int .i64 hi ∧ lo ≤ hi ∧ hi ≤ l.length ∧ Hid ((∀ j (hj : j < l.length), j < lo → mpK l[j] < key) ∧ (∀ j (hj : j < l.length), hi ≤ j → key ≤ mpK l[j])) ∧ Hid (Below w.heap.size w wr)) (fun t9 t10 _ => (intOf t10 - intOf t9).toNat)
  case atStart => exact ⟨0, l.length, rfl, rfl, Nat.zero_le _, Nat.le_refl _, Lib.hid ⟨fun j _ h => absurd h (Nat.not_lt_zero _), fun j hj h => absurd hj (Nat.not_lt.2 h)⟩, Lib.hid (Below.refl _ _)⟩
  case round =>
    obtain ⟨lo, hi, rfl, rfl, hlh, hil, I, hB⟩ := hrel
    by_cases hlt : lo < hi
    · have hm : (lo + hi) / 2 < l.length := by omega
      have hm1 : lo ≤ (lo + hi) / 2 := by omega
      have hm2 : (lo + hi) / 2 < hi := by omega
      obtain ⟨ad, rfl, c0, c1⟩ := at_T83 (Kd.C_below HR.out hB.out) (((lo + hi) / 2 : Nat) : Int) (by omega) (by omega)
      rw [mp_read hm, Int.toNat_natCast] at c0 c1
      generalize hx : l[(lo + hi) / 2] = x at c0 c1
      have EX := Lib.hid hx
      clear hx
      by_cases hcmp : cmpI x.f0 key < 0
      · go_wp2_with (go_at_call 166; (with_reducible refine (CL.out x _ hB.out).mono ?_); rintro ex w2 ⟨rfl, hb2⟩)
        refine ⟨⟨(lo + hi) / 2 + 1, hi, by go_num, rfl, by omega, hil, Lib.hid ⟨fun j hj hjl => ?_, I.out.2⟩, Lib.hid (hB.out.trans (hb2.mono hB.out.size))⟩, by simp [intOf]; omega⟩
        have hlt' := cmpI_neg hcmp
        rcases Nat.lt_or_ge j ((lo + hi) / 2) with h | h
        · have := rises_get mpK HS.out j _ hm h
          rw [EX.out] at this
          exact Int.lt_trans this hlt'
        · obtain rfl : j = (lo + hi) / 2 := by omega
          rw [EX.out]
          exact hlt'
      have HGE := Lib.hid (cmpI_pos hcmp)
      go_wp2_with (go_at_call 166; (with_reducible refine (CL.out x _ hB.out).mono ?_); rintro ex w2 ⟨rfl, hb2⟩)
      refine ⟨⟨lo, (lo + hi) / 2, rfl, rfl, hm1, by omega, Lib.hid ⟨I.out.1, fun j hj hjl => ?_⟩, Lib.hid (hB.out.trans (hb2.mono hB.out.size))⟩, by simp [intOf]; omega⟩
      have hge' := HGE.out
      rcases Nat.lt_or_eq_of_le hjl with h | h
      · have := rises_get mpK HS.out _ j hj h
        rw [EX.out] at this
        exact Int.le_of_lt (Int.lt_of_le_of_lt hge' this)
      · subst h
        rw [EX.out]
        exact hge'
    obtain rfl : hi = lo := by omega
    have hn := lowB_of mpK HS.out hi hil I.out.1 I.out.2
    rw [EN.out] at hn
    subst hn
    have hh := has_lowB mpK (k := key) HS.out
    rw [EH.out, EN.out] at hh
    by_cases hlt2 : N < l.length
    · obtain ⟨ad, rfl, c0, c1⟩ := at_T83 (Kd.C_below HR.out hB.out) (N : Int) (by omega) (by omega)
      rw [mp_read hlt2, Int.toNat_natCast] at c0 c1
      rw [List.getElem?_eq_getElem hlt2] at hh
      generalize l[N] = x at c0 c1 hh
      dsimp only at hh
      rw [← cmpI_zero] at hh
      generalize hq : cmpI x.f0 key = q at hh
      have EQ := Lib.hid hq
      have CL2 := Lib.hid (CL.out x _ hB.out)
      rw [hq] at CL2
      clear hq CL
      subst hh
      by_cases hz : q = 0
      · subst hz
        go_wp2_with (go_at_call 166; (with_reducible refine CL2.out.mono ?_); rintro ex w2 ⟨rfl, hb2⟩)
        go_ret2
        exact ⟨by simp, hB.out.trans (hb2.mono hB.out.size)⟩
      have hz1 : (q == 0) = false := beq_eq_false_iff_ne.2 hz
      go_wp2_with (go_at_call 166; (with_reducible refine CL2.out.mono ?_); rintro ex w2 ⟨rfl, hb2⟩)
      go_ret2
      exact ⟨by simp [hz], hB.out.trans (hb2.mono hB.out.size)⟩
    rw [List.getElem?_eq_none (by omega)] at hh
    dsimp only at hh
    subst hh
    go_wp2
    go_ret2
    exact ⟨rfl, hB.out⟩
set_option maxHeartbeats 4000000 in
theorem mp_place.calls (g : Nat) (HG : ∀ (x : S83) (w : World), Calls Try.prog g #[.agg #[.int .u64 x.f0, .int .i64 x.f1]] w fun e w' => e = .returned (.int .u64 x.f0) ∧ Below w.heap.size w w') (eg : ∀ args w, (callFunc g args).run Try.prog w = .ok (.enter g args) w) (A : Option Addr) (c : Nat) (l : List S83) (key : Int) (w : World) (hr : Kd.C k83 w A l.length l) (hc : l.length ≤ c) (hl : l.length ≤ 1000000) (hs : Rises mpK l) :
    Calls Try.prog 151 #[.slice A l.length c, .int .u64 key, .func (.func g) #[] #[]] w fun e w' => e = .returned (.tuple #[.int .i64 (lowB mpK key l : Nat), .bool (has mpK key l)]) ∧ Below w.heap.size w w' := by
  have TB0 : Below w.heap.size w (w.alloc (.cells #[.func (.func g) #[] #[]] 190)) := (Below.refl _ w).alloc (Nat.le_refl _) _
  have BS := Lib.hid (mp_bsf.calls g w.heap.size HG eg A c l key (w.alloc (.cells #[.func (.func g) #[] #[]] 190)) (World.cell?_alloc_at (w := w) #[.func (.func g) #[] #[]] 190 w.heap.size 0 rfl) (by rw [World.size_alloc]; omega) (Kd.C_below hr TB0) hc hl hs)
  have TB := Lib.hid TB0
  clear hs hr HG eg TB0
  go_enter Try.func151, Try.ntmps151
  go_wp2_with (go_at_call 165; (with_reducible refine BS.out.mono ?_); rintro ex w2 ⟨rfl, hb2⟩; have B2 := Lib.hid (TB.out.trans (hb2.mono TB.out.size)); clear hb2)
  go_ret2
  exact ⟨rfl, B2.out⟩
-- HAND fn=ferry/host.mapAt ; rounds=0 ; making=1 ; laid=0
def host_mapAt.f (l0_0 : List S83) (l0_1 : List S88) (a1 : Int) : Option (Int × Bool) := if l0_0.length ≤ 1000000 ∧ risesB mpK l0_0 = true then some ((lowB mpK a1 l0_0 : Nat), has mpK a1 l0_0) else none
set_option maxHeartbeats 4000000 in
theorem host_mapAt.calls (A0_0 : Option Addr) (c0_0 : Nat) (l0_0 : List S83) (A0_1 : Option Addr) (c0_1 : Nat) (l0_1 : List S88) (a1 : Int) (r1 : Int) (r2 : Bool) (w : World) (hr0_0 : Kd.C k83 w A0_0 l0_0.length l0_0) (hc0_0 : l0_0.length ≤ c0_0) (hr0_1 : Kd.C k88 w A0_1 l0_1.length l0_1) (hc0_1 : l0_1.length ≤ c0_1) (h : host_mapAt.f l0_0 l0_1 a1 = some (r1, r2)) :
    Calls Try.prog 126 #[.agg #[.slice A0_0 l0_0.length c0_0, .slice A0_1 l0_1.length c0_1], .int .u64 a1] w fun e w' => e = .returned (.tuple #[.int .i64 r1, .bool r2]) ∧ Below w.heap.size w w' := by
  unfold host_mapAt.f at h
  split at h
  · rename_i hh
    obtain ⟨rfl, rfl⟩ := Prod.mk.inj (Option.some.inj h)
    have TB0 : Below w.heap.size w (w.alloc (.cells #[.slice A0_0 l0_0.length c0_0, .slice A0_1 l0_1.length c0_1] 25)) := (Below.refl _ w).alloc (Nat.le_refl _) _
    have PL := Lib.hid (mp_place.calls 152 map_key.calls (fun _ _ => by kernel_rfl) A0_0 c0_0 l0_0 a1 _ (Kd.C_below hr0_0 TB0) hc0_0 hh.1 ((risesB_iff _).1 hh.2))
    have TB := Lib.hid TB0
    clear hh h TB0 hr0_0 hr0_1
    go_enter Try.func126, Try.ntmps126
    go_wp2_with (go_at_call 151; (with_reducible refine PL.out.mono ?_); rintro ex w2 ⟨rfl, hb2⟩; have B2 := Lib.hid (TB.out.trans (hb2.mono TB.out.size)); clear hb2)
    go_ret2
    exact ⟨rfl, B2.out⟩
  · cases h
abbrev clK (x : S88) : Int := x.f0
theorem cl_read {l : List S88} {k : Nat} (h : k < l.length) : rd_T88 l (k : Int) = l[k] := by
  unfold rd_T88
  simp [h]
set_option maxHeartbeats 4000000 in
theorem cell_key.calls (x : S88) (w : World) : Calls Try.prog 164 #[.agg #[.int .u64 x.f0, .int .u64 x.f1]] w fun e w' => e = .returned (.int .u64 x.f0) ∧ Below w.heap.size w w' := by
  have TB := Lib.hid ((Below.refl _ w).alloc (Nat.le_refl _) (.cells #[.int .u64 x.f0, .int .u64 x.f1] 88))
  go_enter Try.func164, Try.ntmps164
  go_wp2
  go_ret
  exact ⟨rfl, TB.out⟩
set_option maxHeartbeats 4000000 in
theorem set_key.calls (x : S88) (w : World) : Calls Try.prog 141 #[.agg #[.int .u64 x.f0, .int .u64 x.f1]] w fun e w' => e = .returned (.int .u64 x.f0) ∧ Below w.heap.size w w' := by
  have TB := Lib.hid ((Below.refl _ w).alloc (Nat.le_refl _) (.cells #[.int .u64 x.f0, .int .u64 x.f1] 88))
  go_enter Try.func141, Try.ntmps141
  go_wp2
  go_ret
  exact ⟨rfl, TB.out⟩
set_option maxHeartbeats 4000000 in
theorem cl_place1.calls (g b : Nat) (HG : ∀ (x : S88) (w : World), Calls Try.prog g #[.agg #[.int .u64 x.f0, .int .u64 x.f1]] w fun e w' => e = .returned (.int .u64 x.f0) ∧ Below w.heap.size w w') (eg : ∀ args w, (callFunc g args).run Try.prog w = .ok (.enter g args) w) (x : S88) (key : Int) (w : World) (hc : w.cell? ⟨b, 0, none⟩ = some (.func (.func g) #[] #[])) (hb : b < w.heap.size) :
    Calls Try.prog 160 #[.agg #[.int .u64 x.f0, .int .u64 x.f1], .int .u64 key, .pointer (some ⟨b, 0, none⟩)] w fun e w' => e = .returned (.int .i64 (cmpI x.f0 key)) ∧ Below w.heap.size w w' := by
  have HB0 : Below w.heap.size w (w.alloc (.cells #[.int .u64 x.f0, .int .u64 x.f1] 88)) := (Below.refl _ w).alloc (Nat.le_refl _) _
  have hc1 : (w.alloc (.cells #[.int .u64 x.f0, .int .u64 x.f1] 88)).cell? ⟨b, 0, none⟩ = some (.func (.func g) #[] #[]) := (HB0.cell (p := ⟨b, 0, none⟩) hb).trans hc
  have HC := Lib.hid cmp64.calls
  have HG' := Lib.hid (HG x (w.alloc (.cells #[.int .u64 x.f0, .int .u64 x.f1] 88)))
  have TB := Lib.hid HB0
  have hu := Try.underlying88
  clear hc HB0 HG
  go_enter Try.func160, Try.ntmps160
  go_wp2_with (first | (go_at_fn g; (with_reducible refine HG'.out.mono ?_); rintro e w1 ⟨rfl, hb1⟩; have B1 := Lib.hid hb1; clear hb1) | (go_at_call 161; (with_reducible refine (HC.out _ _ _).mono ?_); rintro e w2 ⟨rfl, rfl⟩))
  go_ret
  exact ⟨rfl, TB.out.trans (B1.out.mono TB.out.size)⟩
set_option maxHeartbeats 8000000 in
set_option maxRecDepth 100000 in
theorem cl_bsf.calls (g b : Nat) (HG : ∀ (x : S88) (w : World), Calls Try.prog g #[.agg #[.int .u64 x.f0, .int .u64 x.f1]] w fun e w' => e = .returned (.int .u64 x.f0) ∧ Below w.heap.size w w') (eg : ∀ args w, (callFunc g args).run Try.prog w = .ok (.enter g args) w) (A : Option Addr) (c : Nat) (l : List S88) (key : Int) (w : World) (hcb : w.cell? ⟨b, 0, none⟩ = some (.func (.func g) #[] #[])) (hb : b < w.heap.size) (hr : Kd.C k88 w A l.length l) (hc : l.length ≤ c) (hl : l.length ≤ 1000000) (hs : Rises clK l) :
    Calls Try.prog 159 #[.slice A l.length c, .int .u64 key, .func (.func 160) #[] #[.pointer (some ⟨b, 0, none⟩)]] w fun e w' => e = .returned (.tuple #[.int .i64 (lowB clK key l : Nat), .bool (has clK key l)]) ∧ Below w.heap.size w w' := by
  have CL := Lib.hid (fun x W hB => cl_place1.calls g b HG eg x key W ((Below.cell hB (p := ⟨b, 0, none⟩) hb).trans hcb) (Nat.lt_of_lt_of_le hb (Below.size hB)))
  clear HG eg
  have HS := Lib.hid hs
  have HR := Lib.hid hr
  have hlo : lowB clK key l = lowB clK key l := rfl
  generalize hN : lowB clK key l = N at hlo ⊢
  have EN := Lib.hid hN
  generalize hH : has clK key l = H at ⊢
  have EH := Lib.hid hH
  clear hN hH hlo hs hr
  go_enter Try.func159, Try.ntmps159
  go_wp2
  go_loopw [9, 10] (fun t9 t10 wr => ∃ lo hi : Nat, t9 = .int .i64 lo ∧ t10 = .int .i64 hi ∧ lo ≤ hi ∧ hi ≤ l.length ∧ Hid ((∀ j (hj : j < l.length), j < lo → clK l[j] < key) ∧ (∀ j (hj : j < l.length), hi ≤ j → key ≤ clK l[j])) ∧ Hid (Below w.heap.size w wr)) (fun t9 t10 _ => (intOf t10 - intOf t9).toNat)
  case atStart => exact ⟨0, l.length, rfl, rfl, Nat.zero_le _, Nat.le_refl _, Lib.hid ⟨fun j _ h => absurd h (Nat.not_lt_zero _), fun j hj h => absurd hj (Nat.not_lt.2 h)⟩, Lib.hid (Below.refl _ _)⟩
  case round =>
    obtain ⟨lo, hi, rfl, rfl, hlh, hil, I, hB⟩ := hrel
    by_cases hlt : lo < hi
    · have hm : (lo + hi) / 2 < l.length := by omega
      have hm1 : lo ≤ (lo + hi) / 2 := by omega
      have hm2 : (lo + hi) / 2 < hi := by omega
      obtain ⟨ad, rfl, c0, c1⟩ := at_T88 (Kd.C_below HR.out hB.out) (((lo + hi) / 2 : Nat) : Int) (by omega) (by omega)
      rw [cl_read hm, Int.toNat_natCast] at c0 c1
      generalize hx : l[(lo + hi) / 2] = x at c0 c1
      have EX := Lib.hid hx
      clear hx
      by_cases hcmp : cmpI x.f0 key < 0
      · go_wp2_with (go_at_call 160; (with_reducible refine (CL.out x _ hB.out).mono ?_); rintro ex w2 ⟨rfl, hb2⟩)
        refine ⟨⟨(lo + hi) / 2 + 1, hi, by go_num, rfl, by omega, hil, Lib.hid ⟨fun j hj hjl => ?_, I.out.2⟩, Lib.hid (hB.out.trans (hb2.mono hB.out.size))⟩, by simp [intOf]; omega⟩
        have hlt' := cmpI_neg hcmp
        rcases Nat.lt_or_ge j ((lo + hi) / 2) with h | h
        · have := rises_get clK HS.out j _ hm h
          rw [EX.out] at this
          exact Int.lt_trans this hlt'
        · obtain rfl : j = (lo + hi) / 2 := by omega
          rw [EX.out]
          exact hlt'
      have HGE := Lib.hid (cmpI_pos hcmp)
      go_wp2_with (go_at_call 160; (with_reducible refine (CL.out x _ hB.out).mono ?_); rintro ex w2 ⟨rfl, hb2⟩)
      refine ⟨⟨lo, (lo + hi) / 2, rfl, rfl, hm1, by omega, Lib.hid ⟨I.out.1, fun j hj hjl => ?_⟩, Lib.hid (hB.out.trans (hb2.mono hB.out.size))⟩, by simp [intOf]; omega⟩
      have hge' := HGE.out
      rcases Nat.lt_or_eq_of_le hjl with h | h
      · have := rises_get clK HS.out _ j hj h
        rw [EX.out] at this
        exact Int.le_of_lt (Int.lt_of_le_of_lt hge' this)
      · subst h
        rw [EX.out]
        exact hge'
    obtain rfl : hi = lo := by omega
    have hn := lowB_of clK HS.out hi hil I.out.1 I.out.2
    rw [EN.out] at hn
    subst hn
    have hh := has_lowB clK (k := key) HS.out
    rw [EH.out, EN.out] at hh
    by_cases hlt2 : N < l.length
    · obtain ⟨ad, rfl, c0, c1⟩ := at_T88 (Kd.C_below HR.out hB.out) (N : Int) (by omega) (by omega)
      rw [cl_read hlt2, Int.toNat_natCast] at c0 c1
      rw [List.getElem?_eq_getElem hlt2] at hh
      generalize l[N] = x at c0 c1 hh
      dsimp only at hh
      rw [← cmpI_zero] at hh
      generalize hq : cmpI x.f0 key = q at hh
      have EQ := Lib.hid hq
      have CL2 := Lib.hid (CL.out x _ hB.out)
      rw [hq] at CL2
      clear hq CL
      subst hh
      by_cases hz : q = 0
      · subst hz
        go_wp2_with (go_at_call 160; (with_reducible refine CL2.out.mono ?_); rintro ex w2 ⟨rfl, hb2⟩)
        go_ret2
        exact ⟨by simp, hB.out.trans (hb2.mono hB.out.size)⟩
      have hz1 : (q == 0) = false := beq_eq_false_iff_ne.2 hz
      go_wp2_with (go_at_call 160; (with_reducible refine CL2.out.mono ?_); rintro ex w2 ⟨rfl, hb2⟩)
      go_ret2
      exact ⟨by simp [hz], hB.out.trans (hb2.mono hB.out.size)⟩
    rw [List.getElem?_eq_none (by omega)] at hh
    dsimp only at hh
    subst hh
    go_wp2
    go_ret2
    exact ⟨rfl, hB.out⟩
set_option maxHeartbeats 4000000 in
theorem cl_place.calls (g : Nat) (HG : ∀ (x : S88) (w : World), Calls Try.prog g #[.agg #[.int .u64 x.f0, .int .u64 x.f1]] w fun e w' => e = .returned (.int .u64 x.f0) ∧ Below w.heap.size w w') (eg : ∀ args w, (callFunc g args).run Try.prog w = .ok (.enter g args) w) (A : Option Addr) (c : Nat) (l : List S88) (key : Int) (w : World) (hr : Kd.C k88 w A l.length l) (hc : l.length ≤ c) (hl : l.length ≤ 1000000) (hs : Rises clK l) :
    Calls Try.prog 140 #[.slice A l.length c, .int .u64 key, .func (.func g) #[] #[]] w fun e w' => e = .returned (.tuple #[.int .i64 (lowB clK key l : Nat), .bool (has clK key l)]) ∧ Below w.heap.size w w' := by
  have TB0 : Below w.heap.size w (w.alloc (.cells #[.func (.func g) #[] #[]] 182)) := (Below.refl _ w).alloc (Nat.le_refl _) _
  have BS := Lib.hid (cl_bsf.calls g w.heap.size HG eg A c l key (w.alloc (.cells #[.func (.func g) #[] #[]] 182)) (World.cell?_alloc_at (w := w) #[.func (.func g) #[] #[]] 182 w.heap.size 0 rfl) (by rw [World.size_alloc]; omega) (Kd.C_below hr TB0) hc hl hs)
  have TB := Lib.hid TB0
  clear hs hr HG eg TB0
  go_enter Try.func140, Try.ntmps140
  go_wp2_with (go_at_call 159; (with_reducible refine BS.out.mono ?_); rintro ex w2 ⟨rfl, hb2⟩; have B2 := Lib.hid (TB.out.trans (hb2.mono TB.out.size)); clear hb2)
  go_ret2
  exact ⟨rfl, B2.out⟩
-- HAND fn=ferry/host.cellAt ; rounds=0 ; making=1 ; laid=0
def host_cellAt.f (l0_0 : List S83) (l0_1 : List S88) (a1 : Int) : Option (Int × Bool) := if l0_1.length ≤ 1000000 ∧ risesB clK l0_1 = true then some ((lowB clK a1 l0_1 : Nat), has clK a1 l0_1) else none
set_option maxHeartbeats 4000000 in
theorem host_cellAt.calls (A0_0 : Option Addr) (c0_0 : Nat) (l0_0 : List S83) (A0_1 : Option Addr) (c0_1 : Nat) (l0_1 : List S88) (a1 : Int) (r1 : Int) (r2 : Bool) (w : World) (hr0_0 : Kd.C k83 w A0_0 l0_0.length l0_0) (hc0_0 : l0_0.length ≤ c0_0) (hr0_1 : Kd.C k88 w A0_1 l0_1.length l0_1) (hc0_1 : l0_1.length ≤ c0_1) (h : host_cellAt.f l0_0 l0_1 a1 = some (r1, r2)) :
    Calls Try.prog 144 #[.agg #[.slice A0_0 l0_0.length c0_0, .slice A0_1 l0_1.length c0_1], .int .u64 a1] w fun e w' => e = .returned (.tuple #[.int .i64 r1, .bool r2]) ∧ Below w.heap.size w w' := by
  unfold host_cellAt.f at h
  split at h
  · rename_i hh
    obtain ⟨rfl, rfl⟩ := Prod.mk.inj (Option.some.inj h)
    have TB0 : Below w.heap.size w (w.alloc (.cells #[.slice A0_0 l0_0.length c0_0, .slice A0_1 l0_1.length c0_1] 25)) := (Below.refl _ w).alloc (Nat.le_refl _) _
    have PL := Lib.hid (cl_place.calls 164 cell_key.calls (fun _ _ => by kernel_rfl) A0_1 c0_1 l0_1 a1 _ (Kd.C_below hr0_1 TB0) hc0_1 hh.1 ((risesB_iff _).1 hh.2))
    have TB := Lib.hid TB0
    clear hh h TB0 hr0_0 hr0_1
    go_enter Try.func144, Try.ntmps144
    go_wp2_with (go_at_call 140; (with_reducible refine PL.out.mono ?_); rintro ex w2 ⟨rfl, hb2⟩; have B2 := Lib.hid (TB.out.trans (hb2.mono TB.out.size)); clear hb2)
    go_ret2
    exact ⟨rfl, B2.out⟩
  · cases h
end Go.Proofs.Ytgkjdpdmmlalcaa.F
end
