import Derived.Below
import Derived.Deep.Draws
import Derived.Deep.AppendLies
import Derived.Maps.AppendAt
import Derived.OwnWalk
import Derived.Laws.BytesArg
import Derived.Laws.MakeOwn
import Derived.Laws.OwnMore
import Derived.Deep.OwnRows
import Derived.Tactics
import Derived.Lib.ConvBytes
import Derived.Laws.Slices
import Derived.WalkKit
import Derived.KernelRfl
import Derived.RowKit3
import Derived.Deep.LoopGhost
import Derived.Deep.QuietTactic
import Derived.BigQuiet
import Derived.WideLaws
import Derived.Deep.DeepCutAuto
import Derived.Deep.CutBlock
import Derived.Deep.RegionHeld3
import Derived.Laws.Rows
import Derived.Lib.AppendStr
import Derived.ArgAppend
import Derived.Laws.IdiomCopy
import Derived.RowKit
import Derived.OrdersHeld
import Derived.Laws.BitsLemmas
import Derived.Laws.StructEq
import Derived.OwnWalkIn
import Derived.ProofKit
import Derived.Lib.Hide
import Derived.Shelf.RegionOpen
import Derived.Shelf.Abstract
import Derived.Lib.SliceRun
import Derived.WalkSmall
import Derived.Laws.ResultCell
import Derived.Shelf.Spec.SlicesInsertGrow
import Derived.Test.YtlmmipdgedfboaaZF0
import Derived.Test.YtlmmipdgedfboaaYA0Sorted
import Derived.Test.YtlmmipdgedfboaaYA1Slc
import Derived.Test.YtlmmipdgedfboaaYA3HHost0
import Derived.Test.YtlmmipdgedfboaaYA4HHost1
import Derived.Test.YtlmmipdgedfboaaYA6
import Derived.Test.YtlmmipdgedfboaaYA7HHost3
import Derived.Test.YtlmmipdgedfboaaYA8HHost4
import Derived.Test.YtlmmipdgedfboaaYA16
section
namespace Go.Proofs.Ytlmmipdgedfboaa.F
open Go.RowKit Go.Shelf Go.Proofs.YtlmmipdgedfboaaW.PrintWords Go.Proofs.YtlmmipdgedfboaaW.PrintLast Go.Proofs.YtlmmipdgedfboaaW.PrintMore
set_option linter.unusedVariables false
set_option linter.unusedSimpArgs false
theorem mp_set1 {w : World} {g cap : Nat} {l : List S53} (h : OwnB mpE 53 w g cap l) {i : Nat} (hi : i < l.length) (u : Int) : OwnB mpE 53 (w.setCell ⟨g, i * 2 + 1, none⟩ (.int .i64 u)) g cap (l.set i ⟨l[i].f0, u⟩) := by
  have hp := h.put mpE_2 i [(⟨l[i].f0, u⟩ : S53)] (by omega) (by have := h.len_le; simp; omega)
  have hc := h.cell mpE_2 hi (j := 0) (by omega)
  obtain ⟨cur, h0, h1, h5, h3, h4⟩ := h
  obtain ⟨cur', a0, a1, a2⟩ := setCells_row [Value.int .i64 u] (i * 2 + 1) w cur h0 (by simp; omega)
  obtain ⟨cur2, b0, b1, b2⟩ := setCells_row [Value.int .u64 l[i].f0, Value.int .i64 u] (i * 2) w cur h0 (by simp; omega)
  have hcl : cur.toList.length = cap * 2 := by rw [Array.length_toList, h1]
  have hx : cur.toList[i * 2]'(by omega) = .int .u64 l[i].f0 := by
    rw [sblk_cell h0, Nat.add_zero, ← Array.getElem?_toList, List.getElem?_eq_getElem (by omega)] at hc
    exact Option.some.inj hc
  have he : cur' = cur2 := by
    apply Array.toList_inj.1
    rw [a2, b2, List.take_succ_eq_append_getElem (by omega), hx]
    simp
  have hl : l.set i ⟨l[i].f0, u⟩ = l.take i ++ [(⟨l[i].f0, u⟩ : S53)] ++ l.drop (i + [(⟨l[i].f0, u⟩ : S53)].length) := by
    rw [List.set_eq_take_append_cons_drop, if_pos hi]
    simp
  rw [hl]
  exact hp.move (a0.trans (by rw [he]; exact b0.symm))
def runP (a1 a2 : Int) : List S53 → Nat
  | [] => 0
  | x :: l => if withB x.f0 a1 a2 = true then runP a1 a2 l + 1 else 0
theorem runP_le (a1 a2 : Int) : ∀ l, runP a1 a2 l ≤ l.length
  | [] => Nat.le_refl _
  | x :: l => by
    unfold runP
    have := runP_le a1 a2 l
    split
    · simpa using this
    · simp
theorem runP_lt (a1 a2 : Int) : ∀ l (j : Nat) (hj : j < l.length), j < runP a1 a2 l → withB l[j].f0 a1 a2 = true
  | x :: l, 0, hj, h => by
    unfold runP at h
    split at h
    · assumption
    · omega
  | x :: l, j + 1, hj, h => by
    unfold runP at h
    split at h
    · exact runP_lt a1 a2 l j (by simpa using hj) (by omega)
    · omega
theorem runP_at (a1 a2 : Int) : ∀ l (hj : runP a1 a2 l < l.length), withB (l[runP a1 a2 l]'hj).f0 a1 a2 = false
  | x :: l, hj => by
    by_cases hx : withB x.f0 a1 a2 = true
    · have e : runP a1 a2 (x :: l) = runP a1 a2 l + 1 := by conv => { lhs; unfold runP }; exact if_pos hx
      have hj' : runP a1 a2 l < l.length := by rw [e] at hj; simpa using hj
      have := runP_at a1 a2 l hj'
      simp only [e, List.getElem_cons_succ]
      exact this
    · have e : runP a1 a2 (x :: l) = 0 := by conv => { lhs; unfold runP }; exact if_neg hx
      simp only [e, List.getElem_cons_zero]
      exact Bool.eq_false_iff.2 hx
def leftP (a2 : Int) : Nat → Int
  | 0 => a2
  | j + 1 => IntKind.u64.wrap (leftP a2 j - 1)
def protL (a1 a2 a3 : Int) (T d : List S53) (j : Nat) : List S53 := T ++ ((d.take j).map (fun x => ⟨x.f0, a3⟩) ++ d.drop j)
theorem protL_len (a1 a2 a3 : Int) (T d : List S53) (j : Nat) : (protL a1 a2 a3 T d j).length = T.length + d.length := by
  unfold protL
  rw [List.length_append, mixF_len]
theorem protL_get (a1 a2 a3 : Int) (T d : List S53) (j : Nat) (hj : j < d.length) (h : T.length + j < (protL a1 a2 a3 T d j).length) : (protL a1 a2 a3 T d j)[T.length + j] = d[j] := by
  refine (List.getElem_append_right (Nat.le_add_right T.length j)).trans ?_
  simp only [Nat.add_sub_cancel_left]
  exact mixF_get _ d j hj _
theorem protL_set (a1 a2 a3 : Int) (T d : List S53) (j : Nat) (hj : j < d.length) : (protL a1 a2 a3 T d j).set (T.length + j) ⟨d[j].f0, a3⟩ = protL a1 a2 a3 T d (j + 1) := by
  unfold protL
  rw [List.set_append_right _ _ (by omega), Nat.add_sub_cancel_left]
  exact congrArg (T ++ ·) (mixF_set (fun x : S53 => ⟨x.f0, a3⟩) d j hj)
-- HAND fn=ferry/host.Protect ; rounds=0 ; making=1 ; laid=0 ; share=0_0,0_1 ; views=0,1
def host_Protect.f (l0_0 : List S53) (l0_1 : List S55) (a1 a2 a3 : Int) : Option (List S53 × List S55 × Int) :=
  (host_wrong.f a1 a2 a3).bind fun t => if t = true then some (l0_0, l0_1, 22) else if l0_0.length ≤ 1000000 ∧ risesB mpK l0_0 = true then (if leftP a2 (runP a1 a2 (l0_0.drop (lowB mpK a1 l0_0))) > 0 then some (l0_0, l0_1, 2) else some (protL a1 a2 a3 (l0_0.take (lowB mpK a1 l0_0)) (l0_0.drop (lowB mpK a1 l0_0)) (runP a1 a2 (l0_0.drop (lowB mpK a1 l0_0))), l0_1, 0)) else none
set_option maxHeartbeats 8000000 in
set_option maxRecDepth 100000 in
theorem host_Protect.calls (P0_0_ : Nat → Prop) (A0_0 : Option Addr) (c0_0 : Nat) (l0_0 : List S53) (P0_1_ : Nat → Prop) (A0_1 : Option Addr) (c0_1 : Nat) (l0_1 : List S55) (a1 a2 a3 : Int) (r1 : List S53) (r2 : List S55) (r3 : Int) (w : World) (hs0_0 : Kd.V k53 53 w w.heap.size (fun k_ => P0_0_ k_) (.slice A0_0 l0_0.length c0_0) l0_0) (hs0_1 : Kd.V k55 55 w w.heap.size (fun k_ => P0_1_ k_) (.slice A0_1 l0_1.length c0_1) l0_1) (h : host_Protect.f l0_0 l0_1 a1 a2 a3 = some (r1, r2, r3)) :
    Calls Try.prog 25 #[.agg #[.slice A0_0 l0_0.length c0_0, .slice A0_1 l0_1.length c0_1], .int .u64 a1, .int .u64 a2, .int .i64 a3] w fun e w' => ∃ v0_ v1_ : Value, e = .returned (.tuple #[.agg #[v0_, v1_], .int .i64 r3]) ∧ Kd.V k53 53 w' w.heap.size (fun k_ => ((P0_0_ k_ ∨ P0_1_ k_) ∨ w.heap.size ≤ k_)) v0_ r1 ∧ Kd.V k55 55 w' w.heap.size (fun k_ => ((P0_0_ k_ ∨ P0_1_ k_) ∨ w.heap.size ≤ k_)) v1_ r2 ∧ Below w.heap.size w w' := by
  unfold host_Protect.f at h
  obtain ⟨t, ht, h⟩ := Option.bind_eq_some_iff.1 h
  have WR := Lib.hid (fun w => host_wrong.calls a1 a2 a3 t w ht)
  clear ht
  have VM := Lib.hid hs0_0
  have VC := Lib.hid hs0_1
  have CM := Lib.hid (Kd.V_reads' hs0_0)
  have CC := Lib.hid (Kd.V_reads' hs0_1)
  have U0 := Lib.hid (HW.first w (.slice A0_0 l0_0.length c0_0) (.slice A0_1 l0_1.length c0_1) (.slice none 0 0) (.slice none 0 0))
  clear hs0_0 hs0_1
  have hu := Try.underlying25
  go_enter Try.func25, Try.ntmps25
  go_wp2_with (fail)
  refine (WR.out _).mono ?_
  rintro e w1 ⟨rfl, ⟨nd, rfl⟩⟩
  have U1 := Lib.hid (U0.out.below (pw_below_drewN (Below.refl _ _) nd))
  clear U0 WR
  generalize World.drewN _ nd = w1 at U1 ⊢
  have h0 := (sblk_cell U1.out.h 0).trans rfl
  have h1 := (sblk_cell U1.out.h 1).trans rfl
  have r0 := (sblk_cell U1.out.r 0).trans rfl
  have r1' := (sblk_cell U1.out.r 1).trans rfl
  have z0 := sblk_free U1.out.r 0
  have z1 := sblk_free U1.out.r 1
  cases t
  rotate_left
  · rw [if_pos rfl] at h
    obtain ⟨rfl, h'⟩ := Prod.mk.inj (Option.some.inj h)
    obtain ⟨rfl, rfl⟩ := Prod.mk.inj h'
    clear h h'
    go_wp2
    have U2 := U1.out.setR (.slice A0_0 l0_0.length c0_0) (.slice A0_1 l0_1.length c0_1)
    have f0 := (sblk_cell U2.r 0).trans rfl
    have f1 := (sblk_cell U2.r 1).trans rfl
    exact bodyPost_ret (v := .tuple #[.agg #[.slice A0_0 l0_0.length c0_0, .slice A0_1 l0_1.length c0_1], .int .i64 22]) (by simp [results, Try.results25, go_sem, hu, f0, f1]) rfl ⟨_, _, rfl, view_old VM.out U2.bel (fun k hk => .inl (.inl hk)), view_old VC.out U2.bel (fun k hk => .inl (.inr hk)), U2.bel⟩
  rw [if_neg (by simp)] at h
  split at h
  rotate_left
  · cases h
  rename_i hc
  go_wp2_with (fail)
  refine (host_mapAt.calls A0_0 c0_0 l0_0 A0_1 c0_1 l0_1 a1 _ _ w1 (Kd.C_below CM.out.2.2 U1.out.bel) CM.out.2.1 (Kd.C_below CC.out.2.2 U1.out.bel) CC.out.2.1 (map_at_some l0_1 a1 hc.1 hc.2)).mono ?_
  rintro e w2 ⟨rfl, hb⟩
  have U2 := Lib.hid (U1.out.below hb)
  clear hb h0 h1 r0 r1' z0 z1
  have h0 := (sblk_cell U2.out.h 0).trans rfl
  go_wp2_with (fail)
  refine (mp_clone.calls A0_0 c0_0 l0_0 _ (Kd.C_below CM.out.2.2 U2.out.bel) CM.out.2.1 hc.1).mono ?_
  rintro e w3 ⟨v1, rfl, hR1, hb1⟩
  have U3 := Lib.hid (U2.out.below hb1)
  have S0 := U2.out.s
  have hkl := lowB_le mpK a1 l0_0
  clear hb1 h0
  rcases mp_own hR1 with ⟨rfl, rfl⟩ | ⟨g, cap, rfl, hg, ho⟩
  · clear hR1
    go_wp2
    go_loopw [13, 14] (fun t13 t14 wr => t13 = .int .u64 a2 ∧ t14 = .int .i64 0 ∧ wr = w3) (fun _ _ _ => 0)
    case atStart => exact ⟨rfl, rfl, rfl⟩
    case round =>
      obtain ⟨rfl, rfl, rfl⟩ := hrel
      have U := U3
      have RR := Lib.hid (Kd.R_nil k53 53 wr (w.heap.size + 2) (fun _ => True))
      replace h : (if leftP a2 0 > 0 then some (([] : List S53), l0_1, (2 : Int)) else some ([], l0_1, 0)) = some (r1, r2, r3) := h
      go_upto_region 11 with (fail)
      rw [show a2 = leftP a2 0 from rfl]
      by_cases hleft : leftP a2 0 > 0
      · rw [if_pos hleft] at h
        simp only [Option.some.injEq, Prod.mk.injEq] at h
        obtain ⟨rfl, rfl, rfl⟩ := h
        have hlb : decide (leftP a2 0 > 0) = true := decide_eq_true hleft
        have h0 := (sblk_cell U.out.h 0).trans rfl
        have h1 := (sblk_cell U.out.h 1).trans rfl
        have kz0 := sblk_free U.out.h 0
        have r0 := (sblk_cell U.out.r 0).trans rfl
        have r1' := (sblk_cell U.out.r 1).trans rfl
        have z0 := sblk_free U.out.r 0
        have z1 := sblk_free U.out.r 1
        go_wp2
        have U3 := U.out.setR (.slice A0_0 0 c0_0) (.slice A0_1 l0_1.length c0_1)
        have f0 := (sblk_cell U3.r 0).trans rfl
        have f1 := (sblk_cell U3.r 1).trans rfl
        exact bodyPost_ret (v := .tuple #[.agg #[.slice A0_0 0 c0_0, .slice A0_1 l0_1.length c0_1], .int .i64 2]) (by simp [results, Try.results25, go_sem, hu, f0, f1]) rfl ⟨_, _, rfl, view_old VM.out U3.bel (fun k hk => .inl (.inl hk)), view_old VC.out U3.bel (fun k hk => .inl (.inr hk)), U3.bel⟩
      · rw [if_neg hleft] at h
        simp only [Option.some.injEq, Prod.mk.injEq] at h
        obtain ⟨rfl, rfl, rfl⟩ := h
        have hlb : decide (leftP a2 0 > 0) = false := decide_eq_false hleft
        have h0 := (sblk_cell U.out.h 0).trans rfl
        have h1 := (sblk_cell U.out.h 1).trans rfl
        have kz0 := sblk_free U.out.h 0
        have r0 := (sblk_cell U.out.r 0).trans rfl
        have r1' := (sblk_cell U.out.r 1).trans rfl
        have z0 := sblk_free U.out.r 0
        have z1 := sblk_free U.out.r 1
        go_wp2
        have U3 := (U.out.set0 (.slice none 0 0)).setR (.slice none 0 0) (.slice A0_1 l0_1.length c0_1)
        have f0 := (sblk_cell U3.r 0).trans rfl
        have f1 := (sblk_cell U3.r 1).trans rfl
        refine bodyPost_ret (v := .tuple #[.agg #[(.slice none 0 0), .slice A0_1 l0_1.length c0_1], .int .i64 0]) (by simp [results, Try.results25, go_sem, hu, f0, f1]) rfl ⟨_, _, rfl, ?_, view_old VC.out U3.bel (fun k hk => .inl (.inr hk)), U3.bel⟩
        have RR9 := RR.out
        refine Kd.V_mono (Kd.V_step (Kd.R_V (Kd.R_bound RR9)) (fun k hk _ => (set_far (by have := hk.2.1; omega)).trans ((set_far (by have := hk.2.1; omega)).trans (set_far (by have := hk.2.1; omega))))) (fun k hk => .inr (by have := hk.2.1; omega))

  · clear hR1
    have hg := Nat.le_trans S0 hg
    have HLK := Lib.hid (show (l0_0.take (lowB mpK a1 l0_0)).length = lowB mpK a1 l0_0 by rw [List.length_take]; omega)
    have HLD := Lib.hid (show l0_0.length = lowB mpK a1 l0_0 + (l0_0.drop (lowB mpK a1 l0_0)).length by rw [List.length_drop]; omega)
    have HTD := Lib.hid (List.take_append_drop (lowB mpK a1 l0_0) l0_0)
    have O1 := Lib.hid (show OwnB mpE 53 w3 g cap (protL a1 a2 a3 (l0_0.take (lowB mpK a1 l0_0)) (l0_0.drop (lowB mpK a1 l0_0)) 0) by
      unfold protL
      rw [List.take_zero, List.map_nil, List.nil_append, List.drop_zero, List.take_append_drop]
      exact ho)
    clear ho
    generalize l0_0.take (lowB mpK a1 l0_0) = T at HLK HTD O1 h
    generalize l0_0.drop (lowB mpK a1 l0_0) = d at HLD HTD O1 h
    generalize lowB mpK a1 l0_0 = k0 at HLK HLD ⊢
    have hrl := runP_le a1 a2 d
    go_wp2
    go_loopw [13, 14] (fun t13 t14 wr => ∃ j : Nat, t14 = .int .i64 ((k0 + j : Nat) : Int) ∧ t13 = .int .u64 (leftP a2 j) ∧ j ≤ runP a1 a2 d ∧ Hid (OwnB mpE 53 wr g cap (protL a1 a2 a3 T d j)) ∧ Hid (HW w wr (.slice A0_0 l0_0.length c0_0) (.slice A0_1 l0_1.length c0_1) (.slice none 0 0) (.slice none 0 0))) (fun _ t14 _ => l0_0.length - (intOf t14).toNat)
    case atStart => exact ⟨0, rfl, rfl, Nat.zero_le _, O1, U3⟩
    case round =>
      obtain ⟨j, rfl, rfl, hj, O, U⟩ := hrel
      have hpl := protL_len a1 a2 a3 T d j
      rw [HLK.out, ← HLD.out] at hpl
      by_cases hjd : j < d.length
      · have hpg := protL_get a1 a2 a3 T d j hjd (by rw [hpl, HLK.out, HLD.out]; omega)
        have hps := protL_set a1 a2 a3 T d j hjd
        have STEP := Lib.hid (show ∀ W : World, OwnB mpE 53 W g cap (protL a1 a2 a3 T d j) → OwnB mpE 53 (W.setCell ⟨g, (k0 + j) * 2 + 1, none⟩ (.int .i64 a3)) g cap (protL a1 a2 a3 T d (j + 1)) from fun W hO => by
          have := mp_set1 hO (i := T.length + j) (by rw [hpl, HLK.out, HLD.out]; omega) a3
          rw [hpg, hps, HLK.out] at this
          exact this)
        have hr1 := runP_lt a1 a2 d j hjd
        have hr2 := fun e : j = runP a1 a2 d => runP_at a1 a2 d (by rw [← e]; exact hjd)
        have HR2 : Hid (j = runP a1 a2 d → withB d[j].f0 a1 a2 = false) := Lib.hid (fun e => by have := hr2 e; simp only [← e] at this; exact this)
        clear hr2
        have e0 := O.out.cell mpE_2 (show T.length + j < _ by rw [hpl, HLK.out, HLD.out]; omega) (j := 0) (by omega)
        rw [hpg] at e0
        generalize hx : d[j] = x at e0 hr1 HR2
        simp only [mpE, List.getElem?_cons_zero, Nat.add_zero] at e0
        rw [HLK.out] at e0
        have hlt : k0 + j < l0_0.length := by rw [HLD.out]; omega
        have WI := Lib.hid (fun w => host_within.calls _ _ _ _ w (withB_some x.f0 a1 a2))
        have HPL := Lib.hid hpl
        clear hps hpg hx
        clear hpl
        cases hw : withB x.f0 a1 a2
        · rw [hw] at WI
          have hjr : j = runP a1 a2 d := by
            rcases Nat.lt_or_ge j (runP a1 a2 d) with h1 | h1
            · have := hr1 h1
              rw [hw] at this
              cases this
            · omega
          have HJ := Lib.hid hjr
          clear hr1 HR2 hjr
          go_upto_region 11 with (go_at_call 36; (with_reducible refine (WI.out _).mono ?_); rintro ex w5 ⟨rfl, ⟨nd, rfl⟩⟩; have HB := Lib.hid (pw_below_drewN (Below.refl wr.heap.size wr) nd); have O9 := Lib.hid (O.out.below HB.out); have U9 := Lib.hid (U.out.below HB.out); clear O U; have O := O9; have U := U9; clear O9 U9; generalize World.drewN _ nd = w9 at O U HB ⊢)
          have hRR := mp_R O.out hg
          rw [protL_len, HLK.out, ← HLD.out] at hRR
          have RR := Lib.hid hRR
          clear hRR
          have hjr := HJ.out
          subst hjr
          by_cases hleft : leftP a2 (runP a1 a2 d) > 0
          · rw [if_pos hleft] at h
            simp only [Option.some.injEq, Prod.mk.injEq] at h
            obtain ⟨rfl, rfl, rfl⟩ := h
            have hlb : decide (leftP a2 (runP a1 a2 d) > 0) = true := decide_eq_true hleft
            have h0 := (sblk_cell U.out.h 0).trans rfl
            have h1 := (sblk_cell U.out.h 1).trans rfl
            have kz0 := sblk_free U.out.h 0
            have r0 := (sblk_cell U.out.r 0).trans rfl
            have r1' := (sblk_cell U.out.r 1).trans rfl
            have z0 := sblk_free U.out.r 0
            have z1 := sblk_free U.out.r 1
            go_wp2
            have U3 := U.out.setR (.slice A0_0 l0_0.length c0_0) (.slice A0_1 l0_1.length c0_1)
            have f0 := (sblk_cell U3.r 0).trans rfl
            have f1 := (sblk_cell U3.r 1).trans rfl
            exact bodyPost_ret (v := .tuple #[.agg #[.slice A0_0 l0_0.length c0_0, .slice A0_1 l0_1.length c0_1], .int .i64 2]) (by simp [results, Try.results25, go_sem, hu, f0, f1]) rfl ⟨_, _, rfl, view_old VM.out U3.bel (fun k hk => .inl (.inl hk)), view_old VC.out U3.bel (fun k hk => .inl (.inr hk)), U3.bel⟩
          · rw [if_neg hleft] at h
            simp only [Option.some.injEq, Prod.mk.injEq] at h
            obtain ⟨rfl, rfl, rfl⟩ := h
            have hlb : decide (leftP a2 (runP a1 a2 d) > 0) = false := decide_eq_false hleft
            have h0 := (sblk_cell U.out.h 0).trans rfl
            have h1 := (sblk_cell U.out.h 1).trans rfl
            have kz0 := sblk_free U.out.h 0
            have r0 := (sblk_cell U.out.r 0).trans rfl
            have r1' := (sblk_cell U.out.r 1).trans rfl
            have z0 := sblk_free U.out.r 0
            have z1 := sblk_free U.out.r 1
            go_wp2
            have U3 := (U.out.set0 (.slice (some ⟨g, 0, none⟩) l0_0.length cap)).setR (.slice (some ⟨g, 0, none⟩) l0_0.length cap) (.slice A0_1 l0_1.length c0_1)
            have f0 := (sblk_cell U3.r 0).trans rfl
            have f1 := (sblk_cell U3.r 1).trans rfl
            refine bodyPost_ret (v := .tuple #[.agg #[(.slice (some ⟨g, 0, none⟩) l0_0.length cap), .slice A0_1 l0_1.length c0_1], .int .i64 0]) (by simp [results, Try.results25, go_sem, hu, f0, f1]) rfl ⟨_, _, rfl, ?_, view_old VC.out U3.bel (fun k hk => .inl (.inr hk)), U3.bel⟩
            have RR9 := RR.out
            refine Kd.V_mono (Kd.V_step (Kd.R_V (Kd.R_bound RR9)) (fun k hk _ => (set_far (by have := hk.2.1; omega)).trans ((set_far (by have := hk.2.1; omega)).trans (set_far (by have := hk.2.1; omega))))) (fun k hk => .inr (by have := hk.2.1; omega))
        · rw [hw] at WI HR2
          have hjr : j < runP a1 a2 d := by
            rcases Nat.lt_or_ge j (runP a1 a2 d) with h1 | h1
            · exact h1
            · have := HR2.out (by omega)
              cases this
          clear hr1 HR2
          go_wp2_with (go_at_call 36; (with_reducible refine (WI.out _).mono ?_); rintro ex w5 ⟨rfl, ⟨nd, rfl⟩⟩; have HB := Lib.hid (pw_below_drewN (Below.refl wr.heap.size wr) nd); have O9 := Lib.hid (O.out.below HB.out); have U9 := Lib.hid (U.out.below HB.out); have e1 := O9.out.cell mpE_2 (show k0 + j < _ by rw [HPL.out]; exact hlt) (j := 1) (by omega); have z1 := O9.out.free ((k0 + j) * 2 + 1); simp only [mpE, List.getElem?_cons_zero, List.getElem?_cons_succ] at e1)
          refine ⟨⟨j + 1, by go_num, rfl, hjr, Lib.hid (STEP.out _ O9.out), Lib.hid (U9.out.step ((Below.refl _ _).setCell (p := ⟨g, (k0 + j) * 2 + 1, none⟩) hg _))⟩, by simp [intOf]; omega⟩
      · have hjr : j = runP a1 a2 d := by omega
        have HJ := Lib.hid hjr
        have hge : ¬ (k0 + j < l0_0.length) := by rw [HLD.out]; omega
        clear hjr
        go_upto_region 11 with (fail)
        have hRR := mp_R O.out hg
        rw [protL_len, HLK.out, ← HLD.out] at hRR
        have RR := Lib.hid hRR
        clear hRR
        have hjr := HJ.out
        subst hjr
        by_cases hleft : leftP a2 (runP a1 a2 d) > 0
        · rw [if_pos hleft] at h
          simp only [Option.some.injEq, Prod.mk.injEq] at h
          obtain ⟨rfl, rfl, rfl⟩ := h
          have hlb : decide (leftP a2 (runP a1 a2 d) > 0) = true := decide_eq_true hleft
          have h0 := (sblk_cell U.out.h 0).trans rfl
          have h1 := (sblk_cell U.out.h 1).trans rfl
          have kz0 := sblk_free U.out.h 0
          have r0 := (sblk_cell U.out.r 0).trans rfl
          have r1' := (sblk_cell U.out.r 1).trans rfl
          have z0 := sblk_free U.out.r 0
          have z1 := sblk_free U.out.r 1
          go_wp2
          have U3 := U.out.setR (.slice A0_0 l0_0.length c0_0) (.slice A0_1 l0_1.length c0_1)
          have f0 := (sblk_cell U3.r 0).trans rfl
          have f1 := (sblk_cell U3.r 1).trans rfl
          exact bodyPost_ret (v := .tuple #[.agg #[.slice A0_0 l0_0.length c0_0, .slice A0_1 l0_1.length c0_1], .int .i64 2]) (by simp [results, Try.results25, go_sem, hu, f0, f1]) rfl ⟨_, _, rfl, view_old VM.out U3.bel (fun k hk => .inl (.inl hk)), view_old VC.out U3.bel (fun k hk => .inl (.inr hk)), U3.bel⟩
        · rw [if_neg hleft] at h
          simp only [Option.some.injEq, Prod.mk.injEq] at h
          obtain ⟨rfl, rfl, rfl⟩ := h
          have hlb : decide (leftP a2 (runP a1 a2 d) > 0) = false := decide_eq_false hleft
          have h0 := (sblk_cell U.out.h 0).trans rfl
          have h1 := (sblk_cell U.out.h 1).trans rfl
          have kz0 := sblk_free U.out.h 0
          have r0 := (sblk_cell U.out.r 0).trans rfl
          have r1' := (sblk_cell U.out.r 1).trans rfl
          have z0 := sblk_free U.out.r 0
          have z1 := sblk_free U.out.r 1
          go_wp2
          have U3 := (U.out.set0 (.slice (some ⟨g, 0, none⟩) l0_0.length cap)).setR (.slice (some ⟨g, 0, none⟩) l0_0.length cap) (.slice A0_1 l0_1.length c0_1)
          have f0 := (sblk_cell U3.r 0).trans rfl
          have f1 := (sblk_cell U3.r 1).trans rfl
          refine bodyPost_ret (v := .tuple #[.agg #[(.slice (some ⟨g, 0, none⟩) l0_0.length cap), .slice A0_1 l0_1.length c0_1], .int .i64 0]) (by simp [results, Try.results25, go_sem, hu, f0, f1]) rfl ⟨_, _, rfl, ?_, view_old VC.out U3.bel (fun k hk => .inl (.inr hk)), U3.bel⟩
          have RR9 := RR.out
          refine Kd.V_mono (Kd.V_step (Kd.R_V (Kd.R_bound RR9)) (fun k hk _ => (set_far (by have := hk.2.1; omega)).trans ((set_far (by have := hk.2.1; omega)).trans (set_far (by have := hk.2.1; omega))))) (fun k hk => .inr (by have := hk.2.1; omega))
end Go.Proofs.Ytlmmipdgedfboaa.F
end
