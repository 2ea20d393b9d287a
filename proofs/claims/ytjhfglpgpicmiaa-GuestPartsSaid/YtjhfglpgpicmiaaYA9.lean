import Derived.Below
import Derived.Deep.Draws
import Derived.Deep.AppendLies
import Derived.Maps.AppendAt
import Derived.OwnWalk
import Derived.Laws.BytesArg
import Derived.Laws.MakeOwn
import Derived.Laws.OwnMore
import Derived.Deep.OwnRows
import Derived.Tactics
import Derived.Lib.ConvBytes
import Derived.Laws.Slices
import Derived.WalkKit
import Derived.KernelRfl
import Derived.RowKit3
import Derived.Deep.LoopGhost
import Derived.Deep.QuietTactic
import Derived.BigQuiet
import Derived.WideLaws
import Derived.Deep.DeepCutAuto
import Derived.Deep.CutBlock
import Derived.Deep.RegionHeld3
import Derived.Laws.Rows
import Derived.Lib.AppendStr
import Derived.ArgAppend
import Derived.Laws.IdiomCopy
import Derived.RowKit
import Derived.OrdersHeld
import Derived.Laws.BitsLemmas
import Derived.Laws.StructEq
import Derived.OwnWalkIn
import Derived.WalkSmall
import Derived.Laws.ResultCell
import Derived.ProofKit
import Derived.Lib.Hide
import Derived.Shelf.RegionOpen
import Derived.Shelf.Abstract
import Derived.Test.YtjhfglpgpicmiaaZF0
import Derived.Test.YtjhfglpgpicmiaaYA0
section
namespace Go.Proofs.Ytjhfglpgpicmiaa.F
open Go.RowKit Go.Proofs.YtjhfglpgpicmiaaW.PrintWords Go.Proofs.YtjhfglpgpicmiaaW.PrintLast Go.Proofs.YtjhfglpgpicmiaaW.PrintMore
attribute [local go_sem] max2_int min2_int max_two min_two max_three min_three max_four min_four
set_option linter.unusedVariables false
set_option linter.unusedSimpArgs false

def guest_Place.f (l0_0 : List (S55)) (l0_1 : List (S60)) (a0_2 : Int) (l0_3 : List (S39)) (a1 : Int) : Option (Int) := some (IntKind.u64.wrap (a0_2 + (IntKind.u64.wrap (a1))))
set_option maxHeartbeats 8000000 in
set_option maxRecDepth 100000 in
theorem guest_Place.calls (A0_0 : Option Addr) (c0_0 : Nat) (l0_0 : List (S55)) (A0_1 : Option Addr) (c0_1 : Nat) (l0_1 : List (S60)) (a0_2 : Int) (A0_3 : Option Addr) (c0_3 : Nat) (l0_3 : List (S39)) (a1 : Int) (r : Int) (w : World) (hr0_0 : Kd.C k55 w A0_0 l0_0.length l0_0) (hc0_0 : l0_0.length ≤ c0_0) (hr0_1 : Kd.C k60 w A0_1 l0_1.length l0_1) (hc0_1 : l0_1.length ≤ c0_1) (hr0_3 : Kd.C k39 w A0_3 l0_3.length l0_3) (hc0_3 : l0_3.length ≤ c0_3) (h : guest_Place.f l0_0 l0_1 a0_2 l0_3 a1 = some r) :
    Calls Try.prog 26 #[.agg #[.slice A0_0 l0_0.length c0_0, .slice A0_1 l0_1.length c0_1, .int .u64 a0_2, .slice A0_3 l0_3.length c0_3], .int .u32 a1] w fun e w' => e = .returned (.int .u64 r) ∧ Below w.heap.size w w' := by
  have hu29 := Try.underlying29
  have HR0_0 := Aside0.mk hr0_0
  have HC0_0 := Aside0.mk hc0_0
  clear hr0_0 hc0_0
  have HR0_1 := Aside0.mk hr0_1
  have HC0_1 := Aside0.mk hc0_1
  clear hr0_1 hc0_1
  have HR0_3 := Aside0.mk hr0_3
  have HC0_3 := Aside0.mk hc0_3
  clear hr0_3 hc0_3
  have HB := Aside0.mk (Below.refl w.heap.size w)
  have H : (some (IntKind.u64.wrap (a0_2 + (IntKind.u64.wrap (a1))))) = some r := h
  clear h
  obtain rfl := Option.some.inj H
  go_enter Try.func26, Try.ntmps26
  go_wp2_with (first | ((with_reducible refine gate_dst (N := 2) rfl ?_); refine box_event ?hg (N := 2) ?hd (cs := #[.slice A0_0 l0_0.length c0_0, .slice A0_1 l0_1.length c0_1, .int .u64 a0_2, .slice A0_3 l0_3.length c0_3]) (t := 29) ?hr ?_; (case hd => rfl); (case hg => rfl); (case hr => first | (go_simp; done) | (go_simp; rfl)); intro gb125 hg w3 hbox hb; have n0_ := Aside0.mk (below_step beT_ hb); have n1_ := Aside0.mk (hbox); have n2_ := Aside0.mk ((by rw [hg]; exact (below_size beT_) : w.heap.size ≤ gb125)); have n3_ := Aside0.mk ((by rw [hg]; exact (below_size beT_) : w.heap.size ≤ gb125)); clear HB; have HB := n0_; have BK125 := n1_; have GW125 := n2_; have GE125 := n3_; clear n0_ n1_ n2_ n3_; clear hb hbox hg; have hcz4_0 : w3.cell? ⟨gb125, 0, none⟩ = some (.slice A0_0 l0_0.length c0_0) := (blk_cell BK125.out 0).trans rfl; have hcz4_1 : w3.cell? ⟨gb125, 1, none⟩ = some (.slice A0_1 l0_1.length c0_1) := (blk_cell BK125.out 1).trans rfl; have hcz4_2 : w3.cell? ⟨gb125, 2, none⟩ = some (.int .u64 a0_2) := (blk_cell BK125.out 2).trans rfl; have hcz4_3 : w3.cell? ⟨gb125, 3, none⟩ = some (.slice A0_3 l0_3.length c0_3) := (blk_cell BK125.out 3).trans rfl; have hfz4_0 := blk_frozen BK125.out 0; have hfz4_1 := blk_frozen BK125.out 1; have hfz4_2 := blk_frozen BK125.out 2; have hfz4_3 := blk_frozen BK125.out 3))
  go_ret
  exact ⟨by first | rfl | (simp [errW_none, errW_some] <;> rfl) | (simp [*, errW_none, errW_some] <;> rfl), by repeat (first | (with_reducible first | exact HB.out | apply below_alloc | apply pw_below_drewN | apply below_drew1 | refine below_set ?_ GE125.out) | exact HB.out)⟩

end Go.Proofs.Ytjhfglpgpicmiaa.F
end
section
namespace Go.Proofs.Ytjhfglpgpicmiaa.F
open Go.RowKit Go.Shelf Go.Proofs.YtjhfglpgpicmiaaW.PrintWords Go.Proofs.YtjhfglpgpicmiaaW.PrintLast Go.Proofs.YtjhfglpgpicmiaaW.PrintMore
set_option linter.unusedVariables false
set_option linter.unusedSimpArgs false
theorem cmp32_nan.calls (a : Int) (w : World) : Calls Try.prog 99 #[.int .u32 a] w fun e w' => e = .returned (.bool false) ∧ w' = w := by
  go_enter Try.func99, Try.ntmps99
  go_wp2
  go_ret
  exact ⟨by simp, rfl⟩
set_option maxHeartbeats 4000000 in
theorem cmp32.calls (a b : Int) (w : World) : Calls Try.prog 78 #[.int .u32 a, .int .u32 b] w fun e w' => e = .returned (.int .i64 (cmpI a b)) ∧ w' = w := by
  have NN := Lib.hid cmp32_nan.calls
  rcases Int.lt_trichotomy a b with h | h | h
  · have e : cmpI a b = -1 := if_pos h
    rw [e]
    clear e
    go_enter Try.func78, Try.ntmps78
    go_wp2_with (go_at_call 99; (with_reducible refine (NN.out _ _).mono ?_); rintro e w1 ⟨rfl, rfl⟩)
    go_ret
    exact ⟨rfl, rfl⟩
  · subst h
    have e : cmpI a a = 0 := by simp [cmpI]
    rw [e]
    clear e
    go_enter Try.func78, Try.ntmps78
    go_wp2_with (go_at_call 99; (with_reducible refine (NN.out _ _).mono ?_); rintro e w1 ⟨rfl, rfl⟩)
    go_ret
    exact ⟨rfl, rfl⟩
  · have e : cmpI a b = 1 := by unfold cmpI; rw [if_neg (by omega), if_pos h]
    rw [e]
    clear e
    go_enter Try.func78, Try.ntmps78
    go_wp2_with (go_at_call 99; (with_reducible refine (NN.out _ _).mono ?_); rintro e w1 ⟨rfl, rfl⟩)
    go_ret
    exact ⟨rfl, rfl⟩
abbrev pgK (x : S39) : Int := x.f0
theorem pg_read {l : List S39} {k : Nat} (h : k < l.length) : rd_T39 l (k : Int) = l[k] := by
  unfold rd_T39
  simp [h]
set_option maxHeartbeats 4000000 in
theorem at1.calls (x : S39) (key : Int) (w : World) : Calls Try.prog 77 #[.agg #[.int .u32 x.f0, .int .i64 x.f1], .int .u32 key] w fun e w' => e = .returned (.int .i64 (cmpI x.f0 key)) ∧ Below w.heap.size w w' := by
  have TB := Lib.hid ((Below.refl _ w).alloc (Nat.le_refl _) (.cells #[.int .u32 x.f0, .int .i64 x.f1] 39))
  have HC := Lib.hid cmp32.calls
  have hu := Try.underlying39
  go_enter Try.func77, Try.ntmps77
  go_wp2_with (go_at_call 78; (with_reducible refine (HC.out _ _ _).mono ?_); rintro e w2 ⟨rfl, rfl⟩)
  go_ret
  exact ⟨rfl, TB.out⟩
set_option maxHeartbeats 8000000 in
set_option maxRecDepth 100000 in
theorem pg_bsf.calls (A : Option Addr) (c : Nat) (l : List S39) (key : Int) (w : World) (hr : Kd.C k39 w A l.length l) (hc : l.length ≤ c) (hl : l.length ≤ 1000000) (hs : Rises pgK l) :
    Calls Try.prog 76 #[.slice A l.length c, .int .u32 key, .func (.func 77) #[] #[]] w fun e w' => e = .returned (.tuple #[.int .i64 (lowB pgK key l : Nat), .bool (has pgK key l)]) ∧ Below w.heap.size w w' := by
  have CL := Lib.hid (fun (x : S39) (W : World) (_ : Below w.heap.size w W) => at1.calls x key W)
  have HS := Lib.hid hs
  have HR := Lib.hid hr
  have hlo : lowB pgK key l = lowB pgK key l := rfl
  generalize hN : lowB pgK key l = N at hlo ⊢
  have EN := Lib.hid hN
  generalize hH : has pgK key l = H at ⊢
  have EH := Lib.hid hH
  clear hN hH hlo hs hr
  go_enter Try.func76, Try.ntmps76
  go_wp2
  go_loopw [9, 10] (fun t9 t10 wr => ∃ lo hi : Nat, t9 = .int .i64 lo ∧ t10 = .int .i64 hi ∧ lo ≤ hi ∧ hi ≤ l.length ∧ Hid ((∀ j (hj : j < l.length), j < lo → pgK l[j] < key) ∧ (∀ j (hj : j < l.length), hi ≤ j → key ≤ pgK l[j])) ∧ Hid (Below w.heap.size w wr)) (fun t9 t10 _ => (intOf t10 - intOf t9).toNat)
  case atStart => exact ⟨0, l.length, rfl, rfl, Nat.zero_le _, Nat.le_refl _, Lib.hid ⟨fun j _ h => absurd h (Nat.not_lt_zero _), fun j hj h => absurd hj (Nat.not_lt.2 h)⟩, Lib.hid (Below.refl _ _)⟩
  case round =>
    obtain ⟨lo, hi, rfl, rfl, hlh, hil, I, hB⟩ := hrel
    by_cases hlt : lo < hi
    · have hm : (lo + hi) / 2 < l.length := by omega
      have hm1 : lo ≤ (lo + hi) / 2 := by omega
      have hm2 : (lo + hi) / 2 < hi := by omega
      obtain ⟨ad, rfl, c0, c1⟩ := at_T39 (Kd.C_below HR.out hB.out) (((lo + hi) / 2 : Nat) : Int) (by omega) (by omega)
      rw [pg_read hm, Int.toNat_natCast] at c0 c1
      generalize hx : l[(lo + hi) / 2] = x at c0 c1
      have EX := Lib.hid hx
      clear hx
      by_cases hcmp : cmpI x.f0 key < 0
      · go_wp2_with (go_at_call 77; (with_reducible refine (CL.out x _ hB.out).mono ?_); rintro ex w2 ⟨rfl, hb2⟩)
        refine ⟨⟨(lo + hi) / 2 + 1, hi, by go_num, rfl, by omega, hil, Lib.hid ⟨fun j hj hjl => ?_, I.out.2⟩, Lib.hid (hB.out.trans (hb2.mono hB.out.size))⟩, by simp [intOf]; omega⟩
        have hlt' := cmpI_neg hcmp
        rcases Nat.lt_or_ge j ((lo + hi) / 2) with h | h
        · have := rises_get pgK HS.out j _ hm h
          rw [EX.out] at this
          exact Int.lt_trans this hlt'
        · obtain rfl : j = (lo + hi) / 2 := by omega
          rw [EX.out]
          exact hlt'
      have HGE := Lib.hid (cmpI_pos hcmp)
      go_wp2_with (go_at_call 77; (with_reducible refine (CL.out x _ hB.out).mono ?_); rintro ex w2 ⟨rfl, hb2⟩)
      refine ⟨⟨lo, (lo + hi) / 2, rfl, rfl, hm1, by omega, Lib.hid ⟨I.out.1, fun j hj hjl => ?_⟩, Lib.hid (hB.out.trans (hb2.mono hB.out.size))⟩, by simp [intOf]; omega⟩
      have hge' := HGE.out
      rcases Nat.lt_or_eq_of_le hjl with h | h
      · have := rises_get pgK HS.out _ j hj h
        rw [EX.out] at this
        exact Int.le_of_lt (Int.lt_of_le_of_lt hge' this)
      · subst h
        rw [EX.out]
        exact hge'
    obtain rfl : hi = lo := by omega
    have hn := lowB_of pgK HS.out hi hil I.out.1 I.out.2
    rw [EN.out] at hn
    subst hn
    have hh := has_lowB pgK (k := key) HS.out
    rw [EH.out, EN.out] at hh
    by_cases hlt2 : N < l.length
    · obtain ⟨ad, rfl, c0, c1⟩ := at_T39 (Kd.C_below HR.out hB.out) (N : Int) (by omega) (by omega)
      rw [pg_read hlt2, Int.toNat_natCast] at c0 c1
      rw [List.getElem?_eq_getElem hlt2] at hh
      generalize l[N] = x at c0 c1 hh
      dsimp only at hh
      rw [← cmpI_zero] at hh
      generalize hq : cmpI x.f0 key = q at hh
      have EQ := Lib.hid hq
      have CL2 := Lib.hid (CL.out x _ hB.out)
      rw [hq] at CL2
      clear hq CL
      subst hh
      by_cases hz : q = 0
      · subst hz
        go_wp2_with (go_at_call 77; (with_reducible refine CL2.out.mono ?_); rintro ex w2 ⟨rfl, hb2⟩)
        go_ret2
        exact ⟨by simp, hB.out.trans (hb2.mono hB.out.size)⟩
      have hz1 : (q == 0) = false := beq_eq_false_iff_ne.2 hz
      go_wp2_with (go_at_call 77; (with_reducible refine CL2.out.mono ?_); rintro ex w2 ⟨rfl, hb2⟩)
      go_ret2
      exact ⟨by simp [hz], hB.out.trans (hb2.mono hB.out.size)⟩
    rw [List.getElem?_eq_none (by omega)] at hh
    dsimp only at hh
    subst hh
    go_wp2
    go_ret2
    exact ⟨rfl, hB.out⟩
-- HAND fn=ferry/guest.at ; rounds=0 ; making=1 ; laid=0
def guest_at.f (l0 : List S39) (a1 : Int) : Option (Int × Bool) := if l0.length ≤ 1000000 ∧ risesB pgK l0 = true then some ((lowB pgK a1 l0 : Nat), has pgK a1 l0) else none
set_option maxHeartbeats 4000000 in
theorem guest_at.calls (A0 : Option Addr) (c0 : Nat) (l0 : List S39) (a1 : Int) (r1 : Int) (r2 : Bool) (w : World) (hr0 : Kd.C k39 w A0 l0.length l0) (hc0 : l0.length ≤ c0) (h : guest_at.f l0 a1 = some (r1, r2)) :
    Calls Try.prog 38 #[.slice A0 l0.length c0, .int .u32 a1] w fun e w' => e = .returned (.tuple #[.int .i64 r1, .bool r2]) ∧ Below w.heap.size w w' := by
  unfold guest_at.f at h
  split at h
  · rename_i hh
    obtain ⟨rfl, rfl⟩ := Prod.mk.inj (Option.some.inj h)
    have PL := Lib.hid (fun W (hb : Below w.heap.size w W) => pg_bsf.calls A0 c0 l0 a1 W (Kd.C_below hr0 hb) hc0 hh.1 ((risesB_iff _).1 hh.2))
    clear hh h hr0
    go_enter Try.func38, Try.ntmps38
    go_wp2_with (go_at_call 76; (with_reducible refine (PL.out _ (Below.refl _ _)).mono ?_); rintro ex w2 ⟨rfl, hb2⟩; have B2 := Lib.hid hb2; clear hb2)
    go_ret2
    exact ⟨rfl, B2.out⟩
  · cases h
end Go.Proofs.Ytjhfglpgpicmiaa.F
end
