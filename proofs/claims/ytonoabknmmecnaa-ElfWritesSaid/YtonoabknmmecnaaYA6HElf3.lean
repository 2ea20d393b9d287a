import Derived.Below
import Derived.Deep.Draws
import Derived.Deep.AppendLies
import Derived.Maps.AppendAt
import Derived.OwnWalk
import Derived.Laws.BytesArg
import Derived.Laws.MakeOwn
import Derived.Laws.OwnMore
import Derived.Deep.OwnRows
import Derived.Tactics
import Derived.Lib.ConvBytes
import Derived.Laws.Slices
import Derived.WalkKit
import Derived.KernelRfl
import Derived.RowKit3
import Derived.Deep.LoopGhost
import Derived.Deep.QuietTactic
import Derived.BigQuiet
import Derived.WideLaws
import Derived.Deep.DeepCutAuto
import Derived.Deep.CutBlock
import Derived.Deep.RegionHeld3
import Derived.Laws.Rows
import Derived.Lib.AppendStr
import Derived.ArgAppend
import Derived.Laws.IdiomCopy
import Derived.RowKit
import Derived.OrdersHeld
import Derived.Laws.BitsLemmas
import Derived.Laws.StructEq
import Derived.Shelf.Strings.Builder1
import Derived.Shelf.Strings.BuilderF
import Derived.Shelf.Strings.BuilderK
import Derived.RangeFuncNested
import Derived.RangeFuncBound
import Derived.RangeFuncCalls
import Derived.RangeFuncLeaves
import Derived.RangeFuncWrites
import Derived.Shelf.Abstract
import Derived.Shelf.RegionOpen
import Derived.OwnWalkIn
import Derived.TacticsInMore
import Derived.LoopNIn
import Derived.LoopIn
import Derived.Lib.Hide
import Derived.WalkLawsBesides
import Derived.WalkSmall
import Derived.Laws.ResultCell
import Derived.RangeFuncRecord
import Derived.ProofKit
import Derived.Test.YtonoabknmmecnaaZF0
import Derived.Test.YtonoabknmmecnaaYA4
section
namespace Go.Proofs.Ytonoabknmmecnaa.F
open Go.RowKit Go.Shelf Go.Proofs.YtonoabknmmecnaaW.PrintWords Go.Proofs.YtonoabknmmecnaaW.PrintLast Go.Proofs.YtonoabknmmecnaaW.PrintMore
set_option linter.unusedVariables false
set_option linter.unusedSimpArgs false
-- HAND fn=ferry/elf.fits ; rounds=0 ; making=1 ; laid=0
def elf_fits.f (x0 x1 x2 x3 x4 x5 x6 : Int) : Option Bool := some (
  if x0 < 1 then false else if x0 > 3 then false else if Go.bits .andNot .i64 x5 7 ≠ 0 then false
  else if x3 > x4 then false else if ¬ ((x1 + x3) % 4294967296 ≥ x1) then false else if ¬ ((x2 + x4) % 4294967296 ≥ x2) then false
  else if x0 = 1 then (if x6 = 4096 then Int.tmod (Go.bits .xor .u32 x1 x2) 4096 == 0 else false)
  else decide (x6 ≤ 4096))
set_option maxHeartbeats 4000000 in
theorem fits_ends.calls (a n : Int) (w : World) : Calls Try.prog 44 #[.int .u32 a, .int .u32 n] w fun e w' => e = .returned (.bool (decide (a ≤ (a + n) % 4294967296))) ∧ w' = w := by
  go_enter Try.func44, Try.ntmps44
  go_wp2
  go_ret
  exact ⟨rfl, rfl⟩
set_option maxHeartbeats 8000000 in
set_option maxRecDepth 100000 in
theorem elf_fits.calls (x0 x1 x2 x3 x4 x5 x6 : Int) (r : Bool) (w : World) (h : elf_fits.f x0 x1 x2 x3 x4 x5 x6 = some r) :
    Calls Try.prog 31 #[.agg #[.int .i64 x0, .int .u32 x1, .int .u32 x2, .int .u32 x3, .int .u32 x4, .int .i64 x5, .int .u32 x6]] w fun e w' => e = .returned (.bool r) ∧ Below w.heap.size w w' := by
  unfold elf_fits.f at h
  replace h := Option.some.inj h
  have EN := Lib.hid fits_ends.calls
  have TB := Lib.hid ((Below.refl _ w).alloc (Nat.le_refl _) (.cells #[.int .i64 x0, .int .u32 x1, .int .u32 x2, .int .u32 x3, .int .u32 x4, .int .i64 x5, .int .u32 x6] 39))
  by_cases g : x0 < 1
  · rw [if_pos g] at h
    have b0 : decide (x0 < 1) = true := decide_eq_true (by omega)
    clear g
    subst h
    go_enter Try.func31, Try.ntmps31
    go_wp2_with (go_at_call 44; refine (EN.out _ _ _).mono ?_; rintro e w' ⟨rfl, rfl⟩)
    go_ret
    exact ⟨rfl, TB.out⟩
  rw [if_neg g] at h
  have b0 : decide (x0 < 1) = false := decide_eq_false (by omega)
  clear g
  by_cases g : x0 > 3
  · rw [if_pos g] at h
    have b1 : decide (3 < x0) = true := decide_eq_true (by omega)
    clear g
    subst h
    go_enter Try.func31, Try.ntmps31
    go_wp2_with (go_at_call 44; refine (EN.out _ _ _).mono ?_; rintro e w' ⟨rfl, rfl⟩)
    go_ret
    exact ⟨rfl, TB.out⟩
  rw [if_neg g] at h
  have b1 : decide (3 < x0) = false := decide_eq_false (by omega)
  clear g
  by_cases g : Go.bits .andNot .i64 x5 7 ≠ 0
  · rw [if_pos g] at h
    have b2 : (Go.bits .andNot .i64 x5 7 != 0) = true := bne_iff_ne.2 g
    clear g
    subst h
    go_enter Try.func31, Try.ntmps31
    go_wp2_with (go_at_call 44; refine (EN.out _ _ _).mono ?_; rintro e w' ⟨rfl, rfl⟩)
    go_ret
    exact ⟨rfl, TB.out⟩
  rw [if_neg g] at h
  have b2 : (Go.bits .andNot .i64 x5 7 != 0) = false := bne_eq_false_iff_eq.2 (by omega)
  clear g
  by_cases g : x3 > x4
  · rw [if_pos g] at h
    have b3 : decide (x4 < x3) = true := decide_eq_true (by omega)
    clear g
    subst h
    go_enter Try.func31, Try.ntmps31
    go_wp2_with (go_at_call 44; refine (EN.out _ _ _).mono ?_; rintro e w' ⟨rfl, rfl⟩)
    go_ret
    exact ⟨rfl, TB.out⟩
  rw [if_neg g] at h
  have b3 : decide (x4 < x3) = false := decide_eq_false (by omega)
  clear g
  by_cases g : ¬ ((x1 + x3) % 4294967296 ≥ x1)
  · rw [if_pos g] at h
    have b4 : decide (x1 ≤ (x1 + x3) % 4294967296) = false := decide_eq_false (by omega)
    clear g
    subst h
    go_enter Try.func31, Try.ntmps31
    go_wp2_with (go_at_call 44; refine (EN.out _ _ _).mono ?_; rintro e w' ⟨rfl, rfl⟩)
    go_ret
    exact ⟨rfl, TB.out⟩
  rw [if_neg g] at h
  have b4 : decide (x1 ≤ (x1 + x3) % 4294967296) = true := decide_eq_true (by omega)
  clear g
  by_cases g : ¬ ((x2 + x4) % 4294967296 ≥ x2)
  · rw [if_pos g] at h
    have b5 : decide (x2 ≤ (x2 + x4) % 4294967296) = false := decide_eq_false (by omega)
    clear g
    subst h
    go_enter Try.func31, Try.ntmps31
    go_wp2_with (go_at_call 44; refine (EN.out _ _ _).mono ?_; rintro e w' ⟨rfl, rfl⟩)
    go_ret
    exact ⟨rfl, TB.out⟩
  rw [if_neg g] at h
  have b5 : decide (x2 ≤ (x2 + x4) % 4294967296) = true := decide_eq_true (by omega)
  clear g
  by_cases g : x0 = 1
  · rw [if_pos g] at h
    have b6 : (x0 == 1) = true := beq_iff_eq.2 g
    clear g
    by_cases g : x6 = 4096
    · rw [if_pos g] at h
      have b7 : (x6 == 4096) = true := beq_iff_eq.2 g
      clear g
      subst h
      go_enter Try.func31, Try.ntmps31
      go_wp2_with (go_at_call 44; refine (EN.out _ _ _).mono ?_; rintro e w' ⟨rfl, rfl⟩)
      go_ret
      exact ⟨rfl, TB.out⟩
    · rw [if_neg g] at h
      have b7 : (x6 == 4096) = false := beq_eq_false_iff_ne.2 g
      clear g
      subst h
      go_enter Try.func31, Try.ntmps31
      go_wp2_with (go_at_call 44; refine (EN.out _ _ _).mono ?_; rintro e w' ⟨rfl, rfl⟩)
      go_ret
      exact ⟨rfl, TB.out⟩
  rw [if_neg g] at h
  have b6 : (x0 == 1) = false := beq_eq_false_iff_ne.2 g
  clear g
  subst h
  go_enter Try.func31, Try.ntmps31
  go_wp2_with (go_at_call 44; refine (EN.out _ _ _).mono ?_; rintro e w' ⟨rfl, rfl⟩)
  go_ret
  exact ⟨rfl, TB.out⟩
def unfit (x : S39) : Bool := !((elf_fits.f x.f0 x.f1 x.f2 x.f3 x.f4 x.f5 x.f6).getD false)
theorem fits_get (x : S39) : elf_fits.f x.f0 x.f1 x.f2 x.f3 x.f4 x.f5 x.f6 = some (!unfit x) := by
  have h : ∃ r, elf_fits.f x.f0 x.f1 x.f2 x.f3 x.f4 x.f5 x.f6 = some r := by unfold elf_fits.f; exact ⟨_, rfl⟩
  obtain ⟨r, h⟩ := h
  unfold unfit
  rw [h]
  cases r <;> rfl
set_option maxHeartbeats 4000000 in
theorem fit_is.calls (x : S39) (w : World) :
    Calls Try.prog 30 #[.agg #[.int .i64 x.f0, .int .u32 x.f1, .int .u32 x.f2, .int .u32 x.f3, .int .u32 x.f4, .int .i64 x.f5, .int .u32 x.f6]] w fun e w' => e = .returned (.bool (unfit x)) ∧ Below w.heap.size w w' := by
  have FT := Lib.hid (fun w => elf_fits.calls _ _ _ _ _ _ _ _ w (fits_get x))
  have s1 : ∀ o, (w.alloc o).heap.size = w.heap.size + 1 := fun o => World.size_alloc w o
  have TB := Lib.hid ((Below.refl _ w).alloc (Nat.le_refl _) (.cells #[.int .i64 x.f0, .int .u32 x.f1, .int .u32 x.f2, .int .u32 x.f3, .int .u32 x.f4, .int .i64 x.f5, .int .u32 x.f6] 39))
  have hu := Try.underlying39
  generalize hU : unfit x = u at FT ⊢
  clear hU
  go_enter Try.func30, Try.ntmps30
  go_wp2_with (go_at_call 31; (with_reducible refine (FT.out _).mono ?_); rintro e w1 ⟨rfl, hb⟩; have BB := Lib.hid (TB.out.trans (hb.mono (by rw [s1]; omega))); clear hb)
  go_ret
  exact ⟨by simp, BB.out⟩
def segIdx {α : Type} (p : α → Bool) : List α → Int
  | [] => -1
  | x :: l => if p x then 0 else (if segIdx p l < 0 then -1 else segIdx p l + 1)
theorem segIdx_none {α : Type} (p : α → Bool) : ∀ (l : List α), (∀ x ∈ l, p x = false) → segIdx p l = -1
  | [], _ => rfl
  | x :: l, h => by
    unfold segIdx
    rw [h x List.mem_cons_self, segIdx_none p l (fun y hy => h y (List.mem_cons_of_mem _ hy))]
    rfl
theorem segIdx_at {α : Type} (p : α → Bool) : ∀ (l : List α) (k : Nat) (hk : k < l.length), (∀ j (hj : j < k), p (l[j]'(by omega)) = false) → p l[k] = true → segIdx p l = k
  | x :: l, 0, _, _, h => by
    unfold segIdx
    exact if_pos h
  | x :: l, k + 1, hk, hn, h => by
    unfold segIdx
    have h0 : p x = false := hn 0 (by omega)
    have ih := segIdx_at p l k (by simpa using hk) (fun j hj => hn (j + 1) (by omega)) h
    rw [h0, ih, if_neg (by simp), if_neg (by omega)]
    omega
theorem segIdx_any {α : Type} (p : α → Bool) : ∀ (l : List α), decide (0 ≤ segIdx p l) = l.any p
  | [] => rfl
  | x :: l => by
    have ih := segIdx_any p l
    unfold segIdx
    rw [List.any_cons]
    by_cases hp : p x = true
    · rw [if_pos hp, hp]
      rfl
    · rw [if_neg hp, ← ih]
      have hp' : p x = false := by cases h : p x; rfl; exact absurd h hp
      rw [hp', Bool.false_or]
      by_cases h0 : segIdx p l < 0
      · rw [if_pos h0, decide_eq_false (by omega), decide_eq_false (by omega)]
      · rw [if_neg h0, decide_eq_true (by omega), decide_eq_true (by omega)]
set_option maxHeartbeats 4000000 in
set_option maxRecDepth 100000 in
theorem seg_idx.calls (A : Option Addr) (c : Nat) (l : List S39) (w : World) (hr : Kd.C k39 w A l.length l) (hc : l.length ≤ c) (hl : l.length ≤ 1000000) :
    Calls Try.prog 43 #[.slice A l.length c, .func (.func 30) #[] #[]] w fun ex w' => ex = .returned (.int .i64 (segIdx unfit l)) ∧ Below w.heap.size w w' := by
  have HE := Lib.hid fit_is.calls
  have HN := Lib.hid (fun h => segIdx_none unfit l h)
  have HA := Lib.hid (fun k hk hn h => segIdx_at unfit l k hk hn h)
  generalize segIdx unfit l = R at HN HA ⊢
  generalize unfit = P at HE HN HA
  have HR := Lib.hid hr
  clear hr
  go_enter Try.func43, Try.ntmps43
  go_wp2
  go_loopw [8] (fun t wr => ∃ k : Nat, t = .int .i64 k ∧ k ≤ l.length ∧ (∀ j (hj : j < l.length), j < k → P l[j] = false) ∧ Below w.heap.size w wr) (fun t _ => l.length - (intOf t).toNat)
  case atStart => exact ⟨0, rfl, Nat.zero_le _, fun j _ hj => by omega, Below.refl _ _⟩
  case round =>
    obtain ⟨k, rfl, hk, hn, hB⟩ := hrel
    by_cases hlt : k < l.length
    · obtain ⟨ad, rfl, c0, c1, c2, c3, c4, c5, c6⟩ := at_T39 (Kd.C_below HR.out hB) (k : Int) (by omega) (by omega)
      have hx : rd_T39 l (k : Int) = l[k] := by
        unfold rd_T39
        simp [hlt]
      rw [hx, Int.toNat_natCast] at c0 c1 c2 c3 c4 c5 c6
      have hn' := Lib.hid hn
      clear hn hx
      cases hb : P l[k]
      · go_wp2_with (go_at_call 30; (with_reducible refine (HE.out l[k] _).mono ?_); rintro ex w2 ⟨rfl, hb2⟩)
        refine ⟨⟨k + 1, by go_num, hlt, fun j hj hjk => ?_, hB.trans (hb2.mono hB.size)⟩, by simp [intOf]; omega⟩
        rcases Nat.lt_or_ge j k with h1 | h1
        · exact hn'.out j hj h1
        · obtain rfl : j = k := by omega
          exact hb
      · have hR := HA.out k hlt (fun j hj => hn'.out j (by omega) hj) hb
        subst hR
        go_wp2_with (go_at_call 30; (with_reducible refine (HE.out l[k] _).mono ?_); rintro ex w2 ⟨rfl, hb2⟩)
        go_ret
        exact ⟨rfl, hB.trans (hb2.mono hB.size)⟩
    · have e4 : k = l.length := by omega
      have hR := HN.out (fun x hx => by
        obtain ⟨j, hj, rfl⟩ := List.getElem_of_mem hx
        exact hn j hj (by omega))
      subst hR
      clear hn HA HN
      subst e4
      go_wp2
      go_ret
      exact ⟨rfl, hB⟩
set_option maxHeartbeats 4000000 in
theorem seg_any.calls (A : Option Addr) (c : Nat) (l : List S39) (w : World) (hr : Kd.C k39 w A l.length l) (hc : l.length ≤ c) (hl : l.length ≤ 1000000) :
    Calls Try.prog 29 #[.slice A l.length c, .func (.func 30) #[] #[]] w fun ex w' => ex = .returned (.bool (l.any unfit)) ∧ Below w.heap.size w w' := by
  have IX := Lib.hid (seg_idx.calls A c l w hr hc hl)
  rw [← segIdx_any]
  generalize segIdx unfit l = q at IX ⊢
  go_enter Try.func29, Try.ntmps29
  go_wp2_with (go_at_call 43; (with_reducible refine IX.out.mono ?_); rintro e w1 ⟨rfl, hb⟩)
  go_ret
  exact ⟨rfl, hb⟩
-- HAND fn=ferry/elf.Fit ; rounds=0 ; making=1 ; laid=0
def elf_Fit.f (a0_0 : Bool) (a0_1 : Int) (l0_2 : List S39) : Option Bool := some (if l0_2.length ≤ 16 then !(l0_2.any unfit) else false)
set_option maxHeartbeats 4000000 in
set_option maxRecDepth 100000 in
theorem elf_Fit.calls (a0_0 : Bool) (a0_1 : Int) (A0_2 : Option Addr) (c0_2 : Nat) (l0_2 : List S39) (r : Bool) (w : World) (hr0_2 : Kd.C k39 w A0_2 l0_2.length l0_2) (hc0_2 : l0_2.length ≤ c0_2) (h : elf_Fit.f a0_0 a0_1 l0_2 = some r) :
    Calls Try.prog 15 #[.agg #[.bool a0_0, .int .u32 a0_1, .slice A0_2 l0_2.length c0_2]] w fun e w' => e = .returned (.bool r) ∧ Below w.heap.size w w' := by
  unfold elf_Fit.f at h
  replace h := Option.some.inj h
  have s1 : ∀ o, (w.alloc o).heap.size = w.heap.size + 1 := fun o => World.size_alloc w o
  have TB := (Below.refl _ w).alloc (Nat.le_refl _) (.cells #[.bool a0_0, .int .u32 a0_1, .slice A0_2 l0_2.length c0_2] 26)
  have HC := Lib.hid (Kd.C_below hr0_2 TB)
  have TB := Lib.hid TB
  by_cases hl : l0_2.length ≤ 16
  · rw [if_pos hl] at h
    have CF := Lib.hid (fun w hr => seg_any.calls A0_2 c0_2 l0_2 w hr hc0_2 (by omega))
    have b0 : decide (((l0_2.length : Nat) : Int) ≤ 16) = true := decide_eq_true (by omega)
    generalize l0_2.any unfit = q at h CF
    subst h
    clear hr0_2
    go_enter Try.func15, Try.ntmps15
    go_wp2_with (go_at_call 29; (with_reducible refine (CF.out _ HC.out).mono ?_); rintro e w1 ⟨rfl, hb⟩; have BB := Lib.hid (TB.out.trans (hb.mono (by rw [s1]; omega))); clear hb)
    go_ret
    exact ⟨rfl, BB.out⟩
  · rw [if_neg hl] at h
    have b0 : decide (((l0_2.length : Nat) : Int) ≤ 16) = false := decide_eq_false (by omega)
    subst h
    clear hr0_2
    go_enter Try.func15, Try.ntmps15
    go_wp2
    go_ret
    exact ⟨rfl, TB.out⟩
end Go.Proofs.Ytonoabknmmecnaa.F
end
