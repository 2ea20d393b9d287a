import Derived.Below
import Derived.Deep.Draws
import Derived.Deep.AppendLies
import Derived.Maps.AppendAt
import Derived.OwnWalk
import Derived.Laws.BytesArg
import Derived.Laws.MakeOwn
import Derived.Laws.OwnMore
import Derived.Deep.OwnRows
import Derived.Tactics
import Derived.Lib.ConvBytes
import Derived.Laws.Slices
import Derived.WalkKit
import Derived.KernelRfl
import Derived.RowKit3
import Derived.Deep.LoopGhost
import Derived.Deep.QuietTactic
import Derived.BigQuiet
import Derived.WideLaws
import Derived.Deep.DeepCutAuto
import Derived.Deep.CutBlock
import Derived.Deep.RegionHeld3
import Derived.Laws.Rows
import Derived.Lib.AppendStr
import Derived.ArgAppend
import Derived.Laws.IdiomCopy
import Derived.RowKit
import Derived.OrdersHeld
import Derived.Laws.BitsLemmas
import Derived.Laws.StructEq
import Derived.Shelf.Strings.Builder1
import Derived.Shelf.Strings.BuilderF
import Derived.Shelf.Strings.BuilderK
import Derived.RangeFuncNested
import Derived.RangeFuncBound
import Derived.RangeFuncCalls
import Derived.RangeFuncLeaves
import Derived.RangeFuncWrites
import Derived.Shelf.Abstract
import Derived.Shelf.RegionOpen
import Derived.OwnWalkIn
import Derived.TacticsInMore
import Derived.LoopNIn
import Derived.LoopIn
import Derived.Lib.Hide
import Derived.WalkLawsBesides
import Derived.WalkSmall
import Derived.Laws.ResultCell
import Derived.RangeFuncRecord
import Derived.ProofKit
import Derived.Deep.RegionWith
import Derived.Defers
import Derived.Recover
import Derived.Tactics2
import Derived.Lib.Builder
import Derived.Lib.UnsafeStr
import Derived.StillTailTactics
import Derived.OpenShut
import Derived.Deep.Slices
import Derived.SizedLaws
import Derived.Test.YtonoabknmmecnaaZF0
import Derived.Test.YtonoabknmmecnaaYA3HSwap
import Derived.Test.YtonoabknmmecnaaYA4
import Derived.Test.YtonoabknmmecnaaYA5HElf2
import Derived.Test.YtonoabknmmecnaaYA6HElf3
import Derived.Test.YtonoabknmmecnaaYA7HElf4
import Derived.Test.YtonoabknmmecnaaYA8HElf5
import Derived.Test.YtonoabknmmecnaaYA10HElf7
import Derived.Test.YtonoabknmmecnaaYA13
import Derived.Test.YtonoabknmmecnaaYB14
import Derived.Test.YtonoabknmmecnaaYC17
import Derived.Test.YtonoabknmmecnaaYD18
import Derived.Test.YtonoabknmmecnaaYE23PRefBe
import Derived.Test.YtonoabknmmecnaaYE24PElf6
import Derived.Test.YtonoabknmmecnaaYH27
import Derived.Test.YtonoabknmmecnaaYH28FFerryref13Parse
import Derived.Test.YtonoabknmmecnaaYH30
section
namespace Go.Proofs.Ytonoabknmmecnaa.F
open Go.RowKit Go.Proofs.YtonoabknmmecnaaW.PrintWords Go.Proofs.YtonoabknmmecnaaW.PrintLast Go.Proofs.YtonoabknmmecnaaW.PrintMore
set_option linter.unusedVariables false
set_option linter.unusedSimpArgs false
theorem lt_le {f : Int} (h : f < 4294967296) : f ≤ 4294967295 := by omega
theorem wrNum_inj {n : Nat} {v w : Int} (hn : n ≤ 4) (h0 : 0 ≤ v) (h1 : v < 256 ^ n) (h2 : 0 ≤ w) (h3 : w < 256 ^ n) (h : wrNum n v = wrNum n w) : v = w := by
  rw [← beOf_wrNum hn h0 h1, ← beOf_wrNum hn h2 h3, h]
theorem wrNum_split {v : Int} (h0 : 0 ≤ v) (h1 : v < 4294967296) : wrNum 4 v = wrNum 2 (v / 65536) ++ wrNum 2 (v % 65536) := by
  apply ebeOf_inj
  · rw [List.length_append, wrNum_length, wrNum_length, wrNum_length]
  · rw [ebeOf_append, beOf_wrNum (by decide) h0 (by rw [p256]; exact h1), beOf_wrNum (by decide) (by omega) (by rw [p2562]; omega), beOf_wrNum (by decide) (by omega) (by rw [p2562]; omega), wrNum_length, p2562]
    omega
theorem drop_step {α : Type} {b a c : List α} {n m : Nat} (h : b.drop n = a ++ c) (hm : a.length = m) : b.drop (n + m) = c := by
  rw [← List.drop_drop, h, List.drop_left' hm]
theorem num_be {n : Nat} {v : Int} (hn : n ≤ 4) (h0 : 0 ≤ v) (h1 : v < 256 ^ n) : Ev (fun k => ferryref01_Be.f k (mkB (wrNum n v))) v :=
  ⟨9, fun k hk => by
    show ferryref01_Be.f k (mkB (wrNum n v)) = _
    rw [ref_Be_spec _ k hk]
    unfold swap_Be.f swap_number.f
    rw [mkB_size, wrNum_length, if_neg (by omega)]
    simp only [mkB, rBys_mk, Bool.false_eq_true, if_false, Option.bind_some]
    rw [beOf_wrNum hn h0 h1]⟩
theorem ref_word_ev {b t : List UInt8} {a : Int} {n : Nat} {v : Int} (ha : a = (n : Int)) (h : b.drop n = wrNum 4 v ++ t) (h0 : 0 ≤ v) (h1 : v < 4294967296) (hb : b.length < 1000000000000000) : Ev (fun k => ferryref13_word.f k (mkB b) a) v := by
  subst ha
  have hl := congrArg List.length h
  rw [List.length_drop, List.length_append, wrNum_length] at hl
  unfold ferryref13_word.f
  rw [w64_id (show -9223372036854775808 ≤ (n : Int) + 4 by omega) (by omega), mkB_size]
  simp only [if_pos (show (0 : Int) ≤ (n : Int) by omega), if_pos (show (n : Int) ≤ (n : Int) + 4 by omega), if_pos (show (n : Int) + 4 ≤ (b.length : Int) by omega)]
  rw [Int.toNat_natCast, show ((n : Int) + 4).toNat = n + 4 by omega, mkB_extract, h, Nat.add_sub_cancel_left, List.take_left' (wrNum_length 4 v)]
  refine Ev.bind (num_be (by decide) h0 (by rw [p256]; exact h1)) ?_
  rw [Int.emod_eq_of_lt h0 h1]
  exact Ev.now _
theorem ref_half_ev {b t : List UInt8} {a : Int} {n : Nat} {v : Int} (ha : a = (n : Int)) (h : b.drop n = wrNum 2 v ++ t) (h0 : 0 ≤ v) (h1 : v < 65536) (hb : b.length < 1000000000000000) : Ev (fun k => ferryref13_half.f k (mkB b) a) v := by
  subst ha
  have hl := congrArg List.length h
  rw [List.length_drop, List.length_append, wrNum_length] at hl
  unfold ferryref13_half.f
  rw [w64_id (show -9223372036854775808 ≤ (n : Int) + 2 by omega) (by omega), mkB_size]
  simp only [if_pos (show (0 : Int) ≤ (n : Int) by omega), if_pos (show (n : Int) ≤ (n : Int) + 2 by omega), if_pos (show (n : Int) + 2 ≤ (b.length : Int) by omega)]
  rw [Int.toNat_natCast, show ((n : Int) + 2).toNat = n + 2 by omega, mkB_extract, h, Nat.add_sub_cancel_left, List.take_left' (wrNum_length 2 v)]
  refine Ev.bind (num_be (by decide) h0 (by rw [p2562]; exact h1)) ?_
  simp only [w64_id (show -9223372036854775808 ≤ v by omega) (by omega)]
  exact Ev.now _
def fin (size : Int) (sh : Bool) (en : Int) (l : List S39) : Bool × Int × List S39 × Int := if l.any unfit = true then (false, 0, [], 103) else if inAll size l = true then (sh, en, l, 0) else (false, 0, [], 104)
theorem ref_Parse_l1 (b : List UInt8) (n : Nat) (sh : Bool) (en : Int) (l : List S39) (hr : ∀ x ∈ l, segRead x) (hb : b.length < 1000000000000000) (hn : l.length = n) (hn16 : n ≤ 16) : ∀ (d i : Nat), i + d = n →
    Ev (fun k => ferryref13_Parse.l1 k (mkB b) (n : Int) (i : Int) sh en l) (if inAll (b.length : Int) (l.drop i) = true then (sh, en, l, 0) else (false, 0, [], 104))
  | 0, i, h => by
    refine Ev.step (fun _ => rfl) ?_
    rw [List.drop_eq_nil_of_le (by omega)]
    simp only [ferryref13_Parse.l1, if_neg (show ¬ ((i : Int) < (n : Int)) by omega)]
    exact Ev.now _
  | d + 1, i, h => by
    have ih := ref_Parse_l1 b n sh en l hr hb hn hn16 d (i + 1) (by omega)
    have hi : i < l.length := by omega
    obtain ⟨r0, r1, r2, r3, r4, r5, r6⟩ := hr l[i] (List.getElem_mem hi)
    refine Ev.step (fun _ => rfl) ?_
    have u1 : IntKind.u64.wrap (IntKind.u64.wrap l[i].f1 + IntKind.u64.wrap l[i].f3) = l[i].f1 + l[i].f3 := by rw [u64w, u64w, u64w]; omega
    have u2 : IntKind.u64.wrap (b.length : Int) = (b.length : Int) := by rw [u64w]; omega
    simp only [ferryref13_Parse.l1, if_pos (show ((i : Int) < (n : Int)) by omega), if_pos (show (0 : Int) ≤ (i : Int) by omega), if_pos (show ((i : Int) < (l.length : Int)) by omega), w64_id (show -9223372036854775808 ≤ (i : Int) + 1 by omega) (by omega), rd_seg hi, u1, mkB_size, u2]
    have e : inAll (b.length : Int) (l.drop i) = (decide (l[i].f1 + l[i].f3 ≤ (b.length : Int)) && inAll (b.length : Int) (l.drop (i + 1))) := by
      rw [List.drop_eq_getElem_cons hi]
      unfold inAll
      rw [List.all_cons, inRange_eq (size := 0) r1 r3]
    rw [e]
    by_cases hc : l[i].f1 + l[i].f3 ≤ (b.length : Int)
    · rw [decide_eq_true hc, Bool.true_and]
      simp only [if_neg (show ¬ l[i].f1 + l[i].f3 > (b.length : Int) by omega)]
      exact ih
    · rw [decide_eq_false hc, Bool.false_and]
      simp only [if_pos (show l[i].f1 + l[i].f3 > (b.length : Int) by omega), Bool.false_eq_true, if_false]
      exact Ev.now _
theorem ref_Parse_l0 (b : List UInt8) (n : Nat) (sh : Bool) (en : Int) (hb : b.length < 1000000000000000) (hn16 : n ≤ 16) : ∀ (d i : Nat) (acc : List S39) (t : List UInt8), i + d = n → b.drop (52 + 32 * i) = t → d * 32 ≤ t.length → acc.length = i → (∀ x ∈ acc, segRead x) →
    Ev (fun k => ferryref13_Parse.l0 k (mkB b) (n : Int) (i : Int) sh en acc) (match rdSegs d (mkB t) with | .error _ => (false, 0, [], 103) | .ok (l, _) => fin (b.length : Int) sh en (acc ++ l))
  | 0, i, acc, t, h, ht, htl, ha, hr => by
    refine Ev.step (fun _ => rfl) ?_
    simp only [ferryref13_Parse.l0, if_neg (show ¬ ((i : Int) < (n : Int)) by omega), rdSegs, List.append_nil]
    refine Ev.bind (ref_Fit_ev sh en acc (fun x hx => read_wf (hr x hx)) (by omega)) ?_
    rw [decide_eq_true (show acc.length ≤ 16 by omega), Bool.true_and]
    unfold fin
    cases hu : acc.any unfit
    · simp only [Bool.not_false, if_true, Bool.false_eq_true, if_false]
      have := ref_Parse_l1 b n sh en acc hr hb (by omega) hn16 n 0 (by omega)
      rw [List.drop_zero] at this
      exact this
    · simp only [Bool.not_true, Bool.false_eq_true, if_false, if_true]
      exact Ev.now _
  | d + 1, i, acc, t, h, ht, htl, ha, hr => by
    obtain ⟨k, off, at_, ag, sz, room, f, al, t', hq, hl, hk, ho, hat, hag, hsz, hro, hf, hal, e⟩ := rdSeg_front (b := t) (by omega)
    rw [hq] at ht
    have q0 := ht
    have q4 := drop_step q0 (wrNum_length 4 _)
    have q8 := drop_step q4 (wrNum_length 4 _)
    have q12 := drop_step q8 (wrNum_length 4 _)
    have q16 := drop_step q12 (wrNum_length 4 _)
    have q20 := drop_step q16 (wrNum_length 4 _)
    have q24 := drop_step q20 (wrNum_length 4 _)
    have q28 := drop_step q24 (wrNum_length 4 _)
    have q32 := drop_step q28 (wrNum_length 4 _)
    have w32 : wrap64 (32 * (i : Int)) = 32 * (i : Int) := w64_id (by omega) (by omega)
    have w52 : wrap64 (52 + 32 * (i : Int)) = 52 + 32 * (i : Int) := w64_id (by omega) (by omega)
    have wp : ∀ c : Int, 0 ≤ c → c ≤ 28 → wrap64 (52 + 32 * (i : Int) + c) = 52 + 32 * (i : Int) + c := fun c c0 c1 => w64_id (by omega) (by omega)
    refine Ev.step (fun _ => rfl) ?_
    simp only [ferryref13_Parse.l0, if_pos (show ((i : Int) < (n : Int)) by omega), w32, w52, wp 24 (by decide) (by decide), wp 8 (by decide) (by decide), wp 12 (by decide) (by decide)]
    refine Ev.bind (ref_word_ev (by omega) q24 hf.1 hf.2 hb) ?_
    refine Ev.bind (ref_word_ev (by omega) q0 hk.1 hk.2 hb) ?_
    refine Ev.bind (ref_word_ev (by omega) q8 hat.1 hat.2 hb) ?_
    refine Ev.bind (ref_word_ev (by omega) q12 hag.1 hag.2 hb) ?_
    have no : rdSeg (mkB t) = .error 103 → Ev (fun k_ => ferryref13_Parse.j3 k_ (mkB b) (n : Int) (i : Int) (52 + 32 * (i : Int)) f k true sh en acc) (match rdSegs (d + 1) (mkB t) with | .error _ => (false, 0, [], 103) | .ok (l, _) => fin (b.length : Int) sh en (acc ++ l)) := by
      intro he
      refine Ev.step (fun _ => rfl) ?_
      simp only [ferryref13_Parse.j3, if_true, rdSegs, he]
      exact Ev.now _
    by_cases c1 : at_ = ag
    · simp only [if_pos c1]
      by_cases c2 : f > 7
      · simp only [if_pos c2]
        exact no (by rw [e, if_neg (by rintro ⟨_, hh, _⟩; omega)])
      · simp only [if_neg c2]
        by_cases c3 : k > 3
        · simp only [decide_eq_true c3]
          exact no (by rw [e, if_neg (by rintro ⟨_, _, hh⟩; omega)])
        · simp only [decide_eq_false c3]
          have he : rdSeg (mkB t) = .ok (⟨k, off, at_, sz, room, protsOf f, al⟩, mkB t') := by rw [e, if_pos ⟨c1.symm, by omega, by omega⟩]
          have hp := tn_facts hf.1 (show f < 8 by omega)
          have hr' : segRead ⟨k, off, at_, sz, room, protsOf f, al⟩ := ⟨⟨hk.1, by show k < 4; omega⟩, ho, hat, hsz, hro, ⟨hp.2.2.2.1, hp.2.2.2.2.1⟩, hal⟩
          refine Ev.step (fun _ => rfl) ?_
          simp only [ferryref13_Parse.j3, Bool.false_eq_true, if_false, wp 4 (by decide) (by decide), wp 8 (by decide) (by decide), wp 16 (by decide) (by decide), wp 20 (by decide) (by decide), wp 28 (by decide) (by decide)]
          refine Ev.bind (ref_word_ev (by omega) q4 ho.1 ho.2 hb) ?_
          refine Ev.bind (ref_word_ev (by omega) q8 hat.1 hat.2 hb) ?_
          refine Ev.bind (ref_word_ev (by omega) q16 hsz.1 hsz.2 hb) ?_
          refine Ev.bind (ref_word_ev (by omega) q20 hro.1 hro.2 hb) ?_
          refine Ev.bind (prots_ev hf.1 (lt_le hf.2)) ?_
          refine Ev.bind (ref_word_ev (by omega) q28 hal.1 hal.2 hb) ?_
          simp only [if_pos (show acc.length < 3518437208883 by omega), w64_id (show -9223372036854775808 ≤ (i : Int) + 1 by omega) (by omega), w64_id (show -9223372036854775808 ≤ k by omega) (show k ≤ 9223372036854775807 by omega)]
          have q32' : b.drop (52 + 32 * (i + 1)) = t' := by
            rw [show 52 + 32 * (i + 1) = 52 + 32 * i + 4 + 4 + 4 + 4 + 4 + 4 + 4 + 4 by omega]
            exact q32
          have ih := ref_Parse_l0 b n sh en hb hn16 d (i + 1) (acc ++ [⟨k, off, at_, sz, room, protsOf f, al⟩]) t' (by omega) q32' (by omega) (by rw [List.length_append, ha]; rfl) (fun x hx => by
            rcases List.mem_append.1 hx with hx | hx
            · exact hr x hx
            · rw [List.mem_singleton.1 hx]; exact hr')
          have em : (match rdSegs (d + 1) (mkB t) with | .error _ => ((false, 0, [], 103) : Bool × Int × List S39 × Int) | .ok (l, _) => fin (b.length : Int) sh en (acc ++ l)) = (match rdSegs d (mkB t') with | .error _ => (false, 0, [], 103) | .ok (l, _) => fin (b.length : Int) sh en ((acc ++ [⟨k, off, at_, sz, room, protsOf f, al⟩]) ++ l)) := by
            simp only [rdSegs, he]
            cases rdSegs d (mkB t') with
            | error c => rfl
            | ok p => simp only [List.append_assoc, List.singleton_append]
          rw [em]
          exact ih
    · simp only [if_neg c1]
      exact no (by rw [e, if_neg (by rintro ⟨hh, _⟩; exact c1 hh.symm)])
def hd7 (kind v1 entry v2 v3 v4 v5 : Int) : List UInt8 := wrNum 4 kind ++ (wrNum 4 v1 ++ (wrNum 4 entry ++ (wrNum 4 v2 ++ (wrNum 4 v3 ++ (wrNum 4 v4 ++ wrNum 4 v5)))))
theorem hd7_length (kind v1 entry v2 v3 v4 v5 : Int) : (hd7 kind v1 entry v2 v3 v4 v5).length = 28 := by
  unfold hd7
  simp only [List.length_append, wrNum_length]
theorem hd_hd7 (kind v1 entry v2 v3 v4 v5 n h z : Int) (t : List UInt8) : hd kind v1 entry v2 v3 v4 v5 n h z t = hd7 kind v1 entry v2 v3 v4 v5 ++ (wrNum 2 n ++ ((wrNum 2 h ++ wrNum 4 z) ++ t)) := by
  unfold hd hd7
  simp only [List.append_assoc]
theorem app_inj {a b c d : List UInt8} (hl : a.length = c.length) (h : a ++ b = c ++ d) : a = c ∧ b = d := List.append_inj h hl
theorem hd7_eq {kind v1 entry v2 v3 v4 v5 n h z : Int} (R : HdR kind v1 entry v2 v3 v4 v5 n h z) {kind' v1' v2' v3' v4' v5' : Int} (R' : HdR kind' v1' entry v2' v3' v4' v5' 0 0 0) :
    hd7 kind v1 entry v2 v3 v4 v5 = hd7 kind' v1' entry v2' v3' v4' v5' ↔ kind = kind' ∧ v1 = v1' ∧ v2 = v2' ∧ v3 = v3' ∧ v4 = v4' ∧ v5 = v5' := by
  constructor
  · intro h
    unfold hd7 at h
    obtain ⟨h0, h⟩ := app_inj (by simp only [wrNum_length]) h
    obtain ⟨h1, h⟩ := app_inj (by simp only [wrNum_length]) h
    obtain ⟨_, h⟩ := app_inj (by simp only [wrNum_length]) h
    obtain ⟨h2, h⟩ := app_inj (by simp only [wrNum_length]) h
    obtain ⟨h3, h⟩ := app_inj (by simp only [wrNum_length]) h
    obtain ⟨h4, h5⟩ := app_inj (by simp only [wrNum_length]) h
    have q : ∀ {v w : Int}, (0 ≤ v ∧ v < 4294967296) → (0 ≤ w ∧ w < 4294967296) → wrNum 4 v = wrNum 4 w → v = w := fun a b c => wrNum_inj (by decide) a.1 (by rw [p256]; exact a.2) b.1 (by rw [p256]; exact b.2) c
    exact ⟨q R.kind R'.kind h0, q R.v1 R'.v1 h1, q R.v2 R'.v2 h2, q R.v3 R'.v3 h3, q R.v4 R'.v4 h4, q R.v5 R'.v5 h5⟩
  · rintro ⟨rfl, rfl, rfl, rfl, rfl, rfl⟩
    rfl
theorem hz_eq {h z : Int} (h0 : 0 ≤ h ∧ h < 65536) (z0 : 0 ≤ z ∧ z < 4294967296) : (wrNum 2 h ++ wrNum 4 z = wrNum 2 0 ++ wrNum 4 0) ↔ h = 0 ∧ z = 0 := by
  constructor
  · intro e
    obtain ⟨h1, h2⟩ := app_inj (by simp only [wrNum_length]) e
    exact ⟨wrNum_inj (by decide) h0.1 (by rw [p2562]; exact h0.2) (by decide) (by decide) h1, wrNum_inj (by decide) z0.1 (by rw [p256]; exact z0.2) (by decide) (by decide) h2⟩
  · rintro ⟨rfl, rfl⟩
    rfl
theorem take_of_drop {b a c : List UInt8} {n m : Nat} (h : b.drop n = a ++ c) (hm : a.length = m) : (b.drop n).take m = a := by rw [h, List.take_left' hm]
theorem ref_Parse_ev (b : List UInt8) (hb : b.length < 1000000000000000) : Ev (fun k => ferryref13_Parse.f k (mkB b)) (parseOf (rdParse (mkB b))) := by
  unfold ferryref13_Parse.f
  rw [mkB_size]
  by_cases h52 : b.length < 52
  · rw [rdParse_short h52]
    simp only [if_pos (show (b.length : Int) < 52 by omega)]
    exact Ev.now _
  simp only [if_neg (show ¬ (b.length : Int) < 52 by omega), if_pos (show (16 : Int) ≤ (b.length : Int) by omega), if_pos (show (0 : Int) ≤ 16 by decide)]
  rw [mkB_extract, mkB_toList, List.drop_zero, Nat.sub_zero]
  by_cases hm : b.take 16 = magicL
  rotate_left
  · rw [rdParse_bad (by omega) hm]
    simp only [if_neg (show ¬ b.take 16 = ([127, 69, 76, 70, 1, 2, 1, 0, 0, 0, 0, 0, 0, 0, 0, 0] : List UInt8) from hm)]
    exact Ev.now _
  simp only [if_pos (show b.take 16 = ([127, 69, 76, 70, 1, 2, 1, 0, 0, 0, 0, 0, 0, 0, 0, 0] : List UInt8) from hm)]
  obtain ⟨b', rfl⟩ : ∃ b', b = magicL ++ b' := ⟨b.drop 16, by rw [← hm, List.take_append_drop]⟩
  have hl' : 36 ≤ b'.length := by
    rw [List.length_append, magic_len] at h52
    omega
  rw [rdParse_magic (by omega)]
  obtain ⟨kind, v1, entry, v2, v3, v4, v5, n, h, z, t, rfl, R, ht⟩ := hd_front hl'
  rw [rdHeader_nums R]
  generalize hB : magicL ++ hd kind v1 entry v2 v3 v4 v5 n h z t = B at *
  have d16 : B.drop 16 = hd kind v1 entry v2 v3 v4 v5 n h z t := by rw [← hB]; exact List.drop_left' magic_len
  have e16 : B.drop 16 = wrNum 2 (kind / 65536) ++ (wrNum 2 (kind % 65536) ++ (wrNum 4 v1 ++ (wrNum 4 entry ++ (wrNum 4 v2 ++ (wrNum 4 v3 ++ (wrNum 4 v4 ++ (wrNum 4 v5 ++ (wrNum 2 n ++ (wrNum 2 h ++ (wrNum 4 z ++ t)))))))))) := by
    rw [d16, hd, wrNum_split R.kind.1 R.kind.2, List.append_assoc]
  have f16 := d16
  rw [hd] at f16
  have d20 := drop_step f16 (wrNum_length 4 _)
  have d24 := drop_step d20 (wrNum_length 4 _)
  rw [hd_hd7] at d16
  have d44 := drop_step d16 (hd7_length _ _ _ _ _ _ _)
  have d46 := drop_step d44 (wrNum_length 2 _)
  have d52 : B.drop 52 = t := drop_step d46 (by rw [List.length_append, wrNum_length, wrNum_length])
  have hBl : B.length = 52 + t.length := by rw [← hB, List.length_append, hd_length, magic_len]; omega
  refine Ev.bind (ref_half_ev (n := 16) rfl e16 (by have := R.kind; omega) (by have := R.kind; omega) hb) ?_
  refine Ev.bind (ref_half_ev (n := 44) rfl d44 R.n.1 R.n.2 hb) ?_
  refine Ev.bind (ref_word_ev (n := 24) rfl d24 R.entry.1 R.entry.2 hb) ?_
  have no : ∀ s e : Bool × Int, ¬ hdOk kind v1 v2 v3 v4 v5 n h z → Ev (fun k => ferryref13_Parse.j0 k (mkB B) n true s.1 e.2) (parseOf (if hdOk kind v1 v2 v3 v4 v5 n h z then rdBody (B.length : Int) (kind / 65536 == 3) entry n (mkB t) else .error 103)) := by
    intro s e hno
    rw [if_neg hno]
    refine Ev.step (fun _ => rfl) ?_
    simp only [ferryref13_Parse.j0, if_true]
    exact Ev.now _
  by_cases hk : kind / 65536 = 2 ∨ kind / 65536 = 3
  rotate_left
  · simp only [if_neg (fun hh => hk (Or.inl hh)), if_neg (fun hh => hk (Or.inr hh))]
    exact no (kind / 65536 == 3, 0) (true, entry) (by rintro ⟨hh, _⟩; have := R.kind; omega)
  have go : Ev (fun k => ferryref13_Parse.j0 k (mkB B) n (decide (n > 16)) (kind / 65536 == 3) entry) (parseOf (if hdOk kind v1 v2 v3 v4 v5 n h z then rdBody (B.length : Int) (kind / 65536 == 3) entry n (mkB t) else .error 103)) := by
    by_cases hn : n > 16
    · rw [decide_eq_true hn]
      exact no (kind / 65536 == 3, 0) (true, entry) (by rintro ⟨_, _, _, _, _, hh⟩; omega)
    rw [decide_eq_false hn]
    obtain ⟨m, rfl⟩ := Int.eq_ofNat_of_zero_le R.n.1
    refine Ev.step (fun _ => rfl) ?_
    simp only [ferryref13_Parse.j0, Bool.false_eq_true, if_false]
    have hW := ref_Write_ev (kind / 65536 == 3) entry [] ⟨R.entry.1, by have := R.entry.2; omega⟩ (fun x hx => by simp at hx) (by decide)
    rw [if_pos ⟨by decide, rfl⟩] at hW
    refine Ev.bind hW ?_
    have hX := wrHead_hd (kind / 65536 == 3) entry 0 (segBytes [])
    rw [show (([] : List S39).length : Int) = 0 from rfl, hX]
    generalize hkx : (if (kind / 65536 == 3) = true then (196616 : Int) else 131080) = kx
    have hkx' : kx = if kind / 65536 = 3 then 196616 else 131080 := by
      rw [← hkx]
      by_cases h3 : kind / 65536 = 3 <;> simp [h3]
    have R' : HdR kx 1 entry 52 0 1879052288 3407904 0 0 0 := ⟨by rw [hkx']; split <;> decide, by decide, R.entry, by decide, by decide, by decide, by decide, by decide, by decide, by decide⟩
    have x16 : (magicL ++ hd kx 1 entry 52 0 1879052288 3407904 0 0 0 (segBytes [])).drop 16 = hd7 kx 1 entry 52 0 1879052288 3407904 ++ (wrNum 2 0 ++ ((wrNum 2 0 ++ wrNum 4 0) ++ segBytes [])) := by
      rw [List.drop_left' magic_len, hd_hd7]
    have x46 : (magicL ++ hd kx 1 entry 52 0 1879052288 3407904 0 0 0 (segBytes [])).drop 46 = (wrNum 2 0 ++ wrNum 4 0) ++ segBytes [] := drop_step (drop_step x16 (hd7_length _ _ _ _ _ _ _)) (wrNum_length 2 _)
    have xl : (magicL ++ hd kx 1 entry 52 0 1879052288 3407904 0 0 0 (segBytes [])).length = 52 := by rw [List.length_append, hd_length, magic_len]; rfl
    generalize magicL ++ hd kx 1 entry 52 0 1879052288 3407904 0 0 0 (segBytes []) = X at x16 x46 xl
    rw [mkB_size, mkB_size, xl]
    simp only [if_pos (show (16 : Int) ≤ 44 by decide), if_pos (show (44 : Int) ≤ (B.length : Int) by omega), if_pos (show (44 : Int) ≤ ((52 : Nat) : Int) by decide), if_pos (show (46 : Int) ≤ 52 by decide), if_pos (show (52 : Int) ≤ (B.length : Int) by omega), if_pos (show (52 : Int) ≤ ((52 : Nat) : Int) by decide)]
    rw [mkB_extract, mkB_extract, mkB_extract, mkB_extract, mkB_toList, mkB_toList, mkB_toList, mkB_toList, take_of_drop d16 (hd7_length _ _ _ _ _ _ _), take_of_drop x16 (hd7_length _ _ _ _ _ _ _), take_of_drop d46 (by rw [List.length_append, wrNum_length, wrNum_length]), take_of_drop x46 (by rw [List.length_append, wrNum_length, wrNum_length])]
    have noj : ¬ hdOk kind v1 v2 v3 v4 v5 (m : Int) h z → Ev (fun k => ferryref13_Parse.j1 k (mkB B) (m : Int) true (kind / 65536 == 3) entry) (parseOf (if hdOk kind v1 v2 v3 v4 v5 (m : Int) h z then rdBody (B.length : Int) (kind / 65536 == 3) entry (m : Int) (mkB t) else .error 103)) := by
      intro hno
      rw [if_neg hno]
      refine Ev.step (fun _ => rfl) ?_
      simp only [ferryref13_Parse.j1, if_true]
      exact Ev.now _
    by_cases c7 : hd7 kind v1 entry v2 v3 v4 v5 = hd7 kx 1 entry 52 0 1879052288 3407904
    rotate_left
    · simp only [if_neg c7]
      refine noj (fun hh => c7 ((hd7_eq R R').2 ?_))
      obtain ⟨k1, k2, ⟨k3, k4, k5, k6⟩, _⟩ := hh
      refine ⟨?_, k2, k3, k4, k5, k6⟩
      rw [hkx']
      rcases k1 with rfl | rfl <;> decide
    simp only [if_pos c7]
    obtain ⟨k1, k2, k3, k4, k5, k6⟩ := (hd7_eq R R').1 c7
    by_cases c6 : wrNum 2 h ++ wrNum 4 z = wrNum 2 0 ++ wrNum 4 0
    rotate_left
    · have e6 : (wrNum 2 h ++ wrNum 4 z != wrNum 2 0 ++ wrNum 4 0) = true := bne_iff_ne.2 c6
      rw [e6]
      exact noj (fun hh => c6 ((hz_eq R.h R.z).2 ⟨hh.2.2.2.1, hh.2.2.2.2.1⟩))
    have e6 : (wrNum 2 h ++ wrNum 4 z != wrNum 2 0 ++ wrNum 4 0) = false := by rw [c6]; exact bne_self_eq_false _
    rw [e6]
    obtain ⟨k7, k8⟩ := (hz_eq R.h R.z).1 c6
    have hok : hdOk kind v1 v2 v3 v4 v5 (m : Int) h z := ⟨by
      rw [hkx'] at k1
      by_cases h3 : kind / 65536 = 3
      · rw [if_pos h3] at k1; exact Or.inr k1
      · rw [if_neg h3] at k1; exact Or.inl k1, k2, ⟨k3, k4, k5, k6⟩, k7, k8, by omega⟩
    rw [if_pos hok]
    refine Ev.step (fun _ => rfl) ?_
    have w32 : wrap64 (32 * (m : Int)) = 32 * (m : Int) := w64_id (by omega) (by omega)
    have w52 : wrap64 (52 + 32 * (m : Int)) = 52 + 32 * (m : Int) := w64_id (by omega) (by omega)
    simp only [ferryref13_Parse.j1, Bool.false_eq_true, if_false, mkB_size, w32, w52]
    unfold rdBody
    rw [mkB_size, Int.toNat_natCast]
    by_cases hs : t.length < m * 32
    · rw [if_pos hs]
      simp only [if_pos (show (B.length : Int) < 52 + 32 * (m : Int) by omega)]
      exact Ev.now _
    · rw [if_neg hs]
      simp only [if_neg (show ¬ (B.length : Int) < 52 + 32 * (m : Int) by omega)]
      have hl := ref_Parse_l0 B m (kind / 65536 == 3) entry hb (by omega) m 0 [] t (by omega) d52 (by omega) rfl (fun x hx => by simp at hx)
      cases hq : rdSegs m (mkB t) with
      | error c =>
        have hc := segs_err (by omega) hq
        subst hc
        rw [hq] at hl
        exact hl
      | ok p =>
        obtain ⟨l, s'⟩ := p
        rw [hq] at hl
        dsimp only at hl ⊢
        rw [List.nil_append] at hl
        have ef : parseOf (if l.any unfit = true then .error 103 else if l.all (fun x => decide (wrap64 (wrap64 x.f1 + wrap64 x.f3) ≤ (B.length : Int))) = true then .ok ((kind / 65536 == 3, entry, l), s') else .error 104) = fin (B.length : Int) (kind / 65536 == 3) entry l := by
          unfold fin inAll
          by_cases h1 : l.any unfit = true
          · rw [if_pos h1, if_pos h1]
            rfl
          · rw [if_neg h1, if_neg h1]
            by_cases h2 : l.all (fun x => decide (wrap64 (wrap64 x.f1 + wrap64 x.f3) ≤ (B.length : Int))) = true
            · rw [if_pos h2, if_pos h2]
              rfl
            · rw [if_neg h2, if_neg h2]
              rfl
        exact ef ▸ hl
  rcases hk with hk | hk
  · simp only [if_pos hk]
    exact go
  · simp only [if_neg (show ¬ kind / 65536 = 2 by omega), if_pos hk]
    exact go
end Go.Proofs.Ytonoabknmmecnaa.F
end
