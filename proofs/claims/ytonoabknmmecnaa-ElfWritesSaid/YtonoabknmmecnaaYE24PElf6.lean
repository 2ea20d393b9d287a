import Derived.Below
import Derived.Deep.Draws
import Derived.Deep.AppendLies
import Derived.Maps.AppendAt
import Derived.OwnWalk
import Derived.Laws.BytesArg
import Derived.Laws.MakeOwn
import Derived.Laws.OwnMore
import Derived.Deep.OwnRows
import Derived.Tactics
import Derived.Lib.ConvBytes
import Derived.Laws.Slices
import Derived.WalkKit
import Derived.KernelRfl
import Derived.RowKit3
import Derived.Deep.LoopGhost
import Derived.Deep.QuietTactic
import Derived.BigQuiet
import Derived.WideLaws
import Derived.Deep.DeepCutAuto
import Derived.Deep.CutBlock
import Derived.Deep.RegionHeld3
import Derived.Laws.Rows
import Derived.Lib.AppendStr
import Derived.ArgAppend
import Derived.Laws.IdiomCopy
import Derived.RowKit
import Derived.OrdersHeld
import Derived.Laws.BitsLemmas
import Derived.Laws.StructEq
import Derived.Shelf.Strings.Builder1
import Derived.Shelf.Strings.BuilderF
import Derived.Shelf.Strings.BuilderK
import Derived.RangeFuncNested
import Derived.RangeFuncBound
import Derived.RangeFuncCalls
import Derived.RangeFuncLeaves
import Derived.RangeFuncWrites
import Derived.Shelf.Abstract
import Derived.Shelf.RegionOpen
import Derived.OwnWalkIn
import Derived.TacticsInMore
import Derived.LoopNIn
import Derived.LoopIn
import Derived.Lib.Hide
import Derived.WalkLawsBesides
import Derived.WalkSmall
import Derived.Laws.ResultCell
import Derived.RangeFuncRecord
import Derived.ProofKit
import Derived.Deep.RegionWith
import Derived.Defers
import Derived.Recover
import Derived.Tactics2
import Derived.Lib.Builder
import Derived.Lib.UnsafeStr
import Derived.StillTailTactics
import Derived.OpenShut
import Derived.Deep.Slices
import Derived.SizedLaws
import Derived.Test.YtonoabknmmecnaaZF0
import Derived.Test.YtonoabknmmecnaaYA4
import Derived.Test.YtonoabknmmecnaaYA5HElf2
import Derived.Test.YtonoabknmmecnaaYA6HElf3
import Derived.Test.YtonoabknmmecnaaYA7HElf4
import Derived.Test.YtonoabknmmecnaaYA10HElf7
import Derived.Test.YtonoabknmmecnaaYA11HElf8
import Derived.Test.YtonoabknmmecnaaYA13
import Derived.Test.YtonoabknmmecnaaYC17
import Derived.Test.YtonoabknmmecnaaYE20FFerryref01PutBe
import Derived.Test.YtonoabknmmecnaaYE21
import Derived.Test.YtonoabknmmecnaaYE22FFerryref13Write
import Derived.Test.YtonoabknmmecnaaYE23PRefBe
section
namespace Go.Proofs.Ytonoabknmmecnaa.F
open Go.RowKit Go.Proofs.YtonoabknmmecnaaW.PrintWords Go.Proofs.YtonoabknmmecnaaW.PrintLast Go.Proofs.YtonoabknmmecnaaW.PrintMore
set_option linter.unusedVariables false
set_option linter.unusedSimpArgs false
theorem ref_putBe_ev (v : Int) (n : Nat) (hn : n ≤ 8) (h0 : 0 ≤ v) (h1 : v ≤ 4294967295) : Ev (fun k => ferryref01_PutBe.f k (IntKind.u64.wrap v) (n : Int)) (mkB (wrNum n v)) :=
  ⟨11, fun k hk => by
    show ferryref01_PutBe.f k (IntKind.u64.wrap v) (n : Int) = _
    rw [ref_PutBe_spec _ _ k hk (by rw [u64w]; omega) (by rw [u64w]; omega), rPutBe_eq _ _ hn]
    rfl⟩
theorem ref_w_ev {v : Int} (h : 0 ≤ v ∧ v ≤ 4294967295) : Ev (fun k => ferryref13_w.f k v) (mkB (wrNum 4 v)) := by
  unfold ferryref13_w.f
  exact Ev.bind (ref_putBe_ev v 4 (by decide) h.1 h.2) (Ev.now _)
theorem ref_h_ev {v : Int} (h : 0 ≤ v ∧ v ≤ 4294967295) : Ev (fun k => ferryref13_h.f k v) (mkB (wrNum 2 v)) := by
  unfold ferryref13_h.f
  exact Ev.bind (ref_putBe_ev v 2 (by decide) h.1 h.2) (Ev.now _)
theorem flagsOf_ev {p : Int} (h0 : 0 ≤ p) (h1 : p < 8) : Ev (fun k => ferryref13_flagsOf.f k p) (tn p) := by
  rcases eight h0 h1 with rfl | rfl | rfl | rfl | rfl | rfl | rfl | rfl
  · exact Ev.of (ferryref13_flagsOf.mono _) (k := 20) (by decide +kernel)
  · exact Ev.of (ferryref13_flagsOf.mono _) (k := 20) (by decide +kernel)
  · exact Ev.of (ferryref13_flagsOf.mono _) (k := 20) (by decide +kernel)
  · exact Ev.of (ferryref13_flagsOf.mono _) (k := 20) (by decide +kernel)
  · exact Ev.of (ferryref13_flagsOf.mono _) (k := 20) (by decide +kernel)
  · exact Ev.of (ferryref13_flagsOf.mono _) (k := 20) (by decide +kernel)
  · exact Ev.of (ferryref13_flagsOf.mono _) (k := 20) (by decide +kernel)
  · exact Ev.of (ferryref13_flagsOf.mono _) (k := 20) (by decide +kernel)
theorem mkB_magic : (⟨#[127, 69, 76, 70, 1, 2, 1, 0, 0, 0, 0, 0, 0, 0, 0, 0]⟩ : ByteArray) = mkB magicL := rfl
theorem magic_len : magicL.length = 16 := rfl
theorem ref_Write_l (sh : Bool) (en : Int) (l : List S39) (hr : ∀ x ∈ l, segRead x) (hb : l.length < 1000) : ∀ (d i : Nat) (acc : List UInt8), i + d = l.length → acc.length ≤ 100 + i * 32 → Ev (fun k => ferryref13_Write.l0 k (mkB acc) (i : Int) sh en l) (mkB (acc ++ segBytes (l.drop i)))
  | 0, i, acc, h, ha => by
    refine Ev.step (fun _ => rfl) ?_
    rw [List.drop_eq_nil_of_le (by omega)]
    simp only [ferryref13_Write.l0, if_neg (show ¬ ((i : Int) < (l.length : Int)) by omega)]
    simp only [segBytes, List.flatMap_nil, List.append_nil]
    exact Ev.now _
  | d + 1, i, acc, h, ha => by
    have hi : i < l.length := by omega
    obtain ⟨r0, r1, r2, r3, r4, r5, r6⟩ := hr l[i] (List.getElem_mem hi)
    have ht := tn_facts r5.1 r5.2
    have e0 : l[i].f0 % 4294967296 = l[i].f0 := by omega
    refine Ev.step (fun _ => rfl) ?_
    simp only [ferryref13_Write.l0, if_pos (show ((i : Int) < (l.length : Int)) by omega), if_pos (show (0 : Int) ≤ (i : Int) by omega), w64_id (show -9223372036854775808 ≤ (i : Int) + 1 by omega) (by omega), rd_seg hi, e0]
    refine Ev.bind (ref_w_ev ⟨r0.1, by omega⟩) ?_
    simp only [ByteArray.size_append, mkB_size, wrNum_length]
    refine Ev.congr (fun _ => if_pos (by omega)) ?_
    refine Ev.bind (ref_w_ev ⟨r1.1, by omega⟩) ?_
    simp only [ByteArray.size_append, mkB_size, wrNum_length]
    refine Ev.congr (fun _ => if_pos (by omega)) ?_
    refine Ev.bind (ref_w_ev ⟨r2.1, by omega⟩) ?_
    simp only [ByteArray.size_append, mkB_size, wrNum_length]
    refine Ev.congr (fun _ => if_pos (by omega)) ?_
    refine Ev.bind (ref_w_ev ⟨r2.1, by omega⟩) ?_
    simp only [ByteArray.size_append, mkB_size, wrNum_length]
    refine Ev.congr (fun _ => if_pos (by omega)) ?_
    refine Ev.bind (ref_w_ev ⟨r3.1, by omega⟩) ?_
    simp only [ByteArray.size_append, mkB_size, wrNum_length]
    refine Ev.congr (fun _ => if_pos (by omega)) ?_
    refine Ev.bind (ref_w_ev ⟨r4.1, by omega⟩) ?_
    simp only [ByteArray.size_append, mkB_size, wrNum_length]
    refine Ev.congr (fun _ => if_pos (by omega)) ?_
    refine Ev.bind (flagsOf_ev r5.1 r5.2) ?_
    refine Ev.bind (ref_w_ev ⟨ht.1, by omega⟩) ?_
    simp only [ByteArray.size_append, mkB_size, wrNum_length]
    refine Ev.congr (fun _ => if_pos (by omega)) ?_
    refine Ev.bind (ref_w_ev ⟨r6.1, by omega⟩) ?_
    simp only [ByteArray.size_append, mkB_size, wrNum_length]
    refine Ev.congr (fun _ => if_pos (by omega)) ?_
    simp only [mkB_append, List.append_assoc]
    have hs : wrNum 4 l[i].f0 ++ (wrNum 4 l[i].f1 ++ (wrNum 4 l[i].f2 ++ (wrNum 4 l[i].f2 ++ (wrNum 4 l[i].f3 ++ (wrNum 4 l[i].f4 ++ (wrNum 4 (tn l[i].f5) ++ wrNum 4 l[i].f6)))))) = wrNums 4 (wrSeg l[i]) := by
      have := wrSeg_eq (hr l[i] (List.getElem_mem hi)) []
      simpa using this.symm
    rw [hs]
    have ih := ref_Write_l sh en l hr hb d (i + 1) (acc ++ wrNums 4 (wrSeg l[i])) (by omega) (by rw [List.length_append, wrNums_length, show (wrSeg l[i]).length = 8 from rfl]; omega)
    rw [List.drop_eq_getElem_cons hi, segBytes_cons, ← List.append_assoc]
    exact ih
set_option maxHeartbeats 2000000 in
theorem ref_Write_j (sh : Bool) (en kind : Int) (l : List S39) (hk : kind = if sh then 3 else 2) (he : 0 ≤ en ∧ en ≤ 4294967295) (hr : ∀ x ∈ l, segRead x) (hb : l.length ≤ 16) : Ev (fun k => ferryref13_Write.j0 k kind sh en l) (mkB (wrHead sh en l.length ++ segBytes l)) := by
  have hk' : 0 ≤ kind ∧ kind ≤ 4294967295 := by subst hk; cases sh <;> decide
  refine Ev.step (fun _ => rfl) ?_
  simp only [ferryref13_Write.j0]
  have hmg := mkB_magic
  generalize (⟨#[127, 69, 76, 70, 1, 2, 1, 0, 0, 0, 0, 0, 0, 0, 0, 0]⟩ : ByteArray) = M at hmg ⊢
  subst hmg
  refine Ev.bind (ref_h_ev hk') ?_
  simp only [ByteArray.size_append, mkB_size, wrNum_length, magic_len]
  refine Ev.congr (fun _ => if_pos (by omega)) ?_
  refine Ev.bind (ref_h_ev (by decide)) ?_
  simp only [ByteArray.size_append, mkB_size, wrNum_length, magic_len]
  refine Ev.congr (fun _ => if_pos (by omega)) ?_
  refine Ev.bind (ref_w_ev (by decide)) ?_
  simp only [ByteArray.size_append, mkB_size, wrNum_length, magic_len]
  refine Ev.congr (fun _ => if_pos (by omega)) ?_
  refine Ev.bind (ref_w_ev he) ?_
  simp only [ByteArray.size_append, mkB_size, wrNum_length, magic_len]
  refine Ev.congr (fun _ => if_pos (by omega)) ?_
  refine Ev.bind (ref_w_ev (by decide)) ?_
  simp only [ByteArray.size_append, mkB_size, wrNum_length, magic_len]
  refine Ev.congr (fun _ => if_pos (by omega)) ?_
  refine Ev.bind (ref_w_ev (by decide)) ?_
  simp only [ByteArray.size_append, mkB_size, wrNum_length, magic_len]
  refine Ev.congr (fun _ => if_pos (by omega)) ?_
  refine Ev.bind (ref_w_ev (by decide)) ?_
  simp only [ByteArray.size_append, mkB_size, wrNum_length, magic_len]
  refine Ev.congr (fun _ => if_pos (by omega)) ?_
  refine Ev.bind (ref_h_ev (by decide)) ?_
  simp only [ByteArray.size_append, mkB_size, wrNum_length, magic_len]
  refine Ev.congr (fun _ => if_pos (by omega)) ?_
  refine Ev.bind (ref_h_ev (by decide)) ?_
  simp only [ByteArray.size_append, mkB_size, wrNum_length, magic_len]
  refine Ev.congr (fun _ => if_pos (by omega)) ?_
  refine Ev.bind (ref_h_ev (v := (l.length : Int)) ⟨by omega, by omega⟩) ?_
  simp only [ByteArray.size_append, mkB_size, wrNum_length, magic_len]
  refine Ev.congr (fun _ => if_pos (by omega)) ?_
  refine Ev.bind (ref_h_ev (by decide)) ?_
  simp only [ByteArray.size_append, mkB_size, wrNum_length, magic_len]
  refine Ev.congr (fun _ => if_pos (by omega)) ?_
  refine Ev.bind (ref_h_ev (by decide)) ?_
  simp only [ByteArray.size_append, mkB_size, wrNum_length, magic_len]
  refine Ev.congr (fun _ => if_pos (by omega)) ?_
  refine Ev.bind (ref_h_ev (by decide)) ?_
  simp only [ByteArray.size_append, mkB_size, wrNum_length, magic_len]
  refine Ev.congr (fun _ => if_pos (by omega)) ?_
  simp only [mkB_append]
  have h := ref_Write_l sh en l hr (by omega) l.length 0 (wrHead sh en l.length) (by omega) (by rw [wrHead_length]; omega)
  rw [List.drop_zero] at h
  have e : wrHead sh en (l.length : Int) = magicL ++ wrNum 2 kind ++ wrNum 2 8 ++ wrNum 4 1 ++ wrNum 4 en ++ wrNum 4 52 ++ wrNum 4 0 ++ wrNum 4 1879052288 ++ wrNum 2 52 ++ wrNum 2 32 ++ wrNum 2 (l.length : Int) ++ wrNum 2 0 ++ wrNum 2 0 ++ wrNum 2 0 := by
    subst hk
    simp [wrHead, wrNums, magicL]
  rw [← e]
  exact h
theorem ref_Write_ev (sh : Bool) (en : Int) (l : List S39) (he : 0 ≤ en ∧ en ≤ 4294967295) (hw : ∀ x ∈ l, wfS39 x) (hb : l.length < 1000000) :
    Ev (fun k => ferryref13_Write.f k sh en l) (if l.length ≤ 16 ∧ l.any unfit = false then mkB (wrHead sh en l.length ++ segBytes l) else mkB []) := by
  unfold ferryref13_Write.f
  refine Ev.bind (ref_Fit_ev sh en l hw hb) ?_
  by_cases h : l.length ≤ 16 ∧ l.any unfit = false
  · rw [if_pos h]
    have e : (decide (l.length ≤ 16) && !(l.any unfit)) = true := by rw [decide_eq_true h.1, h.2]; rfl
    simp only [e, if_true]
    have hr : ∀ x ∈ l, segRead x := fun x hx => fit_read (hw x hx) (by have := List.any_eq_false.1 h.2 x hx; simpa using this)
    cases sh
    · simp only [Bool.false_eq_true, if_false]
      exact ref_Write_j false en 2 l rfl he hr h.1
    · simp only [if_true]
      exact ref_Write_j true en 3 l rfl he hr h.1
  · rw [if_neg h]
    have e : (decide (l.length ≤ 16) && !(l.any unfit)) = false := by
      by_cases h1 : l.length ≤ 16
      · cases h2 : l.any unfit
        · exact absurd ⟨h1, h2⟩ h
        · simp
      · simp [h1]
    simp only [e, Bool.false_eq_true, if_false]
    exact Ev.now _
end Go.Proofs.Ytonoabknmmecnaa.F
end
