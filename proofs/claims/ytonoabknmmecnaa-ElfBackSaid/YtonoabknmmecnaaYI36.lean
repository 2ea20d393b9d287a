import Derived.Below
import Derived.Deep.Draws
import Derived.Deep.AppendLies
import Derived.Maps.AppendAt
import Derived.OwnWalk
import Derived.Laws.BytesArg
import Derived.Laws.MakeOwn
import Derived.Laws.OwnMore
import Derived.Deep.OwnRows
import Derived.Tactics
import Derived.Lib.ConvBytes
import Derived.Laws.Slices
import Derived.WalkKit
import Derived.KernelRfl
import Derived.RowKit3
import Derived.Deep.LoopGhost
import Derived.Deep.QuietTactic
import Derived.BigQuiet
import Derived.WideLaws
import Derived.Deep.DeepCutAuto
import Derived.Deep.CutBlock
import Derived.Deep.RegionHeld3
import Derived.Laws.Rows
import Derived.Lib.AppendStr
import Derived.ArgAppend
import Derived.Laws.IdiomCopy
import Derived.RowKit
import Derived.OrdersHeld
import Derived.Laws.BitsLemmas
import Derived.Laws.StructEq
import Derived.Shelf.Strings.Builder1
import Derived.Shelf.Strings.BuilderF
import Derived.Shelf.Strings.BuilderK
import Derived.RangeFuncNested
import Derived.RangeFuncBound
import Derived.RangeFuncCalls
import Derived.RangeFuncLeaves
import Derived.RangeFuncWrites
import Derived.Shelf.Abstract
import Derived.Shelf.RegionOpen
import Derived.OwnWalkIn
import Derived.TacticsInMore
import Derived.LoopNIn
import Derived.LoopIn
import Derived.Lib.Hide
import Derived.WalkLawsBesides
import Derived.WalkSmall
import Derived.Laws.ResultCell
import Derived.RangeFuncRecord
import Derived.ProofKit
import Derived.Deep.RegionWith
import Derived.Defers
import Derived.Recover
import Derived.Tactics2
import Derived.Lib.Builder
import Derived.Lib.UnsafeStr
import Derived.StillTailTactics
import Derived.OpenShut
import Derived.Deep.Slices
import Derived.SizedLaws
import Derived.Test.YtonoabknmmecnaaZF0
import Derived.Test.YtonoabknmmecnaaYA5HElf2
import Derived.Test.YtonoabknmmecnaaYA6HElf3
import Derived.Test.YtonoabknmmecnaaYA7HElf4
import Derived.Test.YtonoabknmmecnaaYA8HElf5
import Derived.Test.YtonoabknmmecnaaYA11HElf8
import Derived.Test.YtonoabknmmecnaaYA13
import Derived.Test.YtonoabknmmecnaaYB14
import Derived.Test.YtonoabknmmecnaaYC17
import Derived.Test.YtonoabknmmecnaaYD18
import Derived.Test.YtonoabknmmecnaaYF25PElf8
import Derived.Test.YtonoabknmmecnaaYI34PElf8
import Derived.Test.YtonoabknmmecnaaYI35FFerrylaw13ElfBack
section
namespace Go.Proofs.Ytonoabknmmecnaa.F
open Go.RowKit Go.Proofs.YtonoabknmmecnaaW.PrintWords Go.Proofs.YtonoabknmmecnaaW.PrintLast Go.Proofs.YtonoabknmmecnaaW.PrintMore
def ferrylaw13_ElfBack.Pure : Prop :=
  ∀ (a0_0 : Bool) (a0_1 : Int) (l0_2 : List (S39)) (a1 : ByteArray), (0 ≤ a0_1 ∧ a0_1 ≤ 4294967295) → (l0_2.length ≤ 9223372036854775807 ∧ ∀ x_ ∈ l0_2, wfS39 x_) → (a1.size ≤ 140737488351232) → ∃ k, ferrylaw13_ElfBack.f k a0_0 a0_1 l0_2 a1 = some true
end Go.Proofs.Ytonoabknmmecnaa.F
end
section
namespace Go.Proofs.Ytonoabknmmecnaa.F
open Go.RowKit Go.Proofs.YtonoabknmmecnaaW.PrintWords Go.Proofs.YtonoabknmmecnaaW.PrintLast Go.Proofs.YtonoabknmmecnaaW.PrintMore
set_option linter.unusedVariables false
theorem back_l0 (sh : Bool) (en : Int) (l : List S39) (hr : ∀ x ∈ l, segRead x) (hn : l.length ≤ 16) (he : 0 ≤ en ∧ en < 4294967296) (hu : l.any unfit = false) : ∀ (d i : Nat) (m : Int), i + d = l.length → 52 + 32 * (l.length : Int) ≤ m → m < 100000000000 → (∀ x ∈ l.take i, x.f1 + x.f3 ≤ m) →
    Ev (fun k => ferrylaw13_ElfBack.l0 k (mkB (wrHead sh en l.length ++ segBytes l)) m l (l.length : Int) (i : Int) sh en l) true
  | 0, i, m, h, h1, h2, h3 => by
    refine Ev.step (fun _ => rfl) ?_
    simp only [ferrylaw13_ElfBack.l0]
    refine Ev.congr (fun _ => if_neg (by omega)) ?_
    by_cases c : m > 20000
    · refine Ev.congr (fun _ => if_pos c) ?_
      exact Ev.bind awake_ev (Ev.now _)
    refine Ev.congr (fun _ => if_neg c) ?_
    have hs : (mkB (wrHead sh en l.length ++ segBytes l)).size = 52 + 32 * l.length := by rw [mkB_size, List.length_append, wrHead_length, segBytes_length]; omega
    rw [hs]
    have w1 : wrap64 m = m := w64_id (by omega) (by omega)
    have w2 : wrap64 (m - ((52 + 32 * l.length : Nat) : Int)) = m - ((52 + 32 * l.length : Nat) : Int) := w64_id (by omega) (by omega)
    rw [w1, w2]
    obtain ⟨q, hq⟩ : ∃ q : Nat, m - ((52 + 32 * l.length : Nat) : Int) = q := ⟨(m - ((52 + 32 * l.length : Nat) : Int)).toNat, by omega⟩
    rw [hq, Int.toNat_natCast]
    refine Ev.congr (fun _ => if_pos (by omega)) ?_
    refine Ev.congr (fun _ => if_pos (by omega)) ?_
    refine Ev.bind (Ev.now _) ?_
    rw [zeros_mk, mkB_size, List.length_replicate]
    refine Ev.congr (fun _ => if_pos (by omega)) ?_
    have e : elf_Parse.f (mkB (wrHead sh en l.length ++ segBytes l) ++ mkB (List.replicate q 0)) = some (sh, en, l, 0) := by
      rw [mkB_append, List.append_assoc]
      refine parse_made _ hn he hr hu ?_ (by rw [List.length_replicate]; omega)
      unfold inAll
      rw [List.all_eq_true]
      intro x hx
      have hx' := h3 x (by rw [List.take_of_length_le (by omega)]; exact hx)
      obtain ⟨r0, r1, r2, r3, r4, r5, r6⟩ := hr x hx
      rw [inRange_eq (size := 0) r1 r3, List.length_append, List.length_append, wrHead_length, segBytes_length, List.length_replicate]
      exact decide_eq_true (by omega)
    rw [e]
    refine Ev.bind (Ev.now _) ?_
    refine Ev.congr (fun _ => if_pos rfl) ?_
    refine Ev.bind (ref_Same_ev _ _ _ _ _ _ (by dsimp only; omega)) ?_
    refine Ev.congr (fun _ => if_pos (by simp)) ?_
    exact Ev.bind awake_ev (Ev.now _)
  | d + 1, i, m, h, h1, h2, h3 => by
    have hi : i < l.length := by omega
    obtain ⟨r0, r1, r2, r3, r4, r5, r6⟩ := hr l[i] (List.getElem_mem hi)
    refine Ev.step (fun _ => rfl) ?_
    simp only [ferrylaw13_ElfBack.l0]
    refine Ev.congr (fun _ => if_pos (by omega)) ?_
    refine Ev.congr (fun _ => if_pos (by omega)) ?_
    refine Ev.congr (fun _ => if_pos (by omega)) ?_
    have u1 : IntKind.u64.wrap (IntKind.u64.wrap l[i].f1 + IntKind.u64.wrap l[i].f3) = l[i].f1 + l[i].f3 := by rw [u64w, u64w, u64w]; omega
    rw [rd_seg hi, u1, w64_id (show -9223372036854775808 ≤ (i : Int) + 1 by omega) (by omega)]
    refine back_l0 sh en l hr hn he hu d (i + 1) _ (by omega) (by unfold mx; omega) (by unfold mx; omega) (fun x hx => ?_)
    rw [List.take_succ_eq_append_getElem hi] at hx
    rcases List.mem_append.1 hx with hx | hx
    · have := h3 x hx
      unfold mx
      omega
    · rw [List.mem_singleton.1 hx]
      unfold mx
      omega
theorem ElfBack_pure : ferrylaw13_ElfBack.Pure := by
  intro sh en l a1 h0 hl h1
  obtain ⟨b, rfl, hb⟩ := to_mkB a1
  refine Ev.rounds ?_
  unfold ferrylaw13_ElfBack.f
  have yes : Ev (fun k => ferrylaw13_ElfBack.j0 k (mkB b) true sh en l) true := by
    refine Ev.step (fun _ => rfl) ?_
    simp only [ferrylaw13_ElfBack.j0, if_true]
    exact Ev.bind awake_ev (Ev.now _)
  rw [mkB_size]
  by_cases c1 : (l.length : Int) > 40
  · exact Ev.congr (fun _ => if_pos c1) yes
  refine Ev.congr (fun _ => if_neg c1) ?_
  by_cases c2 : (b.length : Int) > 20000
  · rw [decide_eq_true c2]
    exact yes
  rw [decide_eq_false c2]
  have j1 : Ev (fun k => ferrylaw13_ElfBack.j1 k sh en l) true := by
    refine Ev.step (fun _ => rfl) ?_
    simp only [ferrylaw13_ElfBack.j1]
    rw [elf_Write_eq]
    refine Ev.bind (Ev.now _) ?_
    refine Ev.bind (ref_Fit_ev sh en l hl.2 (by omega)) ?_
    by_cases hf : l.length ≤ 16 ∧ l.any unfit = false
    · rw [if_pos hf]
      refine Ev.congr (fun _ => if_pos (by rw [decide_eq_true hf.1, hf.2]; rfl)) ?_
      have hs : (mkB (wrHead sh en l.length ++ segBytes l)).size = 52 + 32 * l.length := by rw [mkB_size, List.length_append, wrHead_length, segBytes_length]; omega
      have hr : ∀ x ∈ l, segRead x := fun x hx => fit_read (hl.2 x hx) (by have := List.any_eq_false.1 hf.2 x hx; simpa using this)
      have u : IntKind.u64.wrap ((mkB (wrHead sh en l.length ++ segBytes l)).size : Int) = 52 + 32 * (l.length : Int) := by rw [hs, u64w]; omega
      rw [u]
      exact back_l0 sh en l hr hf.1 ⟨h0.1, by omega⟩ hf.2 l.length 0 _ (by omega) (by omega) (by omega) (fun x hx => by simp at hx)
    · rw [if_neg hf]
      refine Ev.congr (fun _ => if_neg (fun hh => hf ?_)) ?_
      · rw [Bool.and_eq_true] at hh
        exact ⟨of_decide_eq_true hh.1, by simpa using hh.2⟩
      · refine Ev.congr (fun _ => if_pos (by rw [mkB_toList])) ?_
        exact Ev.bind awake_ev (Ev.now _)
  refine Ev.step (fun _ => rfl) ?_
  simp only [ferrylaw13_ElfBack.j0, Bool.false_eq_true, if_false]
  rcases parse_either (b := b) (by omega) with ⟨c, hc, e⟩ | ⟨sh', en', m, t, hbt, e, hm, he, hr, hu, hi⟩
  · rw [e]
    refine Ev.bind (Ev.now _) ?_
    refine Ev.congr (fun _ => if_neg hc) ?_
    dsimp only
    refine Ev.bind (ref_Same_ev _ _ _ _ _ _ (by decide)) ?_
    exact Ev.congr (fun _ => if_pos (by simp)) j1
  rw [e]
  refine Ev.bind (Ev.now _) ?_
  refine Ev.congr (fun _ => if_pos rfl) ?_
  dsimp only
  rw [elf_Write_eq, if_pos ⟨hm, hu⟩]
  refine Ev.bind (Ev.now _) ?_
  refine Ev.bind (ref_Fit_ev sh' en' m (fun x hx => read_wf (hr x hx)) (by omega)) ?_
  refine Ev.congr (fun _ => if_pos (by rw [decide_eq_true hm, hu]; rfl)) ?_
  have hs : (mkB (wrHead sh' en' m.length ++ segBytes m)).size = 52 + 32 * m.length := by rw [mkB_size, List.length_append, wrHead_length, segBytes_length]; omega
  have hlen : b.length = 52 + m.length * 32 + t.length := by rw [hbt, List.length_append, List.length_append, wrHead_length, segBytes_length]; omega
  rw [hs, mkB_size]
  refine Ev.congr (fun _ => if_neg (by omega)) ?_
  refine Ev.congr (fun _ => if_pos (by omega)) ?_
  refine Ev.congr (fun _ => if_pos (by omega)) ?_
  have ex : ((mkB b).extract 0 (((52 + 32 * m.length : Nat) : Int).toNat)).toList = (mkB (wrHead sh' en' m.length ++ segBytes m)).toList := by
    rw [Int.toNat_natCast, mkB_extract, mkB_toList, mkB_toList, List.drop_zero, Nat.sub_zero, hbt, ← List.append_assoc]
    exact List.take_left' (by rw [List.length_append, wrHead_length, segBytes_length]; omega)
  refine Ev.congr (fun _ => if_pos ex) ?_
  have w1 : wrap64 (32 * (m.length : Int)) = 32 * (m.length : Int) := w64_id (by omega) (by omega)
  have w2 : wrap64 (52 + 32 * (m.length : Int)) = 52 + 32 * (m.length : Int) := w64_id (by omega) (by omega)
  rw [w1, w2]
  exact Ev.congr (fun _ => if_pos (by omega)) j1
end Go.Proofs.Ytonoabknmmecnaa.F
end
