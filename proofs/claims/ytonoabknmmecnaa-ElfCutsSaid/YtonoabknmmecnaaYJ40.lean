import Derived.Below
import Derived.Deep.Draws
import Derived.Deep.AppendLies
import Derived.Maps.AppendAt
import Derived.OwnWalk
import Derived.Laws.BytesArg
import Derived.Laws.MakeOwn
import Derived.Laws.OwnMore
import Derived.Deep.OwnRows
import Derived.Tactics
import Derived.Lib.ConvBytes
import Derived.Laws.Slices
import Derived.WalkKit
import Derived.KernelRfl
import Derived.RowKit3
import Derived.Deep.LoopGhost
import Derived.Deep.QuietTactic
import Derived.BigQuiet
import Derived.WideLaws
import Derived.Deep.DeepCutAuto
import Derived.Deep.CutBlock
import Derived.Deep.RegionHeld3
import Derived.Laws.Rows
import Derived.Lib.AppendStr
import Derived.ArgAppend
import Derived.Laws.IdiomCopy
import Derived.RowKit
import Derived.OrdersHeld
import Derived.Laws.BitsLemmas
import Derived.Laws.StructEq
import Derived.Shelf.Strings.Builder1
import Derived.Shelf.Strings.BuilderF
import Derived.Shelf.Strings.BuilderK
import Derived.RangeFuncNested
import Derived.RangeFuncBound
import Derived.RangeFuncCalls
import Derived.RangeFuncLeaves
import Derived.RangeFuncWrites
import Derived.Shelf.Abstract
import Derived.Shelf.RegionOpen
import Derived.OwnWalkIn
import Derived.TacticsInMore
import Derived.LoopNIn
import Derived.LoopIn
import Derived.Lib.Hide
import Derived.WalkLawsBesides
import Derived.WalkSmall
import Derived.Laws.ResultCell
import Derived.RangeFuncRecord
import Derived.ProofKit
import Derived.Deep.RegionWith
import Derived.Defers
import Derived.Recover
import Derived.Tactics2
import Derived.Lib.Builder
import Derived.Lib.UnsafeStr
import Derived.StillTailTactics
import Derived.OpenShut
import Derived.Deep.Slices
import Derived.SizedLaws
import Derived.Test.YtonoabknmmecnaaZF0
import Derived.Test.YtonoabknmmecnaaYA5HElf2
import Derived.Test.YtonoabknmmecnaaYA7HElf4
import Derived.Test.YtonoabknmmecnaaYA8HElf5
import Derived.Test.YtonoabknmmecnaaYA11HElf8
import Derived.Test.YtonoabknmmecnaaYA13
import Derived.Test.YtonoabknmmecnaaYB14
import Derived.Test.YtonoabknmmecnaaYF25PElf8
import Derived.Test.YtonoabknmmecnaaYJ38
import Derived.Test.YtonoabknmmecnaaYJ39FFerrylaw13ElfCuts
section
namespace Go.Proofs.Ytonoabknmmecnaa.F
open Go.RowKit Go.Proofs.YtonoabknmmecnaaW.PrintWords Go.Proofs.YtonoabknmmecnaaW.PrintLast Go.Proofs.YtonoabknmmecnaaW.PrintMore
def ferrylaw13_ElfCuts.Pure : Prop :=
  ∀ (a0 : ByteArray) (a1 : Int) (a2 : ByteArray), (a0.size ≤ 140737488351232) → (0 ≤ a1 ∧ a1 ≤ 65535) → (a2.size ≤ 140737488351232) → ∃ k, ferrylaw13_ElfCuts.f k a0 a1 a2 = some true
end Go.Proofs.Ytonoabknmmecnaa.F
end
section
namespace Go.Proofs.Ytonoabknmmecnaa.F
open Go.RowKit Go.Proofs.YtonoabknmmecnaaW.PrintWords Go.Proofs.YtonoabknmmecnaaW.PrintLast Go.Proofs.YtonoabknmmecnaaW.PrintMore
set_option linter.unusedVariables false
theorem ElfCuts_pure : ferrylaw13_ElfCuts.Pure := by
  intro a0 a1 a2 h0 h1 h2
  obtain ⟨b, rfl, hb⟩ := to_mkB a0
  obtain ⟨m, rfl, hm⟩ := to_mkB a2
  refine Ev.rounds ?_
  unfold ferrylaw13_ElfCuts.f
  have yes : Ev (fun k => ferrylaw13_ElfCuts.j0 k (mkB b) a1 (mkB m) true) true := by
    refine Ev.step (fun _ => rfl) ?_
    simp only [ferrylaw13_ElfCuts.j0, if_true]
    exact Ev.bind awake_ev (Ev.now _)
  rw [mkB_size, mkB_size]
  by_cases c1 : (b.length : Int) > 5000
  · exact Ev.congr (fun _ => if_pos c1) yes
  refine Ev.congr (fun _ => if_neg c1) ?_
  by_cases c2 : (m.length : Int) > 1000
  · rw [decide_eq_true c2]
    exact yes
  rw [decide_eq_false c2]
  refine Ev.step (fun _ => rfl) ?_
  simp only [ferrylaw13_ElfCuts.j0, Bool.false_eq_true, if_false]
  rcases parse_either (b := b) (by omega) with ⟨c, hc, e⟩ | ⟨sh, en, l, t, hbt, e, hl, he, hr, hu, hi⟩
  · rw [e]
    refine Ev.bind (Ev.now _) ?_
    refine Ev.congr (fun _ => if_neg hc) ?_
    exact Ev.bind awake_ev (Ev.now _)
  rw [e]
  refine Ev.bind (Ev.now _) ?_
  refine Ev.congr (fun _ => if_pos rfl) ?_
  rw [mkB_size, mkB_size]
  refine Ev.congr (fun _ => if_pos (by omega)) ?_
  have hlen : b.length = 52 + l.length * 32 + t.length := by rw [hbt, List.length_append, List.length_append, wrHead_length, segBytes_length]; omega
  have e2 : elf_Parse.f (mkB b ++ mkB m) = some (sh, en, l, 0) := by
    have hx : b ++ m = wrHead sh en l.length ++ (segBytes l ++ (t ++ m)) := by rw [hbt, List.append_assoc, List.append_assoc]
    rw [mkB_append, hx]
    refine parse_made (t ++ m) hl he hr hu (inAll_mono ?_ hi) (by rw [List.length_append]; omega)
    rw [← hx, List.length_append]
    omega
  rw [e2]
  refine Ev.bind (Ev.now _) ?_
  dsimp only
  have w1 : wrap64 (32 * (l.length : Int)) = 32 * (l.length : Int) := w64_id (by omega) (by omega)
  have w2 : wrap64 (52 + 32 * (l.length : Int)) = 52 + 32 * (l.length : Int) := w64_id (by omega) (by omega)
  have w3 : wrap64 a1 = a1 := w64_id (by omega) (by omega)
  rw [w1, w2, w3, Int.tmod_eq_emod_of_nonneg h1.1]
  have hd0 := Int.emod_nonneg a1 (show 52 + 32 * (l.length : Int) ≠ 0 by omega)
  have hd1 := Int.emod_lt_of_pos a1 (show 0 < 52 + 32 * (l.length : Int) by omega)
  refine Ev.congr (fun _ => if_neg (by omega)) ?_
  obtain ⟨q, hq⟩ := Int.eq_ofNat_of_zero_le hd0
  rw [hq] at hd1 ⊢
  refine Ev.congr (fun _ => if_pos (by omega)) ?_
  refine Ev.congr (fun _ => if_pos (by omega)) ?_
  have e3 : elf_Parse.f ((mkB b).extract 0 ((q : Int).toNat)) = some (false, 0, [], 101) := by
    rw [Int.toNat_natCast, mkB_extract, List.drop_zero, Nat.sub_zero, elf_Parse_eq _ (by rw [List.length_take]; omega), hbt, parse_cut t q (by omega) hl he]
    rfl
  rw [e3]
  refine Ev.bind (Ev.now _) ?_
  refine Ev.congr (fun _ => if_pos rfl) ?_
  refine Ev.bind (ref_Same_ev _ _ _ _ _ _ (by omega)) ?_
  refine Ev.congr (fun _ => if_pos (by simp)) ?_
  refine Ev.congr (fun _ => if_pos rfl) ?_
  exact Ev.bind awake_ev (Ev.now _)
end Go.Proofs.Ytonoabknmmecnaa.F
end
