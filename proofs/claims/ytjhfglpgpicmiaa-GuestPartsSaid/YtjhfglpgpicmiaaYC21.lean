import Derived.Below
import Derived.Deep.Draws
import Derived.Deep.AppendLies
import Derived.Maps.AppendAt
import Derived.OwnWalk
import Derived.Laws.BytesArg
import Derived.Laws.MakeOwn
import Derived.Laws.OwnMore
import Derived.Deep.OwnRows
import Derived.Tactics
import Derived.Lib.ConvBytes
import Derived.Laws.Slices
import Derived.WalkKit
import Derived.KernelRfl
import Derived.RowKit3
import Derived.Deep.LoopGhost
import Derived.Deep.QuietTactic
import Derived.BigQuiet
import Derived.WideLaws
import Derived.Deep.DeepCutAuto
import Derived.Deep.CutBlock
import Derived.Deep.RegionHeld3
import Derived.Laws.Rows
import Derived.Lib.AppendStr
import Derived.ArgAppend
import Derived.Laws.IdiomCopy
import Derived.RowKit
import Derived.OrdersHeld
import Derived.Laws.BitsLemmas
import Derived.Laws.StructEq
import Derived.OwnWalkIn
import Derived.WalkSmall
import Derived.Laws.ResultCell
import Derived.ProofKit
import Derived.Lib.Hide
import Derived.Shelf.RegionOpen
import Derived.Shelf.Abstract
import Derived.Lib.SliceRun
import Derived.Shelf.Spec.SlicesInsertGrow
import Derived.OpenShut
import Derived.Deep.Slices
import Derived.SizedLaws
import Derived.RangeFuncNested
import Derived.RangeFuncBound
import Derived.RangeFuncCalls
import Derived.RangeFuncLeaves
import Derived.RangeFuncWrites
import Derived.TacticsInMore
import Derived.LoopNIn
import Derived.LoopIn
import Derived.Stop.RegionWithIn
import Derived.Test.YtjhfglpgpicmiaaZF0
import Derived.Test.YtjhfglpgpicmiaaYA0
import Derived.Test.YtjhfglpgpicmiaaYA9
import Derived.Test.YtjhfglpgpicmiaaYA11
import Derived.Test.YtjhfglpgpicmiaaYA13
import Derived.Test.YtjhfglpgpicmiaaYA14HGuest4
import Derived.Test.YtjhfglpgpicmiaaYA15
import Derived.Test.YtjhfglpgpicmiaaYA16HGuest7
import Derived.Test.YtjhfglpgpicmiaaYA17
import Derived.Test.YtjhfglpgpicmiaaYA19
section
namespace Go.Proofs.Ytjhfglpgpicmiaa.F
open Go.RowKit Go.Shelf Go.Proofs.YtjhfglpgpicmiaaW.PrintWords Go.Proofs.YtjhfglpgpicmiaaW.PrintLast Go.Proofs.YtjhfglpgpicmiaaW.PrintMore
set_option linter.unusedVariables false
section
variable {W : World} {v0 v1 : Value} {l : List SM} {m : List SC} {u0 u1 : Value} {l' : List SM} {m' : List SC}
end
theorem okH_of {l : List SM} {m : List SC} (h : ∀ x ∈ l, wfM x) (h2 : ∀ x ∈ m, wfC x) : okH l m = true := by
  unfold okH
  rw [Bool.and_eq_true, List.all_eq_true, List.all_eq_true]
  refine ⟨fun x hx => ?_, fun x hx => ?_⟩
  · unfold okM
    refine decide_eq_true ?_
    exact h x hx
  · unfold okC
    refine decide_eq_true ?_
    exact h2 x hx
end Go.Proofs.Ytjhfglpgpicmiaa.F
end
section
namespace Go.Proofs.Ytjhfglpgpicmiaa.F
open Go.RowKit Go.Shelf Go.Proofs.YtjhfglpgpicmiaaW.PrintWords Go.Proofs.YtjhfglpgpicmiaaW.PrintLast Go.Proofs.YtjhfglpgpicmiaaW.PrintMore
set_option linter.unusedVariables false
theorem okGH_ok {l : List SM} {m : List SC} {p : List SP} {a n : Int} (hF : FitH l m) (hr : Rises pgK p) (hp : p.length ≤ 256) (a0 : 0 ≤ a) (a1 : a < 4294967296) (n0 : 0 ≤ n) (n1 : n < 4294967296) : okGH l m p a n = true := by
  unfold okGH
  rw [okH_of hF.wl hF.wm, (fitB_iff hF.wl hF.wm).2 hF, (risesB_iff p).2 hr, decide_eq_true ⟨hp, a0, a1, n0, n1⟩]
  rfl
-- HAND fn=ferry/guest.Map ; rounds=0 ; making=1 ; laid=0 ; share=0_0,0_1,0_3 ; views=0,1,3
end Go.Proofs.Ytjhfglpgpicmiaa.F
end
section
namespace Go.Proofs.Ytjhfglpgpicmiaa.F
open Go.RowKit Go.Shelf Go.Proofs.YtjhfglpgpicmiaaW.PrintWords Go.Proofs.YtjhfglpgpicmiaaW.PrintLast Go.Proofs.YtjhfglpgpicmiaaW.PrintMore
set_option linter.unusedVariables false
set_option linter.unusedSimpArgs false
theorem gwrongS_eq {a n q : Int} (a0 : 0 ≤ a) (a1 : a < 4294967296) (n0 : 0 ≤ n) (n1 : n < 4294967296) (q0 : -9223372036854775808 ≤ q) (q1 : q ≤ 9223372036854775807) : gwrongS a n q = wrongG a n q := by
  unfold gwrongS guest_wrong.f wrongG
  by_cases h1 : n = 0
  · rw [if_pos h1, decide_eq_true (Or.inl h1)]
    rfl
  rw [if_neg h1]
  by_cases h2 : a > 1048576
  · rw [if_pos h2, decide_eq_true (Or.inr (Or.inl (by omega)))]
    rfl
  rw [if_neg h2]
  by_cases h3 : n > (1048576 - a) % 4294967296
  · rw [if_pos h3, decide_eq_true (Or.inr (Or.inr (Or.inl (by omega))))]
    rfl
  rw [if_neg h3, badProt_iff q0 q1]
  show (!decide (0 ≤ q ∧ q ≤ 7)) = _
  by_cases h4 : 0 ≤ q ∧ q ≤ 7
  · rw [decide_eq_true h4, decide_eq_false (by omega)]
    rfl
  rw [decide_eq_false h4, decide_eq_true (by omega)]
  rfl
theorem mapLoop_L (p : List SP) (b : Int) (m : List SC) : ∀ (ps : List Int) (l : List SM), (∀ a ∈ ps, usedS p b a = usedN p b a) → mapLoop p b ps (l, m) = (mapLoopL p b ps l).map (fun x => (x, m))
  | [], l, _ => rfl
  | a :: ps, l, h => by
    have e1 : mapLoop p b (a :: ps) (l, m) = (mapStep p b (l, m) a).bind (mapLoop p b ps) := rfl
    have e2 : mapLoopL p b (a :: ps) l = (mapStepL p b l a).bind (mapLoopL p b ps) := rfl
    rw [e1, e2]
    unfold mapStep mapStepL
    rw [h a (List.mem_cons_self ..), mapS_cells l m]
    dsimp only
    split
    · exact mapLoop_L p b m ps l (fun x hx => h x (List.mem_cons_of_mem _ hx))
    · split
      · exact mapLoop_L p b m ps _ (fun x hx => h x (List.mem_cons_of_mem _ hx))
      · rfl
theorem dropC_eq {b a n : Int} (hb : BaseG b) (m : List SC) (a0 : 0 ≤ a) (n0 : 0 < n) (h : a + n ≤ 1048576) : dropC m b a n = clearS m (b + a * 4096) (n * 4096) := by
  have h0 := hb.b0
  have h1 := hb.b1
  unfold dropC
  rw [u32w, u64w (a * 4096 % _), u64w (b + _), u64w n, u64w (_ * 4096)]
  congr 1
  · omega
  · omega
theorem gMapS_eq {l : List SM} {m : List SC} {b : Int} {p : List SP} (hb : BaseG b) (P : PagesG p) {a n q : Int} (a0 : 0 ≤ a) (a1 : a < 4294967296) (n0 : 0 ≤ n) (n1 : n < 4294967296) (q0 : -9223372036854775808 ≤ q) (q1 : q ≤ 9223372036854775807) :
    gMapS l m b p a n q = mapG l m b p a n q := by
  have h0 := hb.b0
  have h2 := hb.b2
  unfold gMapS mapG
  rw [gwrongS_eq a0 a1 n0 n1 q0 q1]
  by_cases hw : wrongG a n q = true
  · rw [if_pos hw, if_pos hw]
  rw [if_neg hw, if_neg hw]
  have hn := wrongG_no n0 hw
  have hlen := (delS_P P a n).pn
  rw [show wrap64 (256 - ((delS p a n).length : Int)) % 4294967296 = 256 - ((delS p a n).length : Int) by unfold wrap64; omega]
  by_cases hf : 256 - ((delS p a n).length : Int) < n
  · rw [if_pos hf, if_pos hf]
  rw [if_neg hf, if_neg hf]
  have e1 : hiG b a n = hoN b (a + n - 1) := by
    unfold hiG
    rw [u32w (n - 1), u32w, show (a + (n - 1) % 4294967296) % 4294967296 = a + n - 1 by omega]
    exact hoS_eq hb (by omega) (by omega)
  rw [e1, hoS_eq hb a0 (by omega), dropC_eq hb m a0 hn.1 hn.2.1, mapLoop_L p b _ _ l (fun x hx => ?_)]
  · cases mapLoopL p b (hostsL (hoN b a) (hoN b (a + n - 1))) l <;> rfl
  · have hx2 := hostsL_mem.1 hx
    unfold hoN at hx2
    exact usedS_eq hb P.pr (fun x hx => ⟨(P.pp x hx).1, (P.pp x hx).2.1⟩) (by omega) (by omega)
end Go.Proofs.Ytjhfglpgpicmiaa.F
end
section
namespace Go.Proofs.Ytjhfglpgpicmiaa.F
open Go.RowKit Go.Shelf Go.Proofs.YtjhfglpgpicmiaaW.PrintWords Go.Proofs.YtjhfglpgpicmiaaW.PrintLast Go.Proofs.YtjhfglpgpicmiaaW.PrintMore
set_option linter.unusedVariables false
set_option linter.unusedSimpArgs false
theorem foldl_same {α β : Type} {f g : β → α → β} : ∀ {l : List α} {s : β}, (∀ x ∈ l, ∀ s, f s x = g s x) → l.foldl f s = l.foldl g s
  | [], s, _ => rfl
  | x :: l, s, h => by
    rw [List.foldl_cons, List.foldl_cons, h x (List.mem_cons_self ..)]
    exact foldl_same (fun y hy => h y (List.mem_cons_of_mem _ hy))
theorem gUnmapS_eq {l : List SM} {m : List SC} {b : Int} {p : List SP} (hb : BaseG b) (P : PagesG p) {a n : Int} (a0 : 0 ≤ a) (a1 : a < 4294967296) (n0 : 0 ≤ n) (n1 : n < 4294967296) : gUnmapS l m b p a n = unmapG l m b p a n := by
  unfold gUnmapS unmapG
  rw [gwrongS_eq a0 a1 n0 n1 (by decide) (by decide)]
  by_cases hw : wrongG a n 0 = true
  · rw [if_pos hw, if_pos hw]
  rw [if_neg hw, if_neg hw]
  have hn := wrongG_no n0 hw
  have D := delS_P P a n
  unfold unmapLoop
  rw [dropC_eq hb m a0 hn.1 hn.2.1, foldl_same (g := unStepN (delS p a n) b) (fun x hx s => ?_)]
  have hx2 := P.pp x hx
  have hm := hoN_mem hb hx2.1 hx2.2.1
  unfold unmapStep unStepN
  rw [hoS_eq hb hx2.1 hx2.2.1, usedS_eq hb D.pr (fun x hx => ⟨(D.pp x hx).1, (D.pp x hx).2.1⟩) hm.1 hm.2]
end Go.Proofs.Ytjhfglpgpicmiaa.F
end
section
namespace Go.Proofs.Ytjhfglpgpicmiaa.F
open Go.RowKit Go.Shelf Go.Proofs.YtjhfglpgpicmiaaW.PrintWords Go.Proofs.YtjhfglpgpicmiaaW.PrintLast Go.Proofs.YtjhfglpgpicmiaaW.PrintMore
set_option linter.unusedVariables false
set_option linter.unusedSimpArgs false
theorem FitG.map_f {l : List SM} {m : List SC} {b : Int} {p : List SP} (h : FitG l m b p) {a n q : Int} (a0 : 0 ≤ a) (a1 : a < 4294967296) (n0 : 0 ≤ n) (n1 : n < 4294967296) (q0 : -9223372036854775808 ≤ q) (q1 : q ≤ 9223372036854775807) :
    guest_Map.f l m b p a n q = some ((mapG l m b p a n q).1, (mapG l m b p a n q).2.1, b, (mapG l m b p a n q).2.2.1, (mapG l m b p a n q).2.2.2) := by
  unfold guest_Map.f
  rw [if_pos (okGH_ok h.h h.pages.pr h.pages.pn a0 a1 n0 n1), gMapS_eq h.base h.pages a0 a1 n0 n1 q0 q1]
theorem FitG.unmap_f {l : List SM} {m : List SC} {b : Int} {p : List SP} (h : FitG l m b p) {a n : Int} (a0 : 0 ≤ a) (a1 : a < 4294967296) (n0 : 0 ≤ n) (n1 : n < 4294967296) :
    guest_Unmap.f l m b p a n = some ((unmapG l m b p a n).1, (unmapG l m b p a n).2.1, b, (unmapG l m b p a n).2.2.1, (unmapG l m b p a n).2.2.2) := by
  unfold guest_Unmap.f
  rw [if_pos (okGH_ok h.h h.pages.pr h.pages.pn a0 a1 n0 n1), gUnmapS_eq h.base h.pages a0 a1 n0 n1]
end Go.Proofs.Ytjhfglpgpicmiaa.F
end
