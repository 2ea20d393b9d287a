import Derived.Below
import Derived.Deep.Draws
import Derived.Deep.AppendLies
import Derived.Maps.AppendAt
import Derived.OwnWalk
import Derived.Laws.BytesArg
import Derived.Laws.MakeOwn
import Derived.Laws.OwnMore
import Derived.Deep.OwnRows
import Derived.Tactics
import Derived.Lib.ConvBytes
import Derived.Laws.Slices
import Derived.WalkKit
import Derived.KernelRfl
import Derived.RowKit3
import Derived.Deep.LoopGhost
import Derived.Deep.QuietTactic
import Derived.BigQuiet
import Derived.WideLaws
import Derived.Deep.DeepCutAuto
import Derived.Deep.CutBlock
import Derived.Deep.RegionHeld3
import Derived.Laws.Rows
import Derived.Lib.AppendStr
import Derived.ArgAppend
import Derived.Laws.IdiomCopy
import Derived.RowKit
import Derived.OrdersHeld
import Derived.Laws.BitsLemmas
import Derived.Laws.StructEq
import Derived.OwnWalkIn
import Derived.ProofKit
import Derived.Lib.Hide
import Derived.Shelf.RegionOpen
import Derived.Shelf.Abstract
import Derived.Lib.SliceRun
import Derived.WalkSmall
import Derived.Laws.ResultCell
import Derived.Shelf.Spec.SlicesInsertGrow
import Derived.OpenShut
import Derived.Deep.Slices
import Derived.SizedLaws
import Derived.Test.YtlmmipdgedfboaaZF0
import Derived.Test.YtlmmipdgedfboaaYA1Slc
import Derived.Test.YtlmmipdgedfboaaYA2LawK
import Derived.Test.YtlmmipdgedfboaaYA7HHost3
import Derived.Test.YtlmmipdgedfboaaYA10HHost11
import Derived.Test.YtlmmipdgedfboaaYA14
import Derived.Test.YtlmmipdgedfboaaYA15FFerryref03Same
import Derived.Test.YtlmmipdgedfboaaYA16
import Derived.Test.YtlmmipdgedfboaaYA17HHost6
import Derived.Test.YtlmmipdgedfboaaYA21FFerrylaw03Awake
section
namespace Go.Proofs.Ytlmmipdgedfboaa.F
open Go.RowKit Go.Proofs.YtlmmipdgedfboaaW.PrintWords Go.Proofs.YtlmmipdgedfboaaW.PrintLast Go.Proofs.YtlmmipdgedfboaaW.PrintMore
attribute [local go_sem] max2_int min2_int max_two min_two max_three min_three max_four min_four
set_option linter.unusedVariables false
set_option linter.unusedSimpArgs false

def ferrylaw03_few.f (l0_0 : List (S53)) (l0_1 : List (S55)) : Option (Bool) := if (l0_0.length : Int) ≤ 70 then (some (decide ((l0_1.length : Int) ≤ 200))) else (some false)
set_option maxHeartbeats 8000000 in
set_option maxRecDepth 100000 in
theorem ferrylaw03_few.calls (A0_0 : Option Addr) (c0_0 : Nat) (l0_0 : List (S53)) (A0_1 : Option Addr) (c0_1 : Nat) (l0_1 : List (S55)) (r : Bool) (w : World) (hr0_0 : Kd.C k53 w A0_0 l0_0.length l0_0) (hc0_0 : l0_0.length ≤ c0_0) (hr0_1 : Kd.C k55 w A0_1 l0_1.length l0_1) (hc0_1 : l0_1.length ≤ c0_1) (h : ferrylaw03_few.f l0_0 l0_1 = some r) :
    Calls Try.prog 8 #[.agg #[.slice A0_0 l0_0.length c0_0, .slice A0_1 l0_1.length c0_1]] w fun e w' => e = .returned (.bool r) ∧ Below w.heap.size w w' := by
  have hu25 := Try.underlying25
  have HR0_0 := Aside0.mk hr0_0
  have HC0_0 := Aside0.mk hc0_0
  clear hr0_0 hc0_0
  have HR0_1 := Aside0.mk hr0_1
  have HC0_1 := Aside0.mk hc0_1
  clear hr0_1 hc0_1
  have HB := Aside0.mk (Below.refl w.heap.size w)
  have H : (if (l0_0.length : Int) ≤ 70 then (some (decide ((l0_1.length : Int) ≤ 200))) else (some false)) = some r := h
  clear h
  by_cases c2 : (l0_0.length : Int) ≤ 70
  · rw [if_pos c2] at H
    have c2b0 : decide ((l0_0.length : Int) ≤ 70) = true := decide_eq_true c2
    have c2b1 : decide (l0_0.length ≤ 70) = true := decide_eq_true (by omega)
    clear c2
    obtain rfl := Option.some.inj H
    go_enter Try.func8, Try.ntmps8
    go_wp2_with (first | ((with_reducible refine gate_dst (N := 1) rfl ?_); (try (refine gate_guard (by rfl) ?_; dsimp only)); refine box_event ?hg (N := 1) ?hd (cs := #[.slice A0_0 l0_0.length c0_0, .slice A0_1 l0_1.length c0_1]) (t := 25) ?hr ?_; (case hd => rfl); (case hg => rfl); (case hr => first | (go_simp; done) | (go_simp; rfl)); intro gb101 hg w3 hbox hb; have n0_ := Aside0.mk (below_step (by repeat (first | (with_reducible first | exact HB.out | apply below_alloc | apply pw_below_drewN | apply below_drew1) | exact HB.out)) hb); have n1_ := Aside0.mk (hbox); have n2_ := Aside0.mk ((by rw [hg]; exact (below_size (by repeat (first | (with_reducible first | exact HB.out | apply below_alloc | apply pw_below_drewN | apply below_drew1) | exact HB.out))) : w.heap.size ≤ gb101)); have n3_ := Aside0.mk ((by rw [hg]; exact (below_size (by repeat (first | (with_reducible first | exact HB.out | apply below_alloc | apply pw_below_drewN | apply below_drew1) | exact HB.out))) : w.heap.size ≤ gb101)); clear HB; have HB := n0_; have BK101 := n1_; have GW101 := n2_; have GE101 := n3_; clear n0_ n1_ n2_ n3_; clear hb hbox hg; have hcz4_0 : w3.cell? ⟨gb101, 0, none⟩ = some (.slice A0_0 l0_0.length c0_0) := (blk_cell BK101.out 0).trans rfl; have hcz4_1 : w3.cell? ⟨gb101, 1, none⟩ = some (.slice A0_1 l0_1.length c0_1) := (blk_cell BK101.out 1).trans rfl; have hfz4_0 := blk_frozen BK101.out 0; have hfz4_1 := blk_frozen BK101.out 1))
    go_ret
    exact ⟨by first | rfl | (simp [errW_none, errW_some] <;> rfl) | (simp [*, errW_none, errW_some] <;> rfl), by repeat (first | (with_reducible first | exact HB.out | apply below_alloc | apply pw_below_drewN | apply below_drew1 | refine below_set ?_ GE101.out) | exact HB.out)⟩
  · rw [if_neg c2] at H
    have c2b0 : decide ((l0_0.length : Int) ≤ 70) = false := decide_eq_false c2
    have c2b1 : decide (l0_0.length ≤ 70) = false := decide_eq_false (by omega)
    clear c2
    obtain rfl := Option.some.inj H
    go_enter Try.func8, Try.ntmps8
    go_wp2_with (first | ((with_reducible refine gate_dst (N := 1) rfl ?_); (try (refine gate_guard (by rfl) ?_; dsimp only)); refine box_event ?hg (N := 1) ?hd (cs := #[.slice A0_0 l0_0.length c0_0, .slice A0_1 l0_1.length c0_1]) (t := 25) ?hr ?_; (case hd => rfl); (case hg => rfl); (case hr => first | (go_simp; done) | (go_simp; rfl)); intro gb101 hg w5 hbox hb; have n0_ := Aside0.mk (below_step (by repeat (first | (with_reducible first | exact HB.out | apply below_alloc | apply pw_below_drewN | apply below_drew1) | exact HB.out)) hb); have n1_ := Aside0.mk (hbox); have n2_ := Aside0.mk ((by rw [hg]; exact (below_size (by repeat (first | (with_reducible first | exact HB.out | apply below_alloc | apply pw_below_drewN | apply below_drew1) | exact HB.out))) : w.heap.size ≤ gb101)); have n3_ := Aside0.mk ((by rw [hg]; exact (below_size (by repeat (first | (with_reducible first | exact HB.out | apply below_alloc | apply pw_below_drewN | apply below_drew1) | exact HB.out))) : w.heap.size ≤ gb101)); clear HB; have HB := n0_; have BK101 := n1_; have GW101 := n2_; have GE101 := n3_; clear n0_ n1_ n2_ n3_; clear hb hbox hg; have hcz6_0 : w5.cell? ⟨gb101, 0, none⟩ = some (.slice A0_0 l0_0.length c0_0) := (blk_cell BK101.out 0).trans rfl; have hcz6_1 : w5.cell? ⟨gb101, 1, none⟩ = some (.slice A0_1 l0_1.length c0_1) := (blk_cell BK101.out 1).trans rfl; have hfz6_0 := blk_frozen BK101.out 0; have hfz6_1 := blk_frozen BK101.out 1))
    go_ret
    exact ⟨by first | rfl | (simp [errW_none, errW_some] <;> rfl) | (simp [*, errW_none, errW_some] <;> rfl), by repeat (first | (with_reducible first | exact HB.out | apply below_alloc | apply pw_below_drewN | apply below_drew1 | refine below_set ?_ GE101.out) | exact HB.out)⟩

end Go.Proofs.Ytlmmipdgedfboaa.F
end
section
namespace Go.Proofs.Ytlmmipdgedfboaa.F
open Go.RowKit Go.Shelf Go.Proofs.YtlmmipdgedfboaaW.PrintWords Go.Proofs.YtlmmipdgedfboaaW.PrintLast Go.Proofs.YtlmmipdgedfboaaW.PrintMore
set_option linter.unusedVariables false
set_option linter.unusedSimpArgs false
theorem awake03 : ferrylaw03_awake.f 60 = some true := by decide +kernel
def few3 (l : List SM) (m : List SC) : Bool := decide (l.length ≤ 70 ∧ m.length ≤ 200)
theorem few3_spec (l : List SM) (m : List SC) : ferrylaw03_few.f l m = some (few3 l m) := by
  unfold ferrylaw03_few.f few3
  by_cases h : l.length ≤ 70
  · rw [if_pos (by omega)]
    congr 1
    exact decide_eq_decide.2 (by omega)
  · rw [if_neg (by omega), decide_eq_false (by omega)]
theorem ref_Fit_spec (l : List SM) (m : List SC) (h : l.length ≤ 1000000 ∧ m.length ≤ 1000000) : ferryref03_Fit.f l m = some (fitR l m) := by
  unfold ferryref03_Fit.f
  rw [if_pos h]
end Go.Proofs.Ytlmmipdgedfboaa.F
end
section
namespace Go.Proofs.Ytlmmipdgedfboaa.F
open Go.RowKit Go.Shelf Go.Proofs.YtlmmipdgedfboaaW.PrintWords Go.Proofs.YtlmmipdgedfboaaW.PrintLast Go.Proofs.YtlmmipdgedfboaaW.PrintMore
set_option linter.unusedVariables false
abbrev kM := k53
abbrev kC := k55
def HostV (W : World) (v0 v1 : Value) (l : List SM) (m : List SC) : Prop := SlV kM W v0 l ∧ SlV kC W v1 m
theorem HostV.below {W W' : World} {v0 v1 : Value} {l : List SM} {m : List SC} (h : HostV W v0 v1 l m) (hb : Below W.heap.size W W') : HostV W' v0 v1 l m := ⟨h.1.below hb, h.2.below hb⟩
theorem HostV.len {W : World} {v0 v1 : Value} {l : List SM} {m : List SC} (h : HostV W v0 v1 l m) : l.length ≤ 9223372036854775807 ∧ m.length ≤ 9223372036854775807 := by
  obtain ⟨⟨A, c, rfl, hc, hC⟩, ⟨A', c', rfl, hc', hC'⟩⟩ := h
  exact ⟨Kd.C_max hC, Kd.C_max hC'⟩
def RetH (W : World) (l : List SM) (m : List SC) (f : Value → Value) : Ending → World → Prop := fun e w' => ∃ A c A' c', e = .returned (f (.agg #[.slice A l.length c, .slice A' m.length c'])) ∧ HostV w' (.slice A l.length c) (.slice A' m.length c') l m ∧ Below W.heap.size W w'
theorem RetH.of {W w' : World} {l : List SM} {m : List SC} {f : Value → Value} {v0 v1 : Value} {B B' e1 e2 : Nat} {ok ok' : Nat → Prop} {e : Ending} (he : e = .returned (f (.agg #[v0, v1]))) (h0 : Kd.V kM e1 w' B ok v0 l) (h1 : Kd.V kC e2 w' B' ok' v1 m) (hb : Below W.heap.size W w') : RetH W l m f e w' := by
  obtain ⟨A, c, rfl, hc, hC⟩ := SlV.of_view h0
  obtain ⟨A', c', rfl, hc', hC'⟩ := SlV.of_view h1
  exact ⟨A, c, A', c', he, ⟨SlV.mk hC hc, SlV.mk hC' hc'⟩, hb⟩
section
variable {W : World} {v0 v1 : Value} {l : List SM} {m : List SC} {u0 u1 : Value} {l' : List SM} {m' : List SC}
theorem rFit_L (hH : HostV W v0 v1 l m) (hl : l.length ≤ 1000000 ∧ m.length ≤ 1000000) : Calls Try.prog 9 #[.agg #[v0, v1]] W fun e w' => e = .returned (.bool (fitR l m)) ∧ Below W.heap.size W w' := by
  obtain ⟨⟨A, c, rfl, hc, hC⟩, ⟨A', c', rfl, hc', hC'⟩⟩ := hH
  exact ferryref03_Fit.calls A c l A' c' m _ W hC hc hC' hc' (ref_Fit_spec l m hl)
theorem rFitT_L (hH : HostV W v0 v1 l m) (hF : FitH l m) : Calls Try.prog 9 #[.agg #[v0, v1]] W fun e w' => e = .returned (.bool true) ∧ Below W.heap.size W w' := by
  have := rFit_L hH ⟨by have := hF.ln; omega, by have := hF.mn; omega⟩
  rwa [hF.fitR] at this
theorem rSame_L (hH : HostV W v0 v1 l m) (hG : HostV W u0 u1 l' m') (hl : l.length ≤ 1000000 ∧ m.length ≤ 1000000) : Calls Try.prog 12 #[.agg #[v0, v1], .agg #[u0, u1]] W fun e w' => e = .returned (.bool (sameS l m l' m')) ∧ Below W.heap.size W w' := by
  obtain ⟨⟨A, c, rfl, hc, hC⟩, ⟨A', c', rfl, hc', hC'⟩⟩ := hH
  obtain ⟨⟨B, d, rfl, hd, hD⟩, ⟨B', d', rfl, hd', hD'⟩⟩ := hG
  exact ferryref03_Same.calls _ A c l A' c' m B d l' B' d' m' _ W hC hc hC' hc' hD hd hD' hd' (ref_Same l m l' m' hl.1 hl.2 (l.length + m.length + 3) (by omega))
theorem rSameT_L (hH : HostV W v0 v1 l m) (hG : HostV W u0 u1 l m) (hF : FitH l m) : Calls Try.prog 12 #[.agg #[v0, v1], .agg #[u0, u1]] W fun e w' => e = .returned (.bool true) ∧ Below W.heap.size W w' := by
  have := rSame_L hH hG ⟨by have := hF.ln; omega, by have := hF.mn; omega⟩
  rwa [sameS_refl] at this
theorem few_L (hH : HostV W v0 v1 l m) : Calls Try.prog 8 #[.agg #[v0, v1]] W fun e w' => e = .returned (.bool (few3 l m)) ∧ Below W.heap.size W w' := by
  obtain ⟨⟨A, c, rfl, hc, hC⟩, ⟨A', c', rfl, hc', hC'⟩⟩ := hH
  exact ferrylaw03_few.calls A c l A' c' m _ W hC hc hC' hc' (few3_spec l m)
theorem awake_L : Calls Try.prog 10 #[] W fun e w' => e = .returned (.bool true) ∧ Below W.heap.size W w' := ferrylaw03_awake.calls 60 true W awake03
end
theorem blk_new1 (w : World) (o o' : Obj) : ((w.alloc o).alloc o').heap[w.heap.size + 1]? = some o' := by
  have h := blk_new (w.alloc o) o'
  have e : (w.alloc o).heap.size = w.heap.size + 1 := by
    unfold World.alloc
    exact Array.size_push ..
  rwa [e] at h
def okM (x : SM) : Bool := decide ((0 ≤ x.f0 ∧ x.f0 ≤ 18446744073709551615) ∧ ((-9223372036854775808) ≤ x.f1 ∧ x.f1 ≤ 9223372036854775807))
def okC (x : SC) : Bool := decide ((0 ≤ x.f0 ∧ x.f0 ≤ 18446744073709551615) ∧ (0 ≤ x.f1 ∧ x.f1 ≤ 18446744073709551615))
def okH (l : List SM) (m : List SC) : Bool := l.all okM && m.all okC
theorem okH_wf {l : List SM} {m : List SC} (h : okH l m = true) : (∀ x ∈ l, wfM x) ∧ (∀ x ∈ m, wfC x) := by
  unfold okH at h
  rw [Bool.and_eq_true, List.all_eq_true, List.all_eq_true] at h
  refine ⟨fun x hx => ?_, fun x hx => ?_⟩
  · have := h.1 x hx
    unfold okM at this
    have h9 := of_decide_eq_true this
    exact h9
  · have := h.2 x hx
    unfold okC at this
    have h9 := of_decide_eq_true this
    exact h9
theorem okH_of {l : List SM} {m : List SC} (h : ∀ x ∈ l, wfM x) (h2 : ∀ x ∈ m, wfC x) : okH l m = true := by
  unfold okH
  rw [Bool.and_eq_true, List.all_eq_true, List.all_eq_true]
  refine ⟨fun x hx => ?_, fun x hx => ?_⟩
  · unfold okM
    refine decide_eq_true ?_
    exact h x hx
  · unfold okC
    refine decide_eq_true ?_
    exact h2 x hx
end Go.Proofs.Ytlmmipdgedfboaa.F
end
