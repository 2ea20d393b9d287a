import Derived.Below
import Derived.Deep.Draws
import Derived.Deep.AppendLies
import Derived.Maps.AppendAt
import Derived.OwnWalk
import Derived.Laws.BytesArg
import Derived.Laws.MakeOwn
import Derived.Laws.OwnMore
import Derived.Deep.OwnRows
import Derived.Tactics
import Derived.Lib.ConvBytes
import Derived.Laws.Slices
import Derived.WalkKit
import Derived.KernelRfl
import Derived.RowKit3
import Derived.Deep.LoopGhost
import Derived.Deep.QuietTactic
import Derived.BigQuiet
import Derived.WideLaws
import Derived.Deep.DeepCutAuto
import Derived.Deep.CutBlock
import Derived.Deep.RegionHeld3
import Derived.Laws.Rows
import Derived.Lib.AppendStr
import Derived.ArgAppend
import Derived.Laws.IdiomCopy
import Derived.RowKit
import Derived.OrdersHeld
import Derived.Laws.BitsLemmas
import Derived.Laws.StructEq
import Derived.OwnWalkIn
import Derived.ProofKit
import Derived.Lib.Hide
import Derived.Shelf.RegionOpen
import Derived.Shelf.Abstract
import Derived.Lib.SliceRun
import Derived.WalkSmall
import Derived.Laws.ResultCell
import Derived.Shelf.Spec.SlicesInsertGrow
import Derived.Test.YtlmmipdgedfboaaZF0
import Derived.Test.YtlmmipdgedfboaaYA1Slc
import Derived.Test.YtlmmipdgedfboaaYA4HHost1
import Derived.Test.YtlmmipdgedfboaaYA6
import Derived.Test.YtlmmipdgedfboaaYA7HHost3
import Derived.Test.YtlmmipdgedfboaaYA16
section
namespace Go.Proofs.Ytlmmipdgedfboaa.F
open Go.RowKit Go.Shelf Go.Proofs.YtlmmipdgedfboaaW.PrintWords Go.Proofs.YtlmmipdgedfboaaW.PrintLast Go.Proofs.YtlmmipdgedfboaaW.PrintMore
set_option linter.unusedVariables false
set_option linter.unusedSimpArgs false
theorem cl_setb {w : World} {g cap : Nat} {l : List S55} {x : S55} {i : Nat} (h : OwnB clE 55 w g cap (l.set i x)) (hi : i < l.length) (u : Int) : OwnB clE 55 (w.setCell ⟨g, i * 2 + 1, none⟩ (.int .u64 u)) g cap (l.set i ⟨x.f0, u⟩) := by
  have h := cl_set1 h (i := i) (by rw [List.length_set]; exact hi) u
  rw [List.getElem_set_self, List.set_set] at h
  exact h
set_option maxHeartbeats 4000000 in
theorem cl_zero.calls (x : S55) (w : World) :
    Calls Try.prog 45 #[.agg #[.int .u64 x.f0, .int .u64 x.f1]] w fun e w' => e = .returned (.bool (x.f1 == 0)) ∧ Below w.heap.size w w' := by
  have B0 : Below w.heap.size w (w.alloc (.cells #[.int .u64 x.f0, .int .u64 x.f1] 55)) := (Below.refl _ w).alloc (Nat.le_refl _) _
  have hu := Try.underlying55
  go_enter Try.func45, Try.ntmps45
  go_wp2
  go_ret
  exact ⟨rfl, B0⟩
-- HAND fn=ferry/host.Clear ; rounds=0 ; making=1 ; laid=0 ; share=0_0,0_1 ; views=0,1
def host_Clear.f (l0_0 : List S53) (l0_1 : List S55) (a1 a2 : Int) : Option (List S53 × List S55) :=
  if l0_1.length ≤ 1000000 then some (l0_0, (l0_1.map (clrC a1 a2)).filter (fun x => !(x.f1 == 0))) else none
set_option maxHeartbeats 8000000 in
set_option maxRecDepth 100000 in
theorem host_Clear.calls (P0_0_ : Nat → Prop) (A0_0 : Option Addr) (c0_0 : Nat) (l0_0 : List S53) (P0_1_ : Nat → Prop) (A0_1 : Option Addr) (c0_1 : Nat) (l0_1 : List S55) (a1 a2 : Int) (r1 : List S53) (r2 : List S55) (w : World) (hs0_0 : Kd.V k53 53 w w.heap.size (fun k_ => P0_0_ k_) (.slice A0_0 l0_0.length c0_0) l0_0) (hs0_1 : Kd.V k55 55 w w.heap.size (fun k_ => P0_1_ k_) (.slice A0_1 l0_1.length c0_1) l0_1) (h : host_Clear.f l0_0 l0_1 a1 a2 = some (r1, r2)) :
    Calls Try.prog 18 #[.agg #[.slice A0_0 l0_0.length c0_0, .slice A0_1 l0_1.length c0_1], .int .u64 a1, .int .u64 a2] w fun e w' => ∃ v0_ v1_ : Value, e = .returned (.agg #[v0_, v1_]) ∧ Kd.V k53 53 w' w.heap.size (fun k_ => ((P0_0_ k_ ∨ P0_1_ k_) ∨ w.heap.size ≤ k_)) v0_ r1 ∧ Kd.V k55 55 w' w.heap.size (fun k_ => ((P0_0_ k_ ∨ P0_1_ k_) ∨ w.heap.size ≤ k_)) v1_ r2 ∧ Below w.heap.size w w' := by
  unfold host_Clear.f at h
  split at h
  rotate_left
  · cases h
  rename_i hl
  obtain ⟨rfl, rfl⟩ := Prod.mk.inj (Option.some.inj h)
  clear h
  have VM := Lib.hid hs0_0
  have CC := Lib.hid (Kd.V_reads' hs0_1)
  have U0 := Lib.hid (HW.first w (.slice A0_0 l0_0.length c0_0) (.slice A0_1 l0_1.length c0_1) (.slice none 0 0) (.slice none 0 0))
  clear hs0_0 hs0_1
  have hu := Try.underlying25
  have hu2 := Try.underlying55
  have h1 := (sblk_cell U0.out.h 1).trans rfl
  go_enter Try.func18, Try.ntmps18
  go_wp2_with (fail)
  refine (cl_clone.calls A0_1 c0_1 l0_1 _ (Kd.C_below CC.out.2.2 U0.out.bel) CC.out.2.1 hl).mono ?_
  rintro e w1 ⟨v1, rfl, hR1, hb1⟩
  have U1 := Lib.hid (U0.out.below hb1)
  have S0 := U0.out.s
  clear hb1 h1
  rcases cl_own hR1 with ⟨rfl, rfl⟩ | ⟨g, cap, rfl, hg, ho⟩
  · clear hR1
    go_wp2
    go_loopw [16] (fun t wr => t = .int .i64 0 ∧ wr = w1) (fun _ _ => 0)
    case atStart => exact ⟨rfl, rfl⟩
    case round =>
      obtain ⟨rfl, rfl⟩ := hrel
      have DF := Lib.hid (cl_delfR.calls (fun x => x.f1 == 0) 45 #[] (fun _ _ => rfl) (w.heap.size + 2) (fun _ => True) _ [] _ (Kd.R_nil _ _ _ _ _) U1.out.s (by simp) (fun x W _ _ => cl_zero.calls x W))
      skip
      go_wp2_with (fail)
      refine DF.out.mono ?_
      rintro ex w9 ⟨v9, rfl, hR9, hb9⟩
      have U9 := Lib.hid (U1.out.step hb9)
      obtain ⟨A9, c9, rfl⟩ := Kd.R_slice hR9
      have R9 := Lib.hid hR9
      clear hb9 hR9 DF
      have ka0 := (sblk_cell U9.out.h 0).trans rfl
      have ka1 := (sblk_cell U9.out.h 1).trans rfl
      have kz1 := sblk_free U9.out.h 1
      have kr0 := (sblk_cell U9.out.r 0).trans rfl
      have kr1 := (sblk_cell U9.out.r 1).trans rfl
      have ky0 := sblk_free U9.out.r 0
      have ky1 := sblk_free U9.out.r 1
      have U10 := (U9.out.set1 (.slice A9 0 c9)).setR (.slice A0_0 l0_0.length c0_0) (.slice A9 0 c9)
      go_wp2
      have f0 := (sblk_cell U10.r 0).trans rfl
      have f1 := (sblk_cell U10.r 1).trans rfl
      refine bodyPost_ret (v := .agg #[.slice A0_0 l0_0.length c0_0, .slice A9 0 c9]) (by simp [results, Try.results18, go_sem, hu, f0, f1]) rfl ⟨_, _, rfl, view_old VM.out U10.bel (fun k hk => .inl (.inl hk)), ?_, U10.bel⟩
      refine Kd.V_mono (Kd.V_step (Kd.R_V (Kd.R_bound R9.out)) (fun k hk _ => (set_far (by have := hk.2.1; omega)).trans ((set_far (by have := hk.2.1; omega)).trans (set_far (by have := hk.2.1; omega))))) (fun k hk => .inr (by have := hk.2.1; omega))

  · clear hR1
    have hg := Nat.le_trans S0 hg
    have O1 := Lib.hid ho
    go_wp2
    go_loopw [16] (fun t wr => ∃ i : Nat, t = .int .i64 i ∧ i ≤ l0_1.length ∧ Hid (OwnB clE 55 wr g cap ((l0_1.take i).map (clrC a1 a2) ++ l0_1.drop i)) ∧ Hid (HW w wr (.slice A0_0 l0_0.length c0_0) (.slice A0_1 l0_1.length c0_1) (.slice none 0 0) (.slice none 0 0))) (fun t _ => l0_1.length - (intOf t).toNat)
    case atStart => exact ⟨0, rfl, Nat.zero_le _, by simpa using O1, U1⟩
    case round =>
      obtain ⟨i, rfl, hi, O, U⟩ := hrel
      by_cases hlt : i < l0_1.length
      · have hml := mixF_len (clrC a1 a2) l0_1 i
        have hmg := mixF_get (clrC a1 a2) l0_1 i hlt (by rw [hml]; exact hlt)
        have hms := mixF_set (clrC a1 a2) l0_1 i hlt
        have SF := Lib.hid (show ∀ x, clrC a1 a2 x = ⟨x.f0, clrW a1 a2 x.f0 x.f1 8⟩ from fun _ => rfl)
        generalize (l0_1.take i).map (clrC a1 a2) ++ l0_1.drop i = m at O hml hmg hms
        generalize l0_1[i] = x at hmg hms
        obtain ⟨a, u⟩ := x
        have e0 := O.out.cell clE_2 (show i < m.length by rw [hml]; exact hlt) (j := 0) (by omega)
        have e1 := O.out.cell clE_2 (show i < m.length by rw [hml]; exact hlt) (j := 1) (by omega)
        rw [hmg] at e0 e1
        simp only [clE, List.getElem?_cons_zero, List.getElem?_cons_succ, Nat.add_zero] at e0 e1
        have HMS := Lib.hid hms
        have HML := Lib.hid hml
        have O0 : Hid (OwnB clE 55 (wr.alloc (.cells #[.int .u64 a, .int .u64 u] 55)) g cap (m.set i ⟨a, clrW a1 a2 a u 0⟩)) := Lib.hid (by
          have := O.out.below ((Below.refl _ wr).alloc (Nat.le_refl _) (.cells #[.int .u64 a, .int .u64 u] 55))
          rw [show (⟨a, clrW a1 a2 a u 0⟩ : S55) = m[i]'(by rw [hml]; exact hlt) from hmg.symm, List.set_getElem_self]
          exact this)
        have U2 := Lib.hid (U.out.below ((Below.refl _ wr).alloc (Nat.le_refl _) (.cells #[.int .u64 a, .int .u64 u] 55)))
        have N2 := Lib.hid (blk_new wr (.cells #[.int .u64 a, .int .u64 u] 55))
        have HGE := Lib.hid (show g ≠ wr.heap.size from fun e => by have := O.out.lt; omega)
        have SW := Lib.hid U.out.s
        clear hml hmg hms
        go_wp2
        generalize wr.alloc (.cells #[.int .u64 a, .int .u64 u] 55) = w2 at O0 U2 N2 ⊢
        generalize wr.heap.size = e at N2 HGE SW ⊢
        clear e0 e1
        go_loopw [21] (fun t wk => ∃ k : Nat, t = .int .u64 k ∧ k ≤ 8 ∧ Hid (OwnB clE 55 wk g cap (m.set i ⟨a, clrW a1 a2 a u k⟩)) ∧ Hid (HW w wk (.slice A0_0 l0_0.length c0_0) (.slice A0_1 l0_1.length c0_1) (.slice none 0 0) (.slice none 0 0)) ∧ Hid (wk.heap[e]? = some (.cells #[.int .u64 a, .int .u64 u] 55 (0, 0)))) (fun t _ => 8 - (intOf t).toNat)
        case atStart => exact ⟨0, rfl, by omega, O0, U2, N2⟩
        case round =>
          obtain ⟨k, rfl, hk, OK, UK, NK⟩ := hrel
          by_cases hk8 : k < 8
          · have WI := Lib.hid (fun w => host_within.calls _ _ _ _ w (withB_some (IntKind.u64.wrap (a + (k : Int))) a1 a2))
            have n0 := (sblk_cell NK.out 0).trans rfl
            cases hw : withB (IntKind.u64.wrap (a + (k : Int))) a1 a2
            · rw [hw] at WI
              go_wp2_with (go_at_call 36; (with_reducible refine (WI.out _).mono ?_); rintro ex w5 ⟨rfl, ⟨nd, rfl⟩⟩)
              have hb := pw_below_drewN (Below.refl wr.heap.size wr) nd
              refine ⟨⟨k + 1, by go_num, hk8, Lib.hid ?_, Lib.hid (UK.out.below hb), Lib.hid ((hb.block _ (sblk_lt NK.out)).trans NK.out)⟩, by simp [intOf]; omega⟩
              rw [clrW_succ, clrStep, if_neg (by rw [hw]; simp)]
              exact OK.out.below hb
            · rw [hw] at WI
              have hgl : i < (m.set i ⟨a, clrW a1 a2 a u k⟩).length := by rw [List.length_set, HML.out]; exact hlt
              have HGL := Lib.hid hgl
              clear hgl
              go_wp2_with (go_at_call 36; (with_reducible refine (WI.out _).mono ?_); rintro ex w5 ⟨rfl, ⟨nd, rfl⟩⟩; have HB := Lib.hid (pw_below_drewN (Below.refl wr.heap.size wr) nd); have e1 := (OK.out.below HB.out).cell clE_2 HGL.out (j := 1) (by omega); have z1 := (OK.out.below HB.out).free (i * 2 + 1); simp only [List.getElem_set_self, clE, List.getElem?_cons_zero, List.getElem?_cons_succ] at e1)
              have O9 := cl_setb (OK.out.below HB.out) (by rw [HML.out]; exact hlt) (clrW a1 a2 a u (k + 1))
              have U9 := (UK.out.below HB.out)
              have N9 := ((HB.out.block _ (sblk_lt NK.out)).trans NK.out)
              rw [clrW_succ, clrStep, if_pos hw] at O9
              refine ⟨⟨k + 1, by go_num, hk8, Lib.hid ?_, Lib.hid ?_, Lib.hid ?_⟩, by simp [intOf]; omega⟩
              · rw [clrW_succ, clrStep, if_pos hw]
                exact O9
              · exact U9.step ((Below.refl _ _).setCell (p := ⟨g, i * 2 + 1, none⟩) hg _)
              · exact (set_far (Ne.symm HGE.out)).trans N9
          · obtain rfl : k = 8 := by omega
            go_wp2
            refine ⟨⟨i + 1, by go_num, hlt, Lib.hid ?_, UK⟩, by simp [intOf]; omega⟩
            have := OK.out
            rw [show (⟨a, clrW a1 a2 a u 8⟩ : S55) = clrC a1 a2 ⟨a, u⟩ from rfl, HMS.out] at this
            exact this
      · obtain rfl : i = l0_1.length := by omega
        rw [List.take_length, List.drop_length, List.append_nil] at O
        have hR := cl_R O.out hg
        have HR := Lib.hid hR
        clear hR
        have DF := Lib.hid (cl_delfR.calls (fun x => x.f1 == 0) 45 #[] (fun _ _ => rfl) (w.heap.size + 2) (fun _ => True) _ _ _ HR.out U.out.s (by rw [List.length_map]; exact hl) (fun x W _ _ => cl_zero.calls x W))
        rw [List.length_map] at DF
        go_wp2_with (fail)
        refine DF.out.mono ?_
        rintro ex w9 ⟨v9, rfl, hR9, hb9⟩
        have U9 := Lib.hid (U.out.step hb9)
        obtain ⟨A9, c9, rfl⟩ := Kd.R_slice hR9
        have R9 := Lib.hid hR9
        clear hb9 hR9 DF
        have ka0 := (sblk_cell U9.out.h 0).trans rfl
        have ka1 := (sblk_cell U9.out.h 1).trans rfl
        have kz1 := sblk_free U9.out.h 1
        have kr0 := (sblk_cell U9.out.r 0).trans rfl
        have kr1 := (sblk_cell U9.out.r 1).trans rfl
        have ky0 := sblk_free U9.out.r 0
        have ky1 := sblk_free U9.out.r 1
        have U10 := (U9.out.set1 (.slice A9 (List.length (List.filter (fun x => !(x.f1 == 0)) (l0_1.map (clrC a1 a2)))) c9)).setR (.slice A0_0 l0_0.length c0_0) (.slice A9 (List.length (List.filter (fun x => !(x.f1 == 0)) (l0_1.map (clrC a1 a2)))) c9)
        go_wp2
        have f0 := (sblk_cell U10.r 0).trans rfl
        have f1 := (sblk_cell U10.r 1).trans rfl
        refine bodyPost_ret (v := .agg #[.slice A0_0 l0_0.length c0_0, .slice A9 (List.length (List.filter (fun x => !(x.f1 == 0)) (l0_1.map (clrC a1 a2)))) c9]) (by simp [results, Try.results18, go_sem, hu, f0, f1]) rfl ⟨_, _, rfl, view_old VM.out U10.bel (fun k hk => .inl (.inl hk)), ?_, U10.bel⟩
        refine Kd.V_mono (Kd.V_step (Kd.R_V (Kd.R_bound R9.out)) (fun k hk _ => (set_far (by have := hk.2.1; omega)).trans ((set_far (by have := hk.2.1; omega)).trans (set_far (by have := hk.2.1; omega))))) (fun k hk => .inr (by have := hk.2.1; omega))

end Go.Proofs.Ytlmmipdgedfboaa.F
end
