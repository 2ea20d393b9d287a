import Derived.Below
import Derived.Deep.Draws
import Derived.Deep.AppendLies
import Derived.Maps.AppendAt
import Derived.OwnWalk
import Derived.Laws.BytesArg
import Derived.Laws.MakeOwn
import Derived.Laws.OwnMore
import Derived.Deep.OwnRows
import Derived.Tactics
import Derived.Lib.ConvBytes
import Derived.Laws.Slices
import Derived.WalkKit
import Derived.KernelRfl
import Derived.RowKit3
import Derived.Deep.LoopGhost
import Derived.Deep.QuietTactic
import Derived.BigQuiet
import Derived.WideLaws
import Derived.Deep.DeepCutAuto
import Derived.Deep.CutBlock
import Derived.Deep.RegionHeld3
import Derived.Laws.Rows
import Derived.Lib.AppendStr
import Derived.ArgAppend
import Derived.Laws.IdiomCopy
import Derived.RowKit
import Derived.OrdersHeld
import Derived.Laws.BitsLemmas
import Derived.Laws.StructEq
import Derived.OwnWalkIn
import Derived.ProofKit
import Derived.Lib.Hide
import Derived.Shelf.RegionOpen
import Derived.Shelf.Abstract
import Derived.Lib.SliceRun
import Derived.WalkSmall
import Derived.Laws.ResultCell
import Derived.Shelf.Spec.SlicesInsertGrow
import Derived.Test.YtlmmipdgedfboaaZF0
import Derived.Test.YtlmmipdgedfboaaYA1Slc
import Derived.Test.YtlmmipdgedfboaaYA4HHost1
import Derived.Test.YtlmmipdgedfboaaYA6
import Derived.Test.YtlmmipdgedfboaaYA7HHost3
import Derived.Test.YtlmmipdgedfboaaYB23HHost1
section
namespace Go.Proofs.Ytlmmipdgedfboaa.F
open Go.RowKit Go.Shelf Go.Proofs.YtlmmipdgedfboaaW.PrintWords Go.Proofs.YtlmmipdgedfboaaW.PrintLast Go.Proofs.YtlmmipdgedfboaaW.PrintMore
set_option linter.unusedVariables false
set_option linter.unusedSimpArgs false
set_option maxHeartbeats 4000000 in
theorem mp_delf_nil.calls (pf : Nat) (cp : Array Value) (eg : ∀ args w, (callFunc pf args).run Try.prog w = .ok (.enter pf args) w) (w : World) :
    Calls Try.prog 33 #[.slice none 0 0, .func (.func pf) #[] cp] w fun e w' => e = .returned (.slice none 0 0) ∧ Below w.heap.size w w' := by
  have IX : Hid (Calls Try.prog 63 #[.slice none 0 0, .func (.func pf) #[] cp] w fun e w' => e = .returned (.int .i64 (-1)) ∧ Below w.heap.size w w') := by
    refine Lib.hid ?_
    go_enter Try.func63, Try.ntmps63
    go_wp2
    go_loopw [8] (fun t wr => t = .int .i64 0 ∧ wr = w) (fun _ _ => 0)
    case atStart => exact ⟨rfl, rfl⟩
    case round =>
      obtain ⟨rfl, rfl⟩ := hrel
      go_wp2
      go_ret
      exact ⟨rfl, Below.refl _ _⟩
  go_enter Try.func33, Try.ntmps33
  go_wp2_with (go_at_call 63; (with_reducible refine IX.out.mono ?_); rintro e w1 ⟨rfl, hb⟩)
  go_ret
  exact ⟨rfl, hb⟩
theorem mp_delfR.calls (p : S53 → Bool) (pf : Nat) (cp : Array Value) (eg : ∀ args w, (callFunc pf args).run Try.prog w = .ok (.enter pf args) w) (B : Nat) (ok : Nat → Prop) (v : Value) (l : List S53) (w : World) (hR : Kd.R k53 53 w B ok v l) (hB : B ≤ w.heap.size) (hl : l.length ≤ 1000000)
    (HP : ∀ (x : S53) (W : World), (∀ k, k < B → W.heap[k]? = w.heap[k]?) → w.heap.size ≤ W.heap.size → Calls Try.prog pf (#[.agg #[.int .u64 x.f0, .int .i64 x.f1]] ++ cp) W fun e w' => e = .returned (.bool (p x)) ∧ Below W.heap.size W w') :
    Calls Try.prog 33 #[v, .func (.func pf) #[] cp] w fun ex w' => ∃ v', ex = .returned v' ∧ Kd.R k53 53 w' B (fun _ => True) v' (l.filter (fun x => !p x)) ∧ Below B w w' := by
  rcases mp_own hR with ⟨rfl, rfl⟩ | ⟨g, cap, rfl, hg, ho⟩
  · refine (mp_delf_nil.calls pf cp eg w).mono ?_
    rintro e w' ⟨rfl, hb⟩
    exact ⟨_, rfl, Kd.R_nil _ _ _ _ _, hb.mono hB⟩
  · refine (mp_delf.calls p pf cp eg g cap l w ho hl (fun x W hW => HP x W (fun k hk => hW.block k (by omega) (fun e => by injection e with e; omega)) hW.size)).mono ?_
    rintro e w' ⟨rfl, h1, h2⟩
    exact ⟨_, rfl, mp_R h1 hg, below_of_grown (Below.refl _ _) h2 hg hB⟩
set_option maxHeartbeats 4000000 in
theorem um_map.calls (x : S53) (pa pn : Nat) (pg n : Int) (w : World) (h1 : w.heap[pa]? = some (.cells #[.int .u64 pg] 26 (0, 0))) (h2 : w.heap[pn]? = some (.cells #[.int .u64 n] 26 (0, 0))) :
    Calls Try.prog 35 #[.agg #[.int .u64 x.f0, .int .i64 x.f1], .pointer (some ⟨pa, 0, none⟩), .pointer (some ⟨pn, 0, none⟩)] w fun e w' => e = .returned (.bool (withB (x.f0) pg n)) ∧ Below w.heap.size w w' := by
  have WI := Lib.hid (fun w => host_within.calls _ _ _ _ w (withB_some (x.f0) pg n))
  have B0 : Below w.heap.size w (w.alloc (.cells #[.int .u64 x.f0, .int .i64 x.f1] 53)) := (Below.refl _ w).alloc (Nat.le_refl _) _
  have c1 := (B0.cell (p := ⟨pa, 0, none⟩) (sblk_lt h1)).trans ((sblk_cell h1 0).trans rfl)
  have c2 := (B0.cell (p := ⟨pn, 0, none⟩) (sblk_lt h2)).trans ((sblk_cell h2 0).trans rfl)
  have TB := Lib.hid B0
  have hu := Try.underlying53
  clear h1 h2 B0
  go_enter Try.func35, Try.ntmps35
  go_wp2_with (go_at_call 36; (with_reducible refine (WI.out _).mono ?_); rintro e w1 ⟨rfl, ⟨nd, rfl⟩⟩)
  go_ret
  exact ⟨rfl, pw_below_drewN TB.out nd⟩
set_option maxHeartbeats 4000000 in
theorem um_cell.calls (x : S55) (pa pn : Nat) (pg n : Int) (w : World) (h1 : w.heap[pa]? = some (.cells #[.int .u64 pg] 26 (0, 0))) (h2 : w.heap[pn]? = some (.cells #[.int .u64 n] 26 (0, 0))) :
    Calls Try.prog 38 #[.agg #[.int .u64 x.f0, .int .u64 x.f1], .pointer (some ⟨pa, 0, none⟩), .pointer (some ⟨pn, 0, none⟩)] w fun e w' => e = .returned (.bool (withB (IntKind.u64.wrap (Int.tdiv x.f0 16384)) pg n)) ∧ Below w.heap.size w w' := by
  have WI := Lib.hid (fun w => host_within.calls _ _ _ _ w (withB_some (IntKind.u64.wrap (Int.tdiv x.f0 16384)) pg n))
  have B0 : Below w.heap.size w (w.alloc (.cells #[.int .u64 x.f0, .int .u64 x.f1] 55)) := (Below.refl _ w).alloc (Nat.le_refl _) _
  have c1 := (B0.cell (p := ⟨pa, 0, none⟩) (sblk_lt h1)).trans ((sblk_cell h1 0).trans rfl)
  have c2 := (B0.cell (p := ⟨pn, 0, none⟩) (sblk_lt h2)).trans ((sblk_cell h2 0).trans rfl)
  have TB := Lib.hid B0
  have hu := Try.underlying55
  clear h1 h2 B0
  go_enter Try.func38, Try.ntmps38
  go_wp2_with (go_at_call 36; (with_reducible refine (WI.out _).mono ?_); rintro e w1 ⟨rfl, ⟨nd, rfl⟩⟩)
  go_ret
  exact ⟨rfl, pw_below_drewN TB.out nd⟩
def host_Unmap.f (l0_0 : List S53) (l0_1 : List S55) (a1 a2 : Int) : Option (List S53 × List S55 × Int) :=
  (host_wrong.f a1 a2 0).bind fun t => if t = true then some (l0_0, l0_1, 22) else if l0_0.length ≤ 1000000 ∧ l0_1.length ≤ 1000000 then some (l0_0.filter (fun x => !withB x.f0 a1 a2), l0_1.filter (fun x => !withB (IntKind.u64.wrap (Int.tdiv x.f0 16384)) a1 a2), 0) else none
set_option maxHeartbeats 8000000 in
set_option maxRecDepth 100000 in
theorem host_Unmap.calls (P0_0_ : Nat → Prop) (A0_0 : Option Addr) (c0_0 : Nat) (l0_0 : List S53) (P0_1_ : Nat → Prop) (A0_1 : Option Addr) (c0_1 : Nat) (l0_1 : List S55) (a1 a2 : Int) (r1 : List S53) (r2 : List S55) (r3 : Int) (w : World) (hs0_0 : Kd.V k53 53 w w.heap.size (fun k_ => P0_0_ k_) (.slice A0_0 l0_0.length c0_0) l0_0) (hs0_1 : Kd.V k55 55 w w.heap.size (fun k_ => P0_1_ k_) (.slice A0_1 l0_1.length c0_1) l0_1) (h : host_Unmap.f l0_0 l0_1 a1 a2 = some (r1, r2, r3)) :
    Calls Try.prog 14 #[.agg #[.slice A0_0 l0_0.length c0_0, .slice A0_1 l0_1.length c0_1], .int .u64 a1, .int .u64 a2] w fun e w' => ∃ v0_ v1_ : Value, e = .returned (.tuple #[.agg #[v0_, v1_], .int .i64 r3]) ∧ Kd.V k53 53 w' w.heap.size (fun k_ => ((P0_0_ k_ ∨ P0_1_ k_) ∨ w.heap.size ≤ k_)) v0_ r1 ∧ Kd.V k55 55 w' w.heap.size (fun k_ => ((P0_0_ k_ ∨ P0_1_ k_) ∨ w.heap.size ≤ k_)) v1_ r2 ∧ Below w.heap.size w w' := by
  unfold host_Unmap.f at h
  obtain ⟨t, ht, h⟩ := Option.bind_eq_some_iff.1 h
  have WR := Lib.hid (fun w => host_wrong.calls a1 a2 0 t w ht)
  clear ht
  have VM := Lib.hid hs0_0
  have VC := Lib.hid hs0_1
  have CM := Lib.hid (Kd.V_reads' hs0_0)
  have CC := Lib.hid (Kd.V_reads' hs0_1)
  have U0 := Lib.hid (UmW.first w (.slice A0_0 l0_0.length c0_0) (.slice A0_1 l0_1.length c0_1) a1 a2)
  clear hs0_0 hs0_1
  have hu := Try.underlying25
  go_enter Try.func14, Try.ntmps14
  have p0 := (sblk_cell U0.out.p 0).trans rfl
  have q0 := (sblk_cell U0.out.q 0).trans rfl
  go_wp2_with (fail)
  refine (WR.out _).mono ?_
  rintro e w1 ⟨rfl, ⟨nd, rfl⟩⟩
  have U1 := Lib.hid (U0.out.below (pw_below_drewN (Below.refl _ _) nd))
  clear U0 p0 q0 WR
  generalize World.drewN _ nd = w1 at U1 ⊢
  cases t
  · rw [if_neg (by simp)] at h
    split at h
    rotate_left
    · cases h
    rename_i hl
    obtain ⟨rfl, h'⟩ := Prod.mk.inj (Option.some.inj h)
    obtain ⟨rfl, rfl⟩ := Prod.mk.inj h'
    clear h h'
    have h0 := (sblk_cell U1.out.h 0).trans rfl
    go_wp2_with (fail)
    refine (mp_clone.calls A0_0 c0_0 l0_0 w1 (Kd.C_below CM.out.2.2 U1.out.bel) CM.out.2.1 hl.1).mono ?_
    rintro e w2 ⟨v1, rfl, hR1, hb1⟩
    have U2 := Lib.hid (U1.out.below hb1)
    have RR1 := Lib.hid hR1
    have S1 := Lib.hid U1.out.s
    have Z1 := Lib.hid hb1.size
    clear hR1 hb1 h0
    go_wp2_with (fail)
    refine (mp_delfR.calls (fun x => withB x.f0 a1 a2) 35 #[.pointer (some ⟨w.heap.size + 1, 0, none⟩), .pointer (some ⟨w.heap.size + 1 + 1, 0, none⟩)] (fun _ _ => rfl) w1.heap.size _ v1 l0_0 w2 RR1.out Z1.out hl.1 (fun x W hk hs => um_map.calls x _ _ a1 a2 W ((hk _ (by have := S1.out; omega)).trans U2.out.p) ((hk _ (by have := S1.out; omega)).trans U2.out.q))).mono ?_
    rintro e w3 ⟨v2, rfl, hR2, hb2⟩
    have U3 := Lib.hid (U2.out.step (hb2.mono S1.out))
    obtain ⟨A2, c2, rfl⟩ := Kd.R_slice hR2
    have V3 := Lib.hid (fresh_of (base := w.heap.size) hR2)
    have Z3 := Lib.hid hb2.size
    clear hR2 hb2
    have hc0 := (sblk_cell U3.out.h 0).trans rfl
    have hc1 := (sblk_cell U3.out.h 1).trans rfl
    have hz0 := sblk_free U3.out.h 0
    have hz1 := sblk_free U3.out.h 1
    go_wp2_with (fail)
    have U4 := Lib.hid (U3.out.set0 (.slice A2 (l0_0.filter (fun x => !withB x.f0 a1 a2)).length c2))
    have V4 := Lib.hid (fresh_step V3.out (w' := w3.setCell ⟨w.heap.size, 0, none⟩ (.slice A2 (l0_0.filter (fun x => !withB x.f0 a1 a2)).length c2)) (fun k hk _ => set_far (by have := S1.out; omega)))
    have E4 := Lib.hid (show (w3.setCell ⟨w.heap.size, 0, none⟩ (.slice A2 (l0_0.filter (fun x => !withB x.f0 a1 a2)).length c2)).heap.size = w3.heap.size by simp [World.setCell])
    refine (cl_clone.calls A0_1 c0_1 l0_1 _ (Kd.C_below CC.out.2.2 U4.out.bel) CC.out.2.1 hl.2).mono ?_
    clear hc0 hc1 hz0 hz1
    generalize w3.setCell ⟨w.heap.size, 0, none⟩ _ = w4 at U4 V4 E4 ⊢
    rintro e w5 ⟨v3, rfl, hR3, hb3⟩
    have U5 := Lib.hid (U4.out.below hb3)
    have V5 := Lib.hid (fresh_step V4.out (fun k _ hk => hb3.block k (by rw [E4.out]; exact hk)))
    have RR3 := Lib.hid hR3
    have Z4 := Lib.hid hb3.size
    have S4 := Lib.hid U4.out.s
    clear hR3 hb3
    go_wp2_with (fail)
    refine (cl_delfR.calls (fun x => withB (IntKind.u64.wrap (Int.tdiv x.f0 16384)) a1 a2) 38 #[.pointer (some ⟨w.heap.size + 1, 0, none⟩), .pointer (some ⟨w.heap.size + 1 + 1, 0, none⟩)] (fun _ _ => rfl) w4.heap.size _ v3 l0_1 w5 RR3.out Z4.out hl.2 (fun x W hk hs => um_cell.calls x _ _ a1 a2 W ((hk _ (by have := S4.out; omega)).trans U5.out.p) ((hk _ (by have := S4.out; omega)).trans U5.out.q))).mono ?_
    rintro e w6 ⟨v4, rfl, hR4, hb4⟩
    have U6 := Lib.hid (U5.out.step (hb4.mono S4.out))
    have V6 := Lib.hid (fresh_step V5.out (fun k _ hk => hb4.block k (by rw [E4.out]; exact hk)))
    obtain ⟨A4, c4, rfl⟩ := Kd.R_slice hR4
    have W6 := Lib.hid (fresh_of (base := w.heap.size) hR4)
    clear hR4 hb4
    have hc0 := (sblk_cell U6.out.h 0).trans rfl
    have hc1 := (sblk_cell U6.out.h 1).trans rfl
    have hz0 := sblk_free U6.out.h 0
    have hz1 := sblk_free U6.out.h 1
    have r0 := (sblk_cell U6.out.r 0).trans rfl
    have r1 := (sblk_cell U6.out.r 1).trans rfl
    have y0 := sblk_free U6.out.r 0
    have y1 := sblk_free U6.out.r 1
    go_wp2
    have U7 := (U6.out.set1 (.slice A4 (l0_1.filter (fun x => !withB (IntKind.u64.wrap (Int.tdiv x.f0 16384)) a1 a2)).length c4)).setR (.slice A2 (l0_0.filter (fun x => !withB x.f0 a1 a2)).length c2) (.slice A4 (l0_1.filter (fun x => !withB (IntKind.u64.wrap (Int.tdiv x.f0 16384)) a1 a2)).length c4)
    have f0 := (sblk_cell U7.r 0).trans rfl
    have f1 := (sblk_cell U7.r 1).trans rfl
    have s1 := S1.out
    have s4 := S4.out
    refine bodyPost_ret (v := .tuple #[.agg #[.slice A2 (l0_0.filter (fun x => !withB x.f0 a1 a2)).length c2, .slice A4 (l0_1.filter (fun x => !withB (IntKind.u64.wrap (Int.tdiv x.f0 16384)) a1 a2)).length c4], .int .i64 0]) (by simp [results, Try.results14, go_sem, f0, f1]) rfl ⟨_, _, rfl, ?_, ?_, U7.bel⟩
    · exact Kd.V_mono (fresh_step V6.out (fun k hk _ => (set_far (by omega)).trans ((set_far (by omega)).trans (set_far (by omega))))) (fun k hk => .inr (by omega))
    · exact Kd.V_mono (fresh_step W6.out (fun k hk _ => (set_far (by omega)).trans ((set_far (by omega)).trans (set_far (by omega))))) (fun k hk => .inr (by omega))
  · rw [if_pos rfl] at h
    obtain ⟨rfl, h'⟩ := Prod.mk.inj (Option.some.inj h)
    obtain ⟨rfl, rfl⟩ := Prod.mk.inj h'
    clear h h'
    have h0 := (sblk_cell U1.out.h 0).trans rfl
    have h1 := (sblk_cell U1.out.h 1).trans rfl
    have r0 := (sblk_cell U1.out.r 0).trans rfl
    have r1 := (sblk_cell U1.out.r 1).trans rfl
    have z0 := sblk_free U1.out.r 0
    have z1 := sblk_free U1.out.r 1
    go_wp2
    have U2 := U1.out.setR (.slice A0_0 l0_0.length c0_0) (.slice A0_1 l0_1.length c0_1)
    have f0 := (sblk_cell U2.r 0).trans rfl
    have f1 := (sblk_cell U2.r 1).trans rfl
    exact bodyPost_ret (v := .tuple #[.agg #[.slice A0_0 l0_0.length c0_0, .slice A0_1 l0_1.length c0_1], .int .i64 22]) (by simp [results, Try.results14, go_sem, f0, f1]) rfl ⟨_, _, rfl, view_old VM.out U2.bel (fun k hk => .inl (.inl hk)), view_old VC.out U2.bel (fun k hk => .inl (.inr hk)), U2.bel⟩
end Go.Proofs.Ytlmmipdgedfboaa.F
end
