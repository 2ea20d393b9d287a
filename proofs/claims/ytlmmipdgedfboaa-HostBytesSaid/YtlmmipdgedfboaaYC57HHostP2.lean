import Derived.Below
import Derived.Deep.Draws
import Derived.Deep.AppendLies
import Derived.Maps.AppendAt
import Derived.OwnWalk
import Derived.Laws.BytesArg
import Derived.Laws.MakeOwn
import Derived.Laws.OwnMore
import Derived.Deep.OwnRows
import Derived.Tactics
import Derived.Lib.ConvBytes
import Derived.Laws.Slices
import Derived.WalkKit
import Derived.KernelRfl
import Derived.RowKit3
import Derived.Deep.LoopGhost
import Derived.Deep.QuietTactic
import Derived.BigQuiet
import Derived.WideLaws
import Derived.Deep.DeepCutAuto
import Derived.Deep.CutBlock
import Derived.Deep.RegionHeld3
import Derived.Laws.Rows
import Derived.Lib.AppendStr
import Derived.ArgAppend
import Derived.Laws.IdiomCopy
import Derived.RowKit
import Derived.OrdersHeld
import Derived.Laws.BitsLemmas
import Derived.Laws.StructEq
import Derived.OwnWalkIn
import Derived.ProofKit
import Derived.Lib.Hide
import Derived.Shelf.RegionOpen
import Derived.Shelf.Abstract
import Derived.Lib.SliceRun
import Derived.WalkSmall
import Derived.Laws.ResultCell
import Derived.Shelf.Spec.SlicesInsertGrow
import Derived.OpenShut
import Derived.Deep.Slices
import Derived.SizedLaws
import Derived.Test.YtlmmipdgedfboaaZF0
import Derived.Test.YtlmmipdgedfboaaYA1Slc
import Derived.Test.YtlmmipdgedfboaaYA2LawK
import Derived.Test.YtlmmipdgedfboaaYA7HHost3
import Derived.Test.YtlmmipdgedfboaaYA10HHost11
import Derived.Test.YtlmmipdgedfboaaYA14
import Derived.Test.YtlmmipdgedfboaaYA16
import Derived.Test.YtlmmipdgedfboaaYA17HHost6
import Derived.Test.YtlmmipdgedfboaaYA18
import Derived.Test.YtlmmipdgedfboaaYA20
import Derived.Test.YtlmmipdgedfboaaYA22
import Derived.Test.YtlmmipdgedfboaaYC42
import Derived.Test.YtlmmipdgedfboaaYC47HHost7
import Derived.Test.YtlmmipdgedfboaaYC53PHost8
import Derived.Test.YtlmmipdgedfboaaYC55FFerryref03Clear
import Derived.Test.YtlmmipdgedfboaaYC56
section
namespace Go.Proofs.Ytlmmipdgedfboaa.F
open Go.RowKit Go.Shelf Go.Proofs.YtlmmipdgedfboaaW.PrintWords Go.Proofs.YtlmmipdgedfboaaW.PrintLast Go.Proofs.YtlmmipdgedfboaaW.PrintMore
set_option linter.unusedVariables false
set_option linter.unusedSimpArgs false
def RowsV (W : World) (ok : Nat → Prop) (A : Option Addr) (c : Nat) (B : Option Addr) (d : Nat) (l : List SM) (m : List SC) : Prop := Kd.V kM 53 W 0 ok (.slice A l.length c) l ∧ Kd.V kC 55 W 0 ok (.slice B m.length d) m
section
variable {W W' : World} {ok ok' : Nat → Prop} {A : Option Addr} {c : Nat} {B : Option Addr} {d : Nat} {l : List SM} {m : List SC}
theorem RowsV.below (h : RowsV W ok A c B d l m) (hb : Below W.heap.size W W') : RowsV W' ok A c B d l m := ⟨Kd.V_below h.1 hb, Kd.V_below h.2 hb⟩
theorem RowsV.wide (h : RowsV W ok A c B d l m) (hk : ∀ k, ok k → ok' k) : RowsV W ok' A c B d l m := ⟨Kd.V_mono h.1 hk, Kd.V_mono h.2 hk⟩
theorem RowsV.set2 (h : RowsV W ok A c B d l m) {b : Nat} (hk : ∀ k, ok k → k ≠ b) (u v : Value) : RowsV ((W.setCell ⟨b, 0, none⟩ u).setCell ⟨b, 1, none⟩ v) ok A c B d l m :=
  ⟨Kd.V_far (p := ⟨b, 1, none⟩) (Kd.V_far (p := ⟨b, 0, none⟩) h.1 hk u) hk v, Kd.V_far (p := ⟨b, 1, none⟩) (Kd.V_far (p := ⟨b, 0, none⟩) h.2 hk u) hk v⟩
theorem RowsV.host (h : RowsV W ok A c B d l m) : HostV W (.slice A l.length c) (.slice B m.length d) l m := ⟨SlV.of_view h.1, SlV.of_view h.2⟩
theorem RowsV.of (hC : Kd.C kM W A l.length l) (hc : l.length ≤ c) (hD : Kd.C kC W B m.length m) (hd : m.length ≤ d) : RowsV W (fun k => k < W.heap.size) A c B d l m :=
  ⟨Kd.V_mk hc (Kd.C_F k53_heap hC), Kd.V_mk hd (Kd.C_F k55_heap hD)⟩
theorem RowsV.from {b0 b1 : Nat} {v0 v1 : Value} (h0 : Kd.V kM 53 W b0 ok v0 l) (h1 : Kd.V kC 55 W b1 ok v1 m) : ∃ A c B d, v0 = .slice A l.length c ∧ v1 = .slice B m.length d ∧ RowsV W (fun k => ok k ∧ k < W.heap.size) A c B d l m := by
  obtain ⟨A, c, rfl, hc, hF⟩ := h0
  obtain ⟨B, d, rfl, hd, hG⟩ := h1
  exact ⟨A, c, B, d, rfl, rfl, Kd.V_bound (Kd.V_mk hc hF), Kd.V_bound (Kd.V_mk hd hG)⟩
theorem hClear_V {N : Nat} (hH : RowsV W (fun k => k < N) A c B d l m) (hm : m.length ≤ 1000000) {a n : Int} {r2 : List SC} (hr : clearS m a n = r2) :
    Calls Try.prog 18 #[.agg #[.slice A l.length c, .slice B m.length d], .int .u64 a, .int .u64 n] W fun e w' => ∃ A' c' B' d', e = .returned (.agg #[.slice A' l.length c', .slice B' r2.length d']) ∧ RowsV w' (fun k => (k < N ∨ W.heap.size ≤ k) ∧ k < w'.heap.size) A' c' B' d' l r2 ∧ Below W.heap.size W w' := by
  refine (host_Clear.calls (fun k => k < N) A c l (fun k => k < N) B d m a n l r2 W hH.1 hH.2 (by rw [host_Clear_spec l m hm, hr])).mono ?_
  rintro e w' ⟨x, y, he, h0, h1, hb⟩
  obtain ⟨A', c', B', d', rfl, rfl, h⟩ := RowsV.from h0 h1
  exact ⟨A', c', B', d', he, h.wide (fun k hk => ⟨by have := hk.1; omega, hk.2⟩), hb⟩
theorem rClear_V {N : Nat} (hH : RowsV W (fun k => k < N) A c B d l m) (hm : m.length ≤ 1000000) {a n : Int} {r2 : List SC} (hr : clearS m a n = r2) :
    Calls Try.prog 19 #[.agg #[.slice A l.length c, .slice B m.length d], .int .u64 a, .int .u64 n] W fun e w' => ∃ A' c' B' d', e = .returned (.agg #[.slice A' l.length c', .slice B' r2.length d']) ∧ RowsV w' (fun k => (k < N ∨ W.heap.size ≤ k) ∧ k < w'.heap.size) A' c' B' d' l r2 ∧ Below W.heap.size W w' := by
  obtain ⟨B0, d0, e0, hd0, hC⟩ := SlV.of_view hH.2
  obtain ⟨rfl, rfl⟩ : B = B0 ∧ d = d0 := by injection e0 with h1 _ h2; exact ⟨h1, h2⟩
  refine (ferryref03_Clear.calls (10 * m.length + 1) (fun k => k < N) A c l B d m a n l r2 W hH.1 hC hd0 (by rw [ref_Clear l m hm, hr])).mono ?_
  rintro e w' ⟨x, y, he, h0, h1, hb⟩
  obtain ⟨A', c', B', d', rfl, rfl, h⟩ := RowsV.from (ok := fun k => k < N ∨ W.heap.size ≤ k) (Kd.V_mono h0 (fun k hk => hk.1)) (Kd.V_mono (Kd.R_V (base' := 0) h1) (fun k hk => .inr hk))
  exact ⟨A', c', B', d', he, h, hb⟩
end
def ferrylaw03_HostBytes.T7 : Bool × List (List Nat × List Nat) := (true, [([], []), ([], []), ([], []), ([0, 1, 2], [0, 1, 2]), ([], []), ([], []), ([], []), ([4, 5, 6, 3], [4, 5, 6]), ([], []), ([], []), ([8, 3, 7, 0, 1, 2, 3, 8, 9], [3, 8]), ([9, 7, 10, 0, 1, 2, 3, 4, 5, 6, 7, 8, 9, 10], [7, 9])])
def ferrylaw03_HostBytes.B7 : List Nat := [0, 0, 0, 7, 0, 0, 0, 127, 0, 0, 1023, 2047]
theorem ferrylaw03_HostBytes.tab7 : rtab .any (opsOf Try.f5 7) = ferrylaw03_HostBytes.T7 := by kernel_rfl
theorem ferrylaw03_HostBytes.bits7 : waitsOk ferrylaw03_HostBytes.T7.2 ferrylaw03_HostBytes.B7 = true := by kernel_rfl
-- HAND fn=ferry/ferrylaw03.HostBytes ; rounds=0 ; making=1 ; laid=0
def ferrylaw03_HostBytes.f (l0_0 : List S53) (l0_1 : List S55) (a1 a2 a3 a4 : Int) : Option Bool := if okH l0_0 l0_1 = true ∧ (0 ≤ a1 ∧ a1 ≤ 18446744073709551615) ∧ (-9223372036854775808 ≤ a2 ∧ a2 ≤ 9223372036854775807) ∧ (0 ≤ a3 ∧ a3 ≤ 18446744073709551615) ∧ (0 ≤ a4 ∧ a4 ≤ 18446744073709551615) then some true else none
set_option maxHeartbeats 8000000 in
set_option maxRecDepth 100000 in
theorem ferrylaw03_HostBytes.calls (A0_0 : Option Addr) (c0_0 : Nat) (l0_0 : List S53) (A0_1 : Option Addr) (c0_1 : Nat) (l0_1 : List S55) (a1 a2 a3 a4 : Int) (r : Bool) (w : World) (hr0_0 : Kd.C k53 w A0_0 l0_0.length l0_0) (hc0_0 : l0_0.length ≤ c0_0) (hr0_1 : Kd.C k55 w A0_1 l0_1.length l0_1) (hc0_1 : l0_1.length ≤ c0_1) (h : ferrylaw03_HostBytes.f l0_0 l0_1 a1 a2 a3 a4 = some r) :
    Calls Try.prog 5 #[.agg #[.slice A0_0 l0_0.length c0_0, .slice A0_1 l0_1.length c0_1], .int .u64 a1, .int .i64 a2, .int .u64 a3, .int .u64 a4] w fun e w' => e = .returned (.bool r) ∧ Below w.heap.size w w' := by
  unfold ferrylaw03_HostBytes.f at h
  split at h
  rotate_left
  · cases h
  rename_i hcond
  obtain rfl : true = r := Option.some.inj h
  clear h
  obtain ⟨ho, ha1, ha2, ha3, ha4⟩ := hcond
  have WF := Lib.hid (okH_wf ho)
  clear ho
  have X1 := Lib.hid ha1
  have X3 := Lib.hid ha3
  have X4 := Lib.hid ha4
  clear ha1 ha2 ha3 ha4
  have VH := Lib.hid (show HostV w _ _ l0_0 l0_1 from ⟨SlV.mk hr0_0 hc0_0, SlV.mk hr0_1 hc0_1⟩)
  have HC0 := Lib.hid hr0_0
  have HC1 := Lib.hid hr0_1
  have HN0 := Lib.hid hc0_0
  have HN1 := Lib.hid hc0_1
  clear hr0_0 hc0_0 hr0_1 hc0_1
  have mixed : Try.prog.follows Departure.mixedOrders = true := by kernel_rfl
  have hu := Try.underlying25
  have hu2 := Try.underlying30
  have CH := Lib.hid (show Chain [w] w from ⟨Below.refl _ _, trivial⟩)
  go_enter Try.func5, Try.ntmps5
  go_upto_region 1 with (fail)
  replace CH := Lib.hid (CH.out.alloc (.cells #[.slice A0_0 l0_0.length c0_0, .slice A0_1 l0_1.length c0_1] 25))
  have BK5 := Lib.hid (blk_new w (.cells #[.slice A0_0 l0_0.length c0_0, .slice A0_1 l0_1.length c0_1] 25))
  generalize w.alloc (.cells #[.slice A0_0 l0_0.length c0_0, .slice A0_1 l0_1.length c0_1] 25) = y1 at CH BK5 ⊢
  replace CH := Lib.hid CH.out.push
  have q5_0 := (box_cell BK5.out CH.out.head 0).trans rfl
  have q5_1 := (box_cell BK5.out CH.out.head 1).trans rfl
  cases hfh : few3 l0_0 l0_1
  · skip
    go_wp2_with (first | (go_at_call 8; (with_reducible refine (few_L (VH.out.below CH.out.tail.head)).mono ?_); rintro e wx ⟨rfl, hb⟩; replace CH := Lib.hid (CH.out.step hb); clear hb; have q5_0 := (box_cell BK5.out CH.out.head 0).trans rfl; have q5_1 := (box_cell BK5.out CH.out.head 1).trans rfl) | (go_at_call 10; (with_reducible refine awake_L.mono ?_); rintro e wx ⟨rfl, hb⟩; replace CH := Lib.hid (CH.out.step hb); clear hb))
    go_ret
    exact ⟨rfl, CH.out.tail.head⟩
  have HFH := Lib.hid (show l0_0.length ≤ 70 ∧ l0_1.length ≤ 200 from of_decide_eq_true hfh)
  have HL := Lib.hid (show l0_0.length ≤ 1000000 ∧ l0_1.length ≤ 1000000 by have := HFH.out; omega)
  cases hfit : fitR l0_0 l0_1
  · skip
    go_wp2_with (first | (go_at_call 8; (with_reducible refine (few_L (VH.out.below CH.out.tail.head)).mono ?_); rintro e wx ⟨rfl, hb⟩; replace CH := Lib.hid (CH.out.step hb); clear hb; have q5_0 := (box_cell BK5.out CH.out.head 0).trans rfl; have q5_1 := (box_cell BK5.out CH.out.head 1).trans rfl) | (go_at_call 9; (with_reducible refine (rFit_L (VH.out.below CH.out.tail.head) HL.out).mono ?_); rintro e wx ⟨rfl, hb⟩; replace CH := Lib.hid (CH.out.step hb); clear hb; have q5_0 := (box_cell BK5.out CH.out.head 0).trans rfl; have q5_1 := (box_cell BK5.out CH.out.head 1).trans rfl) | (go_at_call 10; (with_reducible refine awake_L.mono ?_); rintro e wx ⟨rfl, hb⟩; replace CH := Lib.hid (CH.out.step hb); clear hb))
    go_ret
    exact ⟨rfl, CH.out.tail.head⟩
  have HF := Lib.hid ((fitR_iff WF.out.1 WF.out.2).1 hfit)
  have HS := Lib.hid (show l0_1.length ≤ 130000 by have := HFH.out; omega)
  obtain ⟨rl1, rl2, rl3, erl⟩ : ∃ x y z, loadS l0_0 l0_1 a1 a2 = (x, y, z) := ⟨_, _, _, rfl⟩
  have El := Lib.hid erl
  clear erl
  obtain ⟨rs1, rs2, rs3, rs4, ers⟩ : ∃ x y z u, storeS l0_0 l0_1 a1 a2 a3 = (x, y, z, u) := ⟨_, _, _, _, rfl⟩
  have Fs := Lib.hid (show FitH rs1 rs2 by have := HF.out.store (n := a2) (v := a3) X1.out.1 (by have := X1.out; omega) (by have := HS.out; omega); rw [ers] at this; exact this)
  have Es := Lib.hid ers
  clear ers
  obtain ⟨rc2, erc⟩ : ∃ x, clearS l0_1 a1 a4 = x := ⟨_, rfl⟩
  have Fc := Lib.hid (show FitH l0_0 rc2 by have := HF.out.clear (a := a1) (n := a4) X1.out.1 X4.out.1; rw [erc] at this; exact this)
  have Ec := Lib.hid erc
  clear erc
  go_upto_region 3 with (first | (go_at_call 8; (with_reducible refine (few_L (VH.out.below CH.out.tail.head)).mono ?_); rintro e wx ⟨rfl, hb⟩; replace CH := Lib.hid (CH.out.step hb); clear hb; have q5_0 := (box_cell BK5.out CH.out.head 0).trans rfl; have q5_1 := (box_cell BK5.out CH.out.head 1).trans rfl) | (go_at_call 9; (with_reducible refine (rFit_L (VH.out.below CH.out.tail.head) HL.out).mono ?_); rintro e wx ⟨rfl, hb⟩; replace CH := Lib.hid (CH.out.step hb); clear hb; have q5_0 := (box_cell BK5.out CH.out.head 0).trans rfl; have q5_1 := (box_cell BK5.out CH.out.head 1).trans rfl))
  have q5_0 := (box_cell BK5.out CH.out.head 0).trans rfl
  have q5_1 := (box_cell BK5.out CH.out.head 1).trans rfl
  go_upto_region 4 with (go_at_call 13; (with_reducible refine (hLoad_L (VH.out.below CH.out.tail.head) HF.out X1.out.1 X1.out.2 El.out).mono ?_); rintro e wl1 ⟨rfl, hb⟩)
  replace CH := Lib.hid ((CH.out.step hb).alloc (.cells #[.int .i64 rl2, .int .u64 rl3] 30))
  have BK12 := Lib.hid (blk_new wl1 (.cells #[.int .i64 rl2, .int .u64 rl3] 30))
  generalize wl1.alloc (.cells #[.int .i64 rl2, .int .u64 rl3] 30) = y2 at CH BK12 ⊢
  replace CH := Lib.hid CH.out.push
  clear hb
  have q5_0 := (box_cell BK5.out CH.out.tail.head 0).trans rfl
  have q5_1 := (box_cell BK5.out CH.out.tail.head 1).trans rfl
  go_upto_region 5 with (go_at_call 16; (with_reducible refine (rLoad_L (VH.out.below CH.out.tail.tail.head) HF.out X1.out.1 X1.out.2 El.out).mono ?_); rintro e wl2 ⟨rfl, hb⟩)
  replace CH := Lib.hid ((CH.out.step hb).alloc (.cells #[.int .i64 rl2, .int .u64 rl3] 30))
  have BK14 := Lib.hid (blk_new wl2 (.cells #[.int .i64 rl2, .int .u64 rl3] 30))
  generalize wl2.alloc (.cells #[.int .i64 rl2, .int .u64 rl3] 30) = y3 at CH BK14 ⊢
  replace CH := Lib.hid CH.out.push
  clear hb
  have q5_0 := (box_cell BK5.out CH.out.tail.tail.head 0).trans rfl
  have q5_1 := (box_cell BK5.out CH.out.tail.tail.head 1).trans rfl
  go_upto_region 6 with (go_at_call 11; (with_reducible refine (hStore_L (VH.out.below CH.out.tail.tail.tail.head) HF.out HS.out X1.out.1 X1.out.2 X3.out.1 X3.out.2 Es.out).mono ?_); rintro e wxs ⟨As, cs, Bs, ds, rfl, hv, hb⟩)
  replace CH := Lib.hid (((CH.out.step hb).alloc (.cells #[.slice As rs1.length cs, .slice Bs rs2.length ds] 25)).alloc (.cells #[.int .i64 rs3, .int .u64 rs4] 30))
  have BK15 := Lib.hid (blk_alloc (blk_new wxs (.cells #[.slice As rs1.length cs, .slice Bs rs2.length ds] 25)) (.cells #[.int .i64 rs3, .int .u64 rs4] 30))
  have BK16 := Lib.hid (blk_new1 wxs (.cells #[.slice As rs1.length cs, .slice Bs rs2.length ds] 25) (.cells #[.int .i64 rs3, .int .u64 rs4] 30))
  have Vs := Lib.hid ((HostV.below hv (below_new wxs (.cells #[.slice As rs1.length cs, .slice Bs rs2.length ds] 25))).below (below_new _ (.cells #[.int .i64 rs3, .int .u64 rs4] 30)))
  generalize (wxs.alloc (.cells #[.slice As rs1.length cs, .slice Bs rs2.length ds] 25)).alloc (.cells #[.int .i64 rs3, .int .u64 rs4] 30) = y4 at CH BK15 BK16 Vs ⊢
  replace CH := Lib.hid CH.out.push
  clear hv hb
  have q5_0 := (box_cell BK5.out CH.out.tail.tail.tail.head 0).trans rfl
  have q5_1 := (box_cell BK5.out CH.out.tail.tail.tail.head 1).trans rfl
  go_upto_region 7 with (go_at_call 17; (with_reducible refine (rStore_L (VH.out.below CH.out.tail.tail.tail.tail.head) HF.out HS.out X1.out.1 X1.out.2 X3.out.1 X3.out.2 Es.out).mono ?_); rintro e wxs' ⟨As', cs', Bs', ds', rfl, hv, hb⟩)
  replace CH := Lib.hid (((CH.out.step hb).alloc (.cells #[.slice As' rs1.length cs', .slice Bs' rs2.length ds'] 25)).alloc (.cells #[.int .i64 rs3, .int .u64 rs4] 30))
  have BK17 := Lib.hid (blk_alloc (blk_new wxs' (.cells #[.slice As' rs1.length cs', .slice Bs' rs2.length ds'] 25)) (.cells #[.int .i64 rs3, .int .u64 rs4] 30))
  have BK18 := Lib.hid (blk_new1 wxs' (.cells #[.slice As' rs1.length cs', .slice Bs' rs2.length ds'] 25) (.cells #[.int .i64 rs3, .int .u64 rs4] 30))
  have Vs' := Lib.hid ((HostV.below hv (below_new wxs' (.cells #[.slice As' rs1.length cs', .slice Bs' rs2.length ds'] 25))).below (below_new _ (.cells #[.int .i64 rs3, .int .u64 rs4] 30)))
  generalize (wxs'.alloc (.cells #[.slice As' rs1.length cs', .slice Bs' rs2.length ds'] 25)).alloc (.cells #[.int .i64 rs3, .int .u64 rs4] 30) = y5 at CH BK17 BK18 Vs' ⊢
  replace CH := Lib.hid CH.out.push
  clear hv hb
  have RV := Lib.hid ((RowsV.of HC0.out HN0.out HC1.out HN1.out).below CH.out.tail.tail.tail.tail.tail.head)
  clear HC0 HC1 HN0 HN1
  have Z0 := (CH.out.tail.head).size
  have Z1 := (CH.out.tail.tail.head).size
  have Z2 := (CH.out.tail.tail.tail.head).size
  have Z3 := (CH.out.tail.tail.tail.tail.head).size
  have Z4 := (CH.out.tail.tail.tail.tail.tail.head).size
  replace RV := Lib.hid (RV.out.below (below_d _))
  replace CH := Lib.hid CH.out.drew
  have Sd : y5.heap.size ≤ y5.drew.heap.size := Nat.le_refl _
  refine start_ (n := 12) (S := fun w' => w'.cell? ⟨w.heap.size, 0, none⟩ = some (.slice A0_0 l0_0.length c0_0) ∧ w'.cell? ⟨w.heap.size, 1, none⟩ = some (.slice A0_1 l0_1.length c0_1)) (ds := []) (ms_ 12 0) (by kernel_rfl) rfl rfl ⟨((box_cell BK5.out CH.out.tail.tail.tail.tail.head 0).trans rfl), ((box_cell BK5.out CH.out.tail.tail.tail.tail.head 1).trans rfl)⟩ (fun hHeld => ?_)
  refine with_tabW ferrylaw03_HostBytes.tab7 ferrylaw03_HostBytes.bits7 (fun HT_ HW_ => ?_)
  generalize y5.drew = z0 at CH RV Sd hHeld ⊢
  refine pure_ (i := 1) (N := some 61) (v := ?_) (a' := ?_) #[false, true, false, false, false, false, false, false, false, false, false, false] rfl rfl (any_of HT_.out (by kernel_rfl)) (fun _ _ _ h => h) (Or.inl ⟨by rfl, ?_⟩) ?_ ?_
  rotate_left
  · intro w'
    go_simp
    with_reducible rfl
  rotate_left
  · simp only [Act.put, List.setIfInBounds_toArray, List.set_cons_zero, List.set_cons_succ, i64_w, i32_w]
    rfl
  refine pure_ (i := 2) (N := some 62) (v := ?_) (a' := ?_) #[false, true, true, false, false, false, false, false, false, false, false, false] rfl rfl (any_of HT_.out (by kernel_rfl)) (fun _ _ _ h => h) (Or.inl ⟨by rfl, ?_⟩) ?_ ?_
  rotate_left
  · intro w'
    go_simp
    with_reducible rfl
  rotate_left
  · simp only [Act.put, List.setIfInBounds_toArray, List.set_cons_zero, List.set_cons_succ, i64_w, i32_w]
    rfl
  refine pure_ (i := 5) (N := some 65) (v := ?_) (a' := ?_) #[false, true, true, false, false, true, false, false, false, false, false, false] rfl rfl (any_of HT_.out (by kernel_rfl)) (fun _ _ _ h => h) (Or.inl ⟨by rfl, ?_⟩) ?_ ?_
  rotate_left
  · intro w'
    go_simp
    with_reducible rfl
  rotate_left
  · simp only [Act.put, List.setIfInBounds_toArray, List.set_cons_zero, List.set_cons_succ, i64_w, i32_w]
    rfl
  refine pure_ (i := 6) (N := some 66) (v := ?_) (a' := ?_) #[false, true, true, false, false, true, true, false, false, false, false, false] rfl rfl (any_of HT_.out (by kernel_rfl)) (fun _ _ _ h => h) (Or.inl ⟨by rfl, ?_⟩) ?_ ?_
  rotate_left
  · intro w'
    go_simp
    with_reducible rfl
  rotate_left
  · simp only [Act.put, List.setIfInBounds_toArray, List.set_cons_zero, List.set_cons_succ, i64_w, i32_w]
    rfl
  refine take_ (i := 0) (N := some 60) (v := ?_) (a' := ?_) #[true, true, true, false, false, true, true, false, false, false, false, false] rfl rfl (take_ofW HT_.out HW_.out (by kernel_rfl)) (fun _ _ _ h => h) (Or.inl ⟨by rfl, ?_⟩) hHeld ?_ ?_
  rotate_left
  · rintro w' ⟨s0, s1⟩
    go_simp
    with_reducible rfl
  rotate_left
  · simp only [Act.put, List.setIfInBounds_toArray, List.set_cons_zero, List.set_cons_succ, i64_w, i32_w]
    rfl
  refine take_ (i := 4) (N := some 64) (v := ?_) (a' := ?_) #[true, true, true, false, true, true, true, false, false, false, false, false] rfl rfl (take_ofW HT_.out HW_.out (by kernel_rfl)) (fun _ _ _ h => h) (Or.inl ⟨by rfl, ?_⟩) hHeld ?_ ?_
  rotate_left
  · rintro w' ⟨s0, s1⟩
    go_simp
    with_reducible rfl
  rotate_left
  · simp only [Act.put, List.setIfInBounds_toArray, List.set_cons_zero, List.set_cons_succ, i64_w, i32_w]
    rfl
  refine join_ (σ := (Option Addr × Nat × Option Addr × Nat) × (Option Addr × Nat × Option Addr × Nat) × Nat × Nat) 2 (ms_ 12 10) (fun s => [(63, .agg #[.slice s.1.1 l0_0.length s.1.2.1, .slice s.1.2.2.1 rc2.length s.1.2.2.2]), (67, .agg #[.slice s.2.1.1 l0_0.length s.2.1.2.1, .slice s.2.1.2.2.1 rc2.length s.2.1.2.2.2]), (19, .pointer (some ⟨s.2.2.1, 0, none⟩)), (20, .pointer (some ⟨s.2.2.2, 0, none⟩))]) (fun s w' => RowsV w' (fun k => k ≠ s.2.2.1 ∧ k ≠ s.2.2.2) s.1.1 s.1.2.1 s.1.2.2.1 s.1.2.2.2 l0_0 rc2 ∧ RowsV w' (fun k => k ≠ s.2.2.1 ∧ k ≠ s.2.2.2) s.2.1.1 s.2.1.2.1 s.2.1.2.2.1 s.2.1.2.2.2 l0_0 rc2 ∧ w'.heap[s.2.2.1]? = some (.cells #[.slice none 0 0, .slice none 0 0] 25 (0, 0)) ∧ w'.heap[s.2.2.2]? = some (.cells #[.slice none 0 0, .slice none 0 0] 25 (0, 0)) ∧ s.2.2.1 ≠ s.2.2.2 ∧ y5.heap.size ≤ s.2.2.1 ∧ y5.heap.size ≤ s.2.2.2 ∧ Chain [y5, y4, y3, y2, y1, w] w') ?_ ?_
  rotate_left
  · intro hCont
    refine three_ (i := 3) (j := 8) (k := 9) (Ni := some 63) (Nj := some 19) (Nk := some 20) (ms_ 12 7) #[true, true, true, false, true, true, true, false, true, false, false, false] #[true, true, true, false, true, true, true, false, false, true, false, false] rfl rfl rfl rfl rfl rfl (three_of HT_.out (by kernel_rfl)) (by decide) (by decide) (by decide) (fun K hK => ?_) (fun K hK => ?_) (fun K hK => ?_)
    · skip
      refine goes_ Try.func18 (by kernel_rfl) rfl #[.agg #[.slice A0_0 l0_0.length c0_0, .slice A0_1 l0_1.length c0_1], .int .u64 a1, .int .u64 a4] (by rfl) rfl rfl (by simp only [List.map_toArray, List.map_cons, List.map_nil]; rfl) ?_
      with_reducible refine (hClear_V RV.out (by have := HS.out; omega) Ec.out).mono ?_
      rintro e z1 ⟨A3, c3, B3, d3, rfl, hv, hb⟩
      refine ⟨_, rfl, ?_⟩
      have V3 := Lib.hid hv
      replace RV := Lib.hid (RV.out.below hb)
      replace CH := Lib.hid (CH.out.step hb)
      have S1 := hb.size
      clear hb hv
      refine hK.out _ _ ⟨((box_cell BK5.out CH.out.tail.tail.tail.tail.head 0).trans rfl), ((box_cell BK5.out CH.out.tail.tail.tail.tail.head 1).trans rfl)⟩ (fun hHeld => ?_)
      clear hK K
      refine norm_ (a' := ?_) ?_ ?_
      rotate_left
      · show Act.put _ (some 63) _ = _
        simp only [Act.put, List.setIfInBounds_toArray, List.set_cons_zero, List.set_cons_succ, i64_w, i32_w]
        rfl
      refine three_ (i := 7) (j := 8) (k := 9) (Ni := some 67) (Nj := some 19) (Nk := some 20) (ms_ 12 8) #[true, true, true, true, true, true, true, false, true, false, false, false] #[true, true, true, true, true, true, true, false, false, true, false, false] rfl rfl rfl rfl rfl rfl (three_of HT_.out (by kernel_rfl)) (by decide) (by decide) (by decide) (fun K hK => ?_) (fun K hK => ?_) (fun K hK => ?_)
      · skip
        refine goes_ Try.func19 (by kernel_rfl) rfl #[.agg #[.slice A0_0 l0_0.length c0_0, .slice A0_1 l0_1.length c0_1], .int .u64 a1, .int .u64 a4] (by rfl) rfl rfl (by simp only [List.map_toArray, List.map_cons, List.map_nil]; rfl) ?_
        with_reducible refine (rClear_V RV.out (by have := HS.out; omega) Ec.out).mono ?_
        rintro e z2 ⟨A7, c7, B7, d7, rfl, hv, hb⟩
        refine ⟨_, rfl, ?_⟩
        have V7 := Lib.hid hv
        replace RV := Lib.hid (RV.out.below hb)
        replace CH := Lib.hid (CH.out.step hb)
        have S2 := hb.size
        replace V3 := Lib.hid (V3.out.below hb)
        clear hb hv
        refine hK.out _ _ ⟨((box_cell BK5.out CH.out.tail.tail.tail.tail.head 0).trans rfl), ((box_cell BK5.out CH.out.tail.tail.tail.tail.head 1).trans rfl)⟩ (fun hHeld => ?_)
        clear hK K
        refine norm_ (a' := ?_) ?_ ?_
        rotate_left
        · show Act.put _ (some 67) _ = _
          simp only [Act.put, List.setIfInBounds_toArray, List.set_cons_zero, List.set_cons_succ, i64_w, i32_w]
          rfl
        refine two_ (i := 8) (j := 9) (Ni := some 19) (Nj := some 20) (ms_ 12 9) #[true, true, true, true, true, true, true, true, false, true, false, false] rfl rfl rfl rfl (two_of HT_.out (by kernel_rfl)) (by decide) (by decide) (fun K hK => ?_) (fun K hK => ?_)
        · skip
          refine value_ (w1 := ?_) (v := ?_) (by rfl) rfl ?_ ?_
          rotate_left 2
          · go_simp
            constructor
            · rfl
            · rfl
          have K8 := Lib.hid (blk_new z2 (.cells #[.slice none 0 0, .slice none 0 0] 25))
          replace RV := Lib.hid (RV.out.below (below_new z2 (.cells #[.slice none 0 0, .slice none 0 0] 25)))
          replace CH := Lib.hid (CH.out.step (below_new z2 (.cells #[.slice none 0 0, .slice none 0 0] 25)))
          have S3 := sblk_lt K8.out
          replace V3 := Lib.hid (V3.out.below (below_new z2 (.cells #[.slice none 0 0, .slice none 0 0] 25)))
          replace V7 := Lib.hid (V7.out.below (below_new z2 (.cells #[.slice none 0 0, .slice none 0 0] 25)))
          generalize z2.alloc (.cells #[.slice none 0 0, .slice none 0 0] 25) = z3 at K8 V3 V7 RV CH S3 ⊢
          refine hK.out _ _ ⟨((box_cell BK5.out CH.out.tail.tail.tail.tail.head 0).trans rfl), ((box_cell BK5.out CH.out.tail.tail.tail.tail.head 1).trans rfl)⟩ (fun hHeld => ?_)
          clear hK K
          refine norm_ (a' := ?_) ?_ ?_
          rotate_left
          · show Act.put _ (some 19) _ = _
            simp only [Act.put, List.setIfInBounds_toArray, List.set_cons_zero, List.set_cons_succ, i64_w, i32_w]
            rfl
          refine one_ (i := 9) (N := some 20) (ms_ 12 10) rfl rfl (one_of HT_.out (by kernel_rfl)) (by decide) (fun K hK => ?_)
          refine value_ (w1 := ?_) (v := ?_) (by rfl) rfl ?_ ?_
          rotate_left 2
          · go_simp
            constructor
            · rfl
            · rfl
          have K9 := Lib.hid (blk_new z3 (.cells #[.slice none 0 0, .slice none 0 0] 25))
          replace RV := Lib.hid (RV.out.below (below_new z3 (.cells #[.slice none 0 0, .slice none 0 0] 25)))
          replace CH := Lib.hid (CH.out.step (below_new z3 (.cells #[.slice none 0 0, .slice none 0 0] 25)))
          have S4 := sblk_lt K9.out
          replace V3 := Lib.hid (V3.out.below (below_new z3 (.cells #[.slice none 0 0, .slice none 0 0] 25)))
          replace V7 := Lib.hid (V7.out.below (below_new z3 (.cells #[.slice none 0 0, .slice none 0 0] 25)))
          replace K8 := Lib.hid (blk_below K8.out (below_new z3 (.cells #[.slice none 0 0, .slice none 0 0] 25)))
          generalize z3.alloc (.cells #[.slice none 0 0, .slice none 0 0] 25) = z4 at K9 V3 V7 K8 RV CH S4 ⊢
          refine hK.out _ _ ⟨((box_cell BK5.out CH.out.tail.tail.tail.tail.head 0).trans rfl), ((box_cell BK5.out CH.out.tail.tail.tail.tail.head 1).trans rfl)⟩ (fun hHeld => ?_)
          clear hK K
          refine norm_ (a' := ?_) ?_ ?_
          rotate_left
          · show Act.put _ (some 20) _ = _
            simp only [Act.put, List.setIfInBounds_toArray, List.set_cons_zero, List.set_cons_succ, i64_w, i32_w]
            rfl
          exact norm_ (by simp only [putAll, Act.put, List.setIfInBounds_toArray, List.set_cons_zero, List.set_cons_succ]) (hCont ((A3, c3, B3, d3), (A7, c7, B7, d7), z2.heap.size, z3.heap.size) _ ⟨V3.out.wide (fun k hk => by dsimp only at hk ⊢; omega), V7.out.wide (fun k hk => by dsimp only at hk ⊢; omega), K8.out, K9.out, by (try dsimp only); omega, by (try dsimp only); omega, by (try dsimp only); omega, CH.out⟩)
        · skip
          refine value_ (w1 := ?_) (v := ?_) (by rfl) rfl ?_ ?_
          rotate_left 2
          · go_simp
            constructor
            · rfl
            · rfl
          have K9 := Lib.hid (blk_new z2 (.cells #[.slice none 0 0, .slice none 0 0] 25))
          replace RV := Lib.hid (RV.out.below (below_new z2 (.cells #[.slice none 0 0, .slice none 0 0] 25)))
          replace CH := Lib.hid (CH.out.step (below_new z2 (.cells #[.slice none 0 0, .slice none 0 0] 25)))
          have S3 := sblk_lt K9.out
          replace V3 := Lib.hid (V3.out.below (below_new z2 (.cells #[.slice none 0 0, .slice none 0 0] 25)))
          replace V7 := Lib.hid (V7.out.below (below_new z2 (.cells #[.slice none 0 0, .slice none 0 0] 25)))
          generalize z2.alloc (.cells #[.slice none 0 0, .slice none 0 0] 25) = z3 at K9 V3 V7 RV CH S3 ⊢
          refine hK.out _ _ ⟨((box_cell BK5.out CH.out.tail.tail.tail.tail.head 0).trans rfl), ((box_cell BK5.out CH.out.tail.tail.tail.tail.head 1).trans rfl)⟩ (fun hHeld => ?_)
          clear hK K
          refine norm_ (a' := ?_) ?_ ?_
          rotate_left
          · show Act.put _ (some 20) _ = _
            simp only [Act.put, List.setIfInBounds_toArray, List.set_cons_zero, List.set_cons_succ, i64_w, i32_w]
            rfl
          refine one_ (i := 8) (N := some 19) (ms_ 12 10) rfl rfl (one_of HT_.out (by kernel_rfl)) (by decide) (fun K hK => ?_)
          refine value_ (w1 := ?_) (v := ?_) (by rfl) rfl ?_ ?_
          rotate_left 2
          · go_simp
            constructor
            · rfl
            · rfl
          have K8 := Lib.hid (blk_new z3 (.cells #[.slice none 0 0, .slice none 0 0] 25))
          replace RV := Lib.hid (RV.out.below (below_new z3 (.cells #[.slice none 0 0, .slice none 0 0] 25)))
          replace CH := Lib.hid (CH.out.step (below_new z3 (.cells #[.slice none 0 0, .slice none 0 0] 25)))
          have S4 := sblk_lt K8.out
          replace V3 := Lib.hid (V3.out.below (below_new z3 (.cells #[.slice none 0 0, .slice none 0 0] 25)))
          replace V7 := Lib.hid (V7.out.below (below_new z3 (.cells #[.slice none 0 0, .slice none 0 0] 25)))
          replace K9 := Lib.hid (blk_below K9.out (below_new z3 (.cells #[.slice none 0 0, .slice none 0 0] 25)))
          generalize z3.alloc (.cells #[.slice none 0 0, .slice none 0 0] 25) = z4 at K8 V3 V7 K9 RV CH S4 ⊢
          refine hK.out _ _ ⟨((box_cell BK5.out CH.out.tail.tail.tail.tail.head 0).trans rfl), ((box_cell BK5.out CH.out.tail.tail.tail.tail.head 1).trans rfl)⟩ (fun hHeld => ?_)
          clear hK K
          refine norm_ (a' := ?_) ?_ ?_
          rotate_left
          · show Act.put _ (some 19) _ = _
            simp only [Act.put, List.setIfInBounds_toArray, List.set_cons_zero, List.set_cons_succ, i64_w, i32_w]
            rfl
          exact norm_ (by simp only [putAll, Act.put, List.setIfInBounds_toArray, List.set_cons_zero, List.set_cons_succ]) (hCont ((A3, c3, B3, d3), (A7, c7, B7, d7), z3.heap.size, z2.heap.size) _ ⟨V3.out.wide (fun k hk => by dsimp only at hk ⊢; omega), V7.out.wide (fun k hk => by dsimp only at hk ⊢; omega), K8.out, K9.out, by (try dsimp only); omega, by (try dsimp only); omega, by (try dsimp only); omega, CH.out⟩)
      · skip
        refine value_ (w1 := ?_) (v := ?_) (by rfl) rfl ?_ ?_
        rotate_left 2
        · go_simp
          constructor
          · rfl
          · rfl
        have K8 := Lib.hid (blk_new z1 (.cells #[.slice none 0 0, .slice none 0 0] 25))
        replace RV := Lib.hid (RV.out.below (below_new z1 (.cells #[.slice none 0 0, .slice none 0 0] 25)))
        replace CH := Lib.hid (CH.out.step (below_new z1 (.cells #[.slice none 0 0, .slice none 0 0] 25)))
        have S2 := sblk_lt K8.out
        replace V3 := Lib.hid (V3.out.below (below_new z1 (.cells #[.slice none 0 0, .slice none 0 0] 25)))
        generalize z1.alloc (.cells #[.slice none 0 0, .slice none 0 0] 25) = z2 at K8 V3 RV CH S2 ⊢
        refine hK.out _ _ ⟨((box_cell BK5.out CH.out.tail.tail.tail.tail.head 0).trans rfl), ((box_cell BK5.out CH.out.tail.tail.tail.tail.head 1).trans rfl)⟩ (fun hHeld => ?_)
        clear hK K
        refine norm_ (a' := ?_) ?_ ?_
        rotate_left
        · show Act.put _ (some 19) _ = _
          simp only [Act.put, List.setIfInBounds_toArray, List.set_cons_zero, List.set_cons_succ, i64_w, i32_w]
          rfl
        refine two_ (i := 7) (j := 9) (Ni := some 67) (Nj := some 20) (ms_ 12 9) #[true, true, true, true, true, true, true, false, true, true, false, false] rfl rfl rfl rfl (two_of HT_.out (by kernel_rfl)) (by decide) (by decide) (fun K hK => ?_) (fun K hK => ?_)
        · skip
          refine goes_ Try.func19 (by kernel_rfl) rfl #[.agg #[.slice A0_0 l0_0.length c0_0, .slice A0_1 l0_1.length c0_1], .int .u64 a1, .int .u64 a4] (by rfl) rfl rfl (by simp only [List.map_toArray, List.map_cons, List.map_nil]; rfl) ?_
          with_reducible refine (rClear_V RV.out (by have := HS.out; omega) Ec.out).mono ?_
          rintro e z3 ⟨A7, c7, B7, d7, rfl, hv, hb⟩
          refine ⟨_, rfl, ?_⟩
          have V7 := Lib.hid hv
          replace RV := Lib.hid (RV.out.below hb)
          replace CH := Lib.hid (CH.out.step hb)
          have S3 := hb.size
          replace V3 := Lib.hid (V3.out.below hb)
          replace K8 := Lib.hid (blk_below K8.out hb)
          clear hb hv
          refine hK.out _ _ ⟨((box_cell BK5.out CH.out.tail.tail.tail.tail.head 0).trans rfl), ((box_cell BK5.out CH.out.tail.tail.tail.tail.head 1).trans rfl)⟩ (fun hHeld => ?_)
          clear hK K
          refine norm_ (a' := ?_) ?_ ?_
          rotate_left
          · show Act.put _ (some 67) _ = _
            simp only [Act.put, List.setIfInBounds_toArray, List.set_cons_zero, List.set_cons_succ, i64_w, i32_w]
            rfl
          refine one_ (i := 9) (N := some 20) (ms_ 12 10) rfl rfl (one_of HT_.out (by kernel_rfl)) (by decide) (fun K hK => ?_)
          refine value_ (w1 := ?_) (v := ?_) (by rfl) rfl ?_ ?_
          rotate_left 2
          · go_simp
            constructor
            · rfl
            · rfl
          have K9 := Lib.hid (blk_new z3 (.cells #[.slice none 0 0, .slice none 0 0] 25))
          replace RV := Lib.hid (RV.out.below (below_new z3 (.cells #[.slice none 0 0, .slice none 0 0] 25)))
          replace CH := Lib.hid (CH.out.step (below_new z3 (.cells #[.slice none 0 0, .slice none 0 0] 25)))
          have S4 := sblk_lt K9.out
          replace V3 := Lib.hid (V3.out.below (below_new z3 (.cells #[.slice none 0 0, .slice none 0 0] 25)))
          replace K8 := Lib.hid (blk_below K8.out (below_new z3 (.cells #[.slice none 0 0, .slice none 0 0] 25)))
          replace V7 := Lib.hid (V7.out.below (below_new z3 (.cells #[.slice none 0 0, .slice none 0 0] 25)))
          generalize z3.alloc (.cells #[.slice none 0 0, .slice none 0 0] 25) = z4 at K9 V3 K8 V7 RV CH S4 ⊢
          refine hK.out _ _ ⟨((box_cell BK5.out CH.out.tail.tail.tail.tail.head 0).trans rfl), ((box_cell BK5.out CH.out.tail.tail.tail.tail.head 1).trans rfl)⟩ (fun hHeld => ?_)
          clear hK K
          refine norm_ (a' := ?_) ?_ ?_
          rotate_left
          · show Act.put _ (some 20) _ = _
            simp only [Act.put, List.setIfInBounds_toArray, List.set_cons_zero, List.set_cons_succ, i64_w, i32_w]
            rfl
          exact norm_ (by simp only [putAll, Act.put, List.setIfInBounds_toArray, List.set_cons_zero, List.set_cons_succ]) (hCont ((A3, c3, B3, d3), (A7, c7, B7, d7), z1.heap.size, z3.heap.size) _ ⟨V3.out.wide (fun k hk => by dsimp only at hk ⊢; omega), V7.out.wide (fun k hk => by dsimp only at hk ⊢; omega), K8.out, K9.out, by (try dsimp only); omega, by (try dsimp only); omega, by (try dsimp only); omega, CH.out⟩)
        · skip
          refine value_ (w1 := ?_) (v := ?_) (by rfl) rfl ?_ ?_
          rotate_left 2
          · go_simp
            constructor
            · rfl
            · rfl
          have K9 := Lib.hid (blk_new z2 (.cells #[.slice none 0 0, .slice none 0 0] 25))
          replace RV := Lib.hid (RV.out.below (below_new z2 (.cells #[.slice none 0 0, .slice none 0 0] 25)))
          replace CH := Lib.hid (CH.out.step (below_new z2 (.cells #[.slice none 0 0, .slice none 0 0] 25)))
          have S3 := sblk_lt K9.out
          replace V3 := Lib.hid (V3.out.below (below_new z2 (.cells #[.slice none 0 0, .slice none 0 0] 25)))
          replace K8 := Lib.hid (blk_below K8.out (below_new z2 (.cells #[.slice none 0 0, .slice none 0 0] 25)))
          generalize z2.alloc (.cells #[.slice none 0 0, .slice none 0 0] 25) = z3 at K9 V3 K8 RV CH S3 ⊢
          refine hK.out _ _ ⟨((box_cell BK5.out CH.out.tail.tail.tail.tail.head 0).trans rfl), ((box_cell BK5.out CH.out.tail.tail.tail.tail.head 1).trans rfl)⟩ (fun hHeld => ?_)
          clear hK K
          refine norm_ (a' := ?_) ?_ ?_
          rotate_left
          · show Act.put _ (some 20) _ = _
            simp only [Act.put, List.setIfInBounds_toArray, List.set_cons_zero, List.set_cons_succ, i64_w, i32_w]
            rfl
          refine one_ (i := 7) (N := some 67) (ms_ 12 10) rfl rfl (one_of HT_.out (by kernel_rfl)) (by decide) (fun K hK => ?_)
          refine goes_ Try.func19 (by kernel_rfl) rfl #[.agg #[.slice A0_0 l0_0.length c0_0, .slice A0_1 l0_1.length c0_1], .int .u64 a1, .int .u64 a4] (by rfl) rfl rfl (by simp only [List.map_toArray, List.map_cons, List.map_nil]; rfl) ?_
          with_reducible refine (rClear_V RV.out (by have := HS.out; omega) Ec.out).mono ?_
          rintro e z4 ⟨A7, c7, B7, d7, rfl, hv, hb⟩
          refine ⟨_, rfl, ?_⟩
          have V7 := Lib.hid hv
          replace RV := Lib.hid (RV.out.below hb)
          replace CH := Lib.hid (CH.out.step hb)
          have S4 := hb.size
          replace V3 := Lib.hid (V3.out.below hb)
          replace K8 := Lib.hid (blk_below K8.out hb)
          replace K9 := Lib.hid (blk_below K9.out hb)
          clear hb hv
          refine hK.out _ _ ⟨((box_cell BK5.out CH.out.tail.tail.tail.tail.head 0).trans rfl), ((box_cell BK5.out CH.out.tail.tail.tail.tail.head 1).trans rfl)⟩ (fun hHeld => ?_)
          clear hK K
          refine norm_ (a' := ?_) ?_ ?_
          rotate_left
          · show Act.put _ (some 67) _ = _
            simp only [Act.put, List.setIfInBounds_toArray, List.set_cons_zero, List.set_cons_succ, i64_w, i32_w]
            rfl
          exact norm_ (by simp only [putAll, Act.put, List.setIfInBounds_toArray, List.set_cons_zero, List.set_cons_succ]) (hCont ((A3, c3, B3, d3), (A7, c7, B7, d7), z1.heap.size, z2.heap.size) _ ⟨V3.out.wide (fun k hk => by dsimp only at hk ⊢; omega), V7.out.wide (fun k hk => by dsimp only at hk ⊢; omega), K8.out, K9.out, by (try dsimp only); omega, by (try dsimp only); omega, by (try dsimp only); omega, CH.out⟩)
      · skip
        refine value_ (w1 := ?_) (v := ?_) (by rfl) rfl ?_ ?_
        rotate_left 2
        · go_simp
          constructor
          · rfl
          · rfl
        have K9 := Lib.hid (blk_new z1 (.cells #[.slice none 0 0, .slice none 0 0] 25))
        replace RV := Lib.hid (RV.out.below (below_new z1 (.cells #[.slice none 0 0, .slice none 0 0] 25)))
        replace CH := Lib.hid (CH.out.step (below_new z1 (.cells #[.slice none 0 0, .slice none 0 0] 25)))
        have S2 := sblk_lt K9.out
        replace V3 := Lib.hid (V3.out.below (below_new z1 (.cells #[.slice none 0 0, .slice none 0 0] 25)))
        generalize z1.alloc (.cells #[.slice none 0 0, .slice none 0 0] 25) = z2 at K9 V3 RV CH S2 ⊢
        refine hK.out _ _ ⟨((box_cell BK5.out CH.out.tail.tail.tail.tail.head 0).trans rfl), ((box_cell BK5.out CH.out.tail.tail.tail.tail.head 1).trans rfl)⟩ (fun hHeld => ?_)
        clear hK K
        refine norm_ (a' := ?_) ?_ ?_
        rotate_left
        · show Act.put _ (some 20) _ = _
          simp only [Act.put, List.setIfInBounds_toArray, List.set_cons_zero, List.set_cons_succ, i64_w, i32_w]
          rfl
        refine two_ (i := 7) (j := 8) (Ni := some 67) (Nj := some 19) #[true, true, true, true, true, true, true, true, false, true, false, false] #[true, true, true, true, true, true, true, false, true, true, false, false] rfl rfl rfl rfl (two_of HT_.out (by kernel_rfl)) (by decide) (by decide) (fun K hK => ?_) (fun K hK => ?_)
        · skip
          refine goes_ Try.func19 (by kernel_rfl) rfl #[.agg #[.slice A0_0 l0_0.length c0_0, .slice A0_1 l0_1.length c0_1], .int .u64 a1, .int .u64 a4] (by rfl) rfl rfl (by simp only [List.map_toArray, List.map_cons, List.map_nil]; rfl) ?_
          with_reducible refine (rClear_V RV.out (by have := HS.out; omega) Ec.out).mono ?_
          rintro e z3 ⟨A7, c7, B7, d7, rfl, hv, hb⟩
          refine ⟨_, rfl, ?_⟩
          have V7 := Lib.hid hv
          replace RV := Lib.hid (RV.out.below hb)
          replace CH := Lib.hid (CH.out.step hb)
          have S3 := hb.size
          replace V3 := Lib.hid (V3.out.below hb)
          replace K9 := Lib.hid (blk_below K9.out hb)
          clear hb hv
          refine hK.out _ _ ⟨((box_cell BK5.out CH.out.tail.tail.tail.tail.head 0).trans rfl), ((box_cell BK5.out CH.out.tail.tail.tail.tail.head 1).trans rfl)⟩ (fun hHeld => ?_)
          clear hK K
          refine norm_ (a' := ?_) ?_ ?_
          rotate_left
          · show Act.put _ (some 67) _ = _
            simp only [Act.put, List.setIfInBounds_toArray, List.set_cons_zero, List.set_cons_succ, i64_w, i32_w]
            rfl
          refine one_ (i := 8) (N := some 19) (ms_ 12 10) rfl rfl (one_of HT_.out (by kernel_rfl)) (by decide) (fun K hK => ?_)
          refine value_ (w1 := ?_) (v := ?_) (by rfl) rfl ?_ ?_
          rotate_left 2
          · go_simp
            constructor
            · rfl
            · rfl
          have K8 := Lib.hid (blk_new z3 (.cells #[.slice none 0 0, .slice none 0 0] 25))
          replace RV := Lib.hid (RV.out.below (below_new z3 (.cells #[.slice none 0 0, .slice none 0 0] 25)))
          replace CH := Lib.hid (CH.out.step (below_new z3 (.cells #[.slice none 0 0, .slice none 0 0] 25)))
          have S4 := sblk_lt K8.out
          replace V3 := Lib.hid (V3.out.below (below_new z3 (.cells #[.slice none 0 0, .slice none 0 0] 25)))
          replace K9 := Lib.hid (blk_below K9.out (below_new z3 (.cells #[.slice none 0 0, .slice none 0 0] 25)))
          replace V7 := Lib.hid (V7.out.below (below_new z3 (.cells #[.slice none 0 0, .slice none 0 0] 25)))
          generalize z3.alloc (.cells #[.slice none 0 0, .slice none 0 0] 25) = z4 at K8 V3 K9 V7 RV CH S4 ⊢
          refine hK.out _ _ ⟨((box_cell BK5.out CH.out.tail.tail.tail.tail.head 0).trans rfl), ((box_cell BK5.out CH.out.tail.tail.tail.tail.head 1).trans rfl)⟩ (fun hHeld => ?_)
          clear hK K
          refine norm_ (a' := ?_) ?_ ?_
          rotate_left
          · show Act.put _ (some 19) _ = _
            simp only [Act.put, List.setIfInBounds_toArray, List.set_cons_zero, List.set_cons_succ, i64_w, i32_w]
            rfl
          exact norm_ (by simp only [putAll, Act.put, List.setIfInBounds_toArray, List.set_cons_zero, List.set_cons_succ]) (hCont ((A3, c3, B3, d3), (A7, c7, B7, d7), z3.heap.size, z1.heap.size) _ ⟨V3.out.wide (fun k hk => by dsimp only at hk ⊢; omega), V7.out.wide (fun k hk => by dsimp only at hk ⊢; omega), K8.out, K9.out, by (try dsimp only); omega, by (try dsimp only); omega, by (try dsimp only); omega, CH.out⟩)
        · skip
          refine value_ (w1 := ?_) (v := ?_) (by rfl) rfl ?_ ?_
          rotate_left 2
          · go_simp
            constructor
            · rfl
            · rfl
          have K8 := Lib.hid (blk_new z2 (.cells #[.slice none 0 0, .slice none 0 0] 25))
          replace RV := Lib.hid (RV.out.below (below_new z2 (.cells #[.slice none 0 0, .slice none 0 0] 25)))
          replace CH := Lib.hid (CH.out.step (below_new z2 (.cells #[.slice none 0 0, .slice none 0 0] 25)))
          have S3 := sblk_lt K8.out
          replace V3 := Lib.hid (V3.out.below (below_new z2 (.cells #[.slice none 0 0, .slice none 0 0] 25)))
          replace K9 := Lib.hid (blk_below K9.out (below_new z2 (.cells #[.slice none 0 0, .slice none 0 0] 25)))
          generalize z2.alloc (.cells #[.slice none 0 0, .slice none 0 0] 25) = z3 at K8 V3 K9 RV CH S3 ⊢
          refine hK.out _ _ ⟨((box_cell BK5.out CH.out.tail.tail.tail.tail.head 0).trans rfl), ((box_cell BK5.out CH.out.tail.tail.tail.tail.head 1).trans rfl)⟩ (fun hHeld => ?_)
          clear hK K
          refine norm_ (a' := ?_) ?_ ?_
          rotate_left
          · show Act.put _ (some 19) _ = _
            simp only [Act.put, List.setIfInBounds_toArray, List.set_cons_zero, List.set_cons_succ, i64_w, i32_w]
            rfl
          refine one_ (i := 7) (N := some 67) (ms_ 12 10) rfl rfl (one_of HT_.out (by kernel_rfl)) (by decide) (fun K hK => ?_)
          refine goes_ Try.func19 (by kernel_rfl) rfl #[.agg #[.slice A0_0 l0_0.length c0_0, .slice A0_1 l0_1.length c0_1], .int .u64 a1, .int .u64 a4] (by rfl) rfl rfl (by simp only [List.map_toArray, List.map_cons, List.map_nil]; rfl) ?_
          with_reducible refine (rClear_V RV.out (by have := HS.out; omega) Ec.out).mono ?_
          rintro e z4 ⟨A7, c7, B7, d7, rfl, hv, hb⟩
          refine ⟨_, rfl, ?_⟩
          have V7 := Lib.hid hv
          replace RV := Lib.hid (RV.out.below hb)
          replace CH := Lib.hid (CH.out.step hb)
          have S4 := hb.size
          replace V3 := Lib.hid (V3.out.below hb)
          replace K9 := Lib.hid (blk_below K9.out hb)
          replace K8 := Lib.hid (blk_below K8.out hb)
          clear hb hv
          refine hK.out _ _ ⟨((box_cell BK5.out CH.out.tail.tail.tail.tail.head 0).trans rfl), ((box_cell BK5.out CH.out.tail.tail.tail.tail.head 1).trans rfl)⟩ (fun hHeld => ?_)
          clear hK K
          refine norm_ (a' := ?_) ?_ ?_
          rotate_left
          · show Act.put _ (some 67) _ = _
            simp only [Act.put, List.setIfInBounds_toArray, List.set_cons_zero, List.set_cons_succ, i64_w, i32_w]
            rfl
          exact norm_ (by simp only [putAll, Act.put, List.setIfInBounds_toArray, List.set_cons_zero, List.set_cons_succ]) (hCont ((A3, c3, B3, d3), (A7, c7, B7, d7), z2.heap.size, z1.heap.size) _ ⟨V3.out.wide (fun k hk => by dsimp only at hk ⊢; omega), V7.out.wide (fun k hk => by dsimp only at hk ⊢; omega), K8.out, K9.out, by (try dsimp only); omega, by (try dsimp only); omega, by (try dsimp only); omega, CH.out⟩)
    · skip
      refine value_ (w1 := ?_) (v := ?_) (by rfl) rfl ?_ ?_
      rotate_left 2
      · go_simp
        constructor
        · rfl
        · rfl
      have K8 := Lib.hid (blk_new z0 (.cells #[.slice none 0 0, .slice none 0 0] 25))
      replace RV := Lib.hid (RV.out.below (below_new z0 (.cells #[.slice none 0 0, .slice none 0 0] 25)))
      replace CH := Lib.hid (CH.out.step (below_new z0 (.cells #[.slice none 0 0, .slice none 0 0] 25)))
      have S1 := sblk_lt K8.out
      generalize z0.alloc (.cells #[.slice none 0 0, .slice none 0 0] 25) = z1 at K8 RV CH S1 ⊢
      refine hK.out _ _ ⟨((box_cell BK5.out CH.out.tail.tail.tail.tail.head 0).trans rfl), ((box_cell BK5.out CH.out.tail.tail.tail.tail.head 1).trans rfl)⟩ (fun hHeld => ?_)
      clear hK K
      refine norm_ (a' := ?_) ?_ ?_
      rotate_left
      · show Act.put _ (some 19) _ = _
        simp only [Act.put, List.setIfInBounds_toArray, List.set_cons_zero, List.set_cons_succ, i64_w, i32_w]
        rfl
      refine two_ (i := 3) (j := 9) (Ni := some 63) (Nj := some 20) #[true, true, true, true, true, true, true, false, true, false, false, false] #[true, true, true, false, true, true, true, false, true, true, false, false] rfl rfl rfl rfl (two_of HT_.out (by kernel_rfl)) (by decide) (by decide) (fun K hK => ?_) (fun K hK => ?_)
      · skip
        refine goes_ Try.func18 (by kernel_rfl) rfl #[.agg #[.slice A0_0 l0_0.length c0_0, .slice A0_1 l0_1.length c0_1], .int .u64 a1, .int .u64 a4] (by rfl) rfl rfl (by simp only [List.map_toArray, List.map_cons, List.map_nil]; rfl) ?_
        with_reducible refine (hClear_V RV.out (by have := HS.out; omega) Ec.out).mono ?_
        rintro e z2 ⟨A3, c3, B3, d3, rfl, hv, hb⟩
        refine ⟨_, rfl, ?_⟩
        have V3 := Lib.hid hv
        replace RV := Lib.hid (RV.out.below hb)
        replace CH := Lib.hid (CH.out.step hb)
        have S2 := hb.size
        replace K8 := Lib.hid (blk_below K8.out hb)
        clear hb hv
        refine hK.out _ _ ⟨((box_cell BK5.out CH.out.tail.tail.tail.tail.head 0).trans rfl), ((box_cell BK5.out CH.out.tail.tail.tail.tail.head 1).trans rfl)⟩ (fun hHeld => ?_)
        clear hK K
        refine norm_ (a' := ?_) ?_ ?_
        rotate_left
        · show Act.put _ (some 63) _ = _
          simp only [Act.put, List.setIfInBounds_toArray, List.set_cons_zero, List.set_cons_succ, i64_w, i32_w]
          rfl
        refine two_ (i := 7) (j := 9) (Ni := some 67) (Nj := some 20) (ms_ 12 9) #[true, true, true, true, true, true, true, false, true, true, false, false] rfl rfl rfl rfl (two_of HT_.out (by kernel_rfl)) (by decide) (by decide) (fun K hK => ?_) (fun K hK => ?_)
        · skip
          refine goes_ Try.func19 (by kernel_rfl) rfl #[.agg #[.slice A0_0 l0_0.length c0_0, .slice A0_1 l0_1.length c0_1], .int .u64 a1, .int .u64 a4] (by rfl) rfl rfl (by simp only [List.map_toArray, List.map_cons, List.map_nil]; rfl) ?_
          with_reducible refine (rClear_V RV.out (by have := HS.out; omega) Ec.out).mono ?_
          rintro e z3 ⟨A7, c7, B7, d7, rfl, hv, hb⟩
          refine ⟨_, rfl, ?_⟩
          have V7 := Lib.hid hv
          replace RV := Lib.hid (RV.out.below hb)
          replace CH := Lib.hid (CH.out.step hb)
          have S3 := hb.size
          replace K8 := Lib.hid (blk_below K8.out hb)
          replace V3 := Lib.hid (V3.out.below hb)
          clear hb hv
          refine hK.out _ _ ⟨((box_cell BK5.out CH.out.tail.tail.tail.tail.head 0).trans rfl), ((box_cell BK5.out CH.out.tail.tail.tail.tail.head 1).trans rfl)⟩ (fun hHeld => ?_)
          clear hK K
          refine norm_ (a' := ?_) ?_ ?_
          rotate_left
          · show Act.put _ (some 67) _ = _
            simp only [Act.put, List.setIfInBounds_toArray, List.set_cons_zero, List.set_cons_succ, i64_w, i32_w]
            rfl
          refine one_ (i := 9) (N := some 20) (ms_ 12 10) rfl rfl (one_of HT_.out (by kernel_rfl)) (by decide) (fun K hK => ?_)
          refine value_ (w1 := ?_) (v := ?_) (by rfl) rfl ?_ ?_
          rotate_left 2
          · go_simp
            constructor
            · rfl
            · rfl
          have K9 := Lib.hid (blk_new z3 (.cells #[.slice none 0 0, .slice none 0 0] 25))
          replace RV := Lib.hid (RV.out.below (below_new z3 (.cells #[.slice none 0 0, .slice none 0 0] 25)))
          replace CH := Lib.hid (CH.out.step (below_new z3 (.cells #[.slice none 0 0, .slice none 0 0] 25)))
          have S4 := sblk_lt K9.out
          replace K8 := Lib.hid (blk_below K8.out (below_new z3 (.cells #[.slice none 0 0, .slice none 0 0] 25)))
          replace V3 := Lib.hid (V3.out.below (below_new z3 (.cells #[.slice none 0 0, .slice none 0 0] 25)))
          replace V7 := Lib.hid (V7.out.below (below_new z3 (.cells #[.slice none 0 0, .slice none 0 0] 25)))
          generalize z3.alloc (.cells #[.slice none 0 0, .slice none 0 0] 25) = z4 at K9 K8 V3 V7 RV CH S4 ⊢
          refine hK.out _ _ ⟨((box_cell BK5.out CH.out.tail.tail.tail.tail.head 0).trans rfl), ((box_cell BK5.out CH.out.tail.tail.tail.tail.head 1).trans rfl)⟩ (fun hHeld => ?_)
          clear hK K
          refine norm_ (a' := ?_) ?_ ?_
          rotate_left
          · show Act.put _ (some 20) _ = _
            simp only [Act.put, List.setIfInBounds_toArray, List.set_cons_zero, List.set_cons_succ, i64_w, i32_w]
            rfl
          exact norm_ (by simp only [putAll, Act.put, List.setIfInBounds_toArray, List.set_cons_zero, List.set_cons_succ]) (hCont ((A3, c3, B3, d3), (A7, c7, B7, d7), z0.heap.size, z3.heap.size) _ ⟨V3.out.wide (fun k hk => by dsimp only at hk ⊢; omega), V7.out.wide (fun k hk => by dsimp only at hk ⊢; omega), K8.out, K9.out, by (try dsimp only); omega, by (try dsimp only); omega, by (try dsimp only); omega, CH.out⟩)
        · skip
          refine value_ (w1 := ?_) (v := ?_) (by rfl) rfl ?_ ?_
          rotate_left 2
          · go_simp
            constructor
            · rfl
            · rfl
          have K9 := Lib.hid (blk_new z2 (.cells #[.slice none 0 0, .slice none 0 0] 25))
          replace RV := Lib.hid (RV.out.below (below_new z2 (.cells #[.slice none 0 0, .slice none 0 0] 25)))
          replace CH := Lib.hid (CH.out.step (below_new z2 (.cells #[.slice none 0 0, .slice none 0 0] 25)))
          have S3 := sblk_lt K9.out
          replace K8 := Lib.hid (blk_below K8.out (below_new z2 (.cells #[.slice none 0 0, .slice none 0 0] 25)))
          replace V3 := Lib.hid (V3.out.below (below_new z2 (.cells #[.slice none 0 0, .slice none 0 0] 25)))
          generalize z2.alloc (.cells #[.slice none 0 0, .slice none 0 0] 25) = z3 at K9 K8 V3 RV CH S3 ⊢
          refine hK.out _ _ ⟨((box_cell BK5.out CH.out.tail.tail.tail.tail.head 0).trans rfl), ((box_cell BK5.out CH.out.tail.tail.tail.tail.head 1).trans rfl)⟩ (fun hHeld => ?_)
          clear hK K
          refine norm_ (a' := ?_) ?_ ?_
          rotate_left
          · show Act.put _ (some 20) _ = _
            simp only [Act.put, List.setIfInBounds_toArray, List.set_cons_zero, List.set_cons_succ, i64_w, i32_w]
            rfl
          refine one_ (i := 7) (N := some 67) (ms_ 12 10) rfl rfl (one_of HT_.out (by kernel_rfl)) (by decide) (fun K hK => ?_)
          refine goes_ Try.func19 (by kernel_rfl) rfl #[.agg #[.slice A0_0 l0_0.length c0_0, .slice A0_1 l0_1.length c0_1], .int .u64 a1, .int .u64 a4] (by rfl) rfl rfl (by simp only [List.map_toArray, List.map_cons, List.map_nil]; rfl) ?_
          with_reducible refine (rClear_V RV.out (by have := HS.out; omega) Ec.out).mono ?_
          rintro e z4 ⟨A7, c7, B7, d7, rfl, hv, hb⟩
          refine ⟨_, rfl, ?_⟩
          have V7 := Lib.hid hv
          replace RV := Lib.hid (RV.out.below hb)
          replace CH := Lib.hid (CH.out.step hb)
          have S4 := hb.size
          replace K8 := Lib.hid (blk_below K8.out hb)
          replace V3 := Lib.hid (V3.out.below hb)
          replace K9 := Lib.hid (blk_below K9.out hb)
          clear hb hv
          refine hK.out _ _ ⟨((box_cell BK5.out CH.out.tail.tail.tail.tail.head 0).trans rfl), ((box_cell BK5.out CH.out.tail.tail.tail.tail.head 1).trans rfl)⟩ (fun hHeld => ?_)
          clear hK K
          refine norm_ (a' := ?_) ?_ ?_
          rotate_left
          · show Act.put _ (some 67) _ = _
            simp only [Act.put, List.setIfInBounds_toArray, List.set_cons_zero, List.set_cons_succ, i64_w, i32_w]
            rfl
          exact norm_ (by simp only [putAll, Act.put, List.setIfInBounds_toArray, List.set_cons_zero, List.set_cons_succ]) (hCont ((A3, c3, B3, d3), (A7, c7, B7, d7), z0.heap.size, z2.heap.size) _ ⟨V3.out.wide (fun k hk => by dsimp only at hk ⊢; omega), V7.out.wide (fun k hk => by dsimp only at hk ⊢; omega), K8.out, K9.out, by (try dsimp only); omega, by (try dsimp only); omega, by (try dsimp only); omega, CH.out⟩)
      · skip
        refine value_ (w1 := ?_) (v := ?_) (by rfl) rfl ?_ ?_
        rotate_left 2
        · go_simp
          constructor
          · rfl
          · rfl
        have K9 := Lib.hid (blk_new z1 (.cells #[.slice none 0 0, .slice none 0 0] 25))
        replace RV := Lib.hid (RV.out.below (below_new z1 (.cells #[.slice none 0 0, .slice none 0 0] 25)))
        replace CH := Lib.hid (CH.out.step (below_new z1 (.cells #[.slice none 0 0, .slice none 0 0] 25)))
        have S2 := sblk_lt K9.out
        replace K8 := Lib.hid (blk_below K8.out (below_new z1 (.cells #[.slice none 0 0, .slice none 0 0] 25)))
        generalize z1.alloc (.cells #[.slice none 0 0, .slice none 0 0] 25) = z2 at K9 K8 RV CH S2 ⊢
        refine hK.out _ _ ⟨((box_cell BK5.out CH.out.tail.tail.tail.tail.head 0).trans rfl), ((box_cell BK5.out CH.out.tail.tail.tail.tail.head 1).trans rfl)⟩ (fun hHeld => ?_)
        clear hK K
        refine norm_ (a' := ?_) ?_ ?_
        rotate_left
        · show Act.put _ (some 20) _ = _
          simp only [Act.put, List.setIfInBounds_toArray, List.set_cons_zero, List.set_cons_succ, i64_w, i32_w]
          rfl
        refine one_ (i := 3) (N := some 63) #[true, true, true, true, true, true, true, false, true, true, false, false] rfl rfl (one_of HT_.out (by kernel_rfl)) (by decide) (fun K hK => ?_)
        refine goes_ Try.func18 (by kernel_rfl) rfl #[.agg #[.slice A0_0 l0_0.length c0_0, .slice A0_1 l0_1.length c0_1], .int .u64 a1, .int .u64 a4] (by rfl) rfl rfl (by simp only [List.map_toArray, List.map_cons, List.map_nil]; rfl) ?_
        with_reducible refine (hClear_V RV.out (by have := HS.out; omega) Ec.out).mono ?_
        rintro e z3 ⟨A3, c3, B3, d3, rfl, hv, hb⟩
        refine ⟨_, rfl, ?_⟩
        have V3 := Lib.hid hv
        replace RV := Lib.hid (RV.out.below hb)
        replace CH := Lib.hid (CH.out.step hb)
        have S3 := hb.size
        replace K8 := Lib.hid (blk_below K8.out hb)
        replace K9 := Lib.hid (blk_below K9.out hb)
        clear hb hv
        refine hK.out _ _ ⟨((box_cell BK5.out CH.out.tail.tail.tail.tail.head 0).trans rfl), ((box_cell BK5.out CH.out.tail.tail.tail.tail.head 1).trans rfl)⟩ (fun hHeld => ?_)
        clear hK K
        refine norm_ (a' := ?_) ?_ ?_
        rotate_left
        · show Act.put _ (some 63) _ = _
          simp only [Act.put, List.setIfInBounds_toArray, List.set_cons_zero, List.set_cons_succ, i64_w, i32_w]
          rfl
        refine one_ (i := 7) (N := some 67) (ms_ 12 10) rfl rfl (one_of HT_.out (by kernel_rfl)) (by decide) (fun K hK => ?_)
        refine goes_ Try.func19 (by kernel_rfl) rfl #[.agg #[.slice A0_0 l0_0.length c0_0, .slice A0_1 l0_1.length c0_1], .int .u64 a1, .int .u64 a4] (by rfl) rfl rfl (by simp only [List.map_toArray, List.map_cons, List.map_nil]; rfl) ?_
        with_reducible refine (rClear_V RV.out (by have := HS.out; omega) Ec.out).mono ?_
        rintro e z4 ⟨A7, c7, B7, d7, rfl, hv, hb⟩
        refine ⟨_, rfl, ?_⟩
        have V7 := Lib.hid hv
        replace RV := Lib.hid (RV.out.below hb)
        replace CH := Lib.hid (CH.out.step hb)
        have S4 := hb.size
        replace K8 := Lib.hid (blk_below K8.out hb)
        replace K9 := Lib.hid (blk_below K9.out hb)
        replace V3 := Lib.hid (V3.out.below hb)
        clear hb hv
        refine hK.out _ _ ⟨((box_cell BK5.out CH.out.tail.tail.tail.tail.head 0).trans rfl), ((box_cell BK5.out CH.out.tail.tail.tail.tail.head 1).trans rfl)⟩ (fun hHeld => ?_)
        clear hK K
        refine norm_ (a' := ?_) ?_ ?_
        rotate_left
        · show Act.put _ (some 67) _ = _
          simp only [Act.put, List.setIfInBounds_toArray, List.set_cons_zero, List.set_cons_succ, i64_w, i32_w]
          rfl
        exact norm_ (by simp only [putAll, Act.put, List.setIfInBounds_toArray, List.set_cons_zero, List.set_cons_succ]) (hCont ((A3, c3, B3, d3), (A7, c7, B7, d7), z0.heap.size, z1.heap.size) _ ⟨V3.out.wide (fun k hk => by dsimp only at hk ⊢; omega), V7.out.wide (fun k hk => by dsimp only at hk ⊢; omega), K8.out, K9.out, by (try dsimp only); omega, by (try dsimp only); omega, by (try dsimp only); omega, CH.out⟩)
    · skip
      refine value_ (w1 := ?_) (v := ?_) (by rfl) rfl ?_ ?_
      rotate_left 2
      · go_simp
        constructor
        · rfl
        · rfl
      have K9 := Lib.hid (blk_new z0 (.cells #[.slice none 0 0, .slice none 0 0] 25))
      replace RV := Lib.hid (RV.out.below (below_new z0 (.cells #[.slice none 0 0, .slice none 0 0] 25)))
      replace CH := Lib.hid (CH.out.step (below_new z0 (.cells #[.slice none 0 0, .slice none 0 0] 25)))
      have S1 := sblk_lt K9.out
      generalize z0.alloc (.cells #[.slice none 0 0, .slice none 0 0] 25) = z1 at K9 RV CH S1 ⊢
      refine hK.out _ _ ⟨((box_cell BK5.out CH.out.tail.tail.tail.tail.head 0).trans rfl), ((box_cell BK5.out CH.out.tail.tail.tail.tail.head 1).trans rfl)⟩ (fun hHeld => ?_)
      clear hK K
      refine norm_ (a' := ?_) ?_ ?_
      rotate_left
      · show Act.put _ (some 20) _ = _
        simp only [Act.put, List.setIfInBounds_toArray, List.set_cons_zero, List.set_cons_succ, i64_w, i32_w]
        rfl
      refine two_ (i := 3) (j := 8) (Ni := some 63) (Nj := some 19) #[true, true, true, true, true, true, true, false, false, true, false, false] #[true, true, true, false, true, true, true, false, true, true, false, false] rfl rfl rfl rfl (two_of HT_.out (by kernel_rfl)) (by decide) (by decide) (fun K hK => ?_) (fun K hK => ?_)
      · skip
        refine goes_ Try.func18 (by kernel_rfl) rfl #[.agg #[.slice A0_0 l0_0.length c0_0, .slice A0_1 l0_1.length c0_1], .int .u64 a1, .int .u64 a4] (by rfl) rfl rfl (by simp only [List.map_toArray, List.map_cons, List.map_nil]; rfl) ?_
        with_reducible refine (hClear_V RV.out (by have := HS.out; omega) Ec.out).mono ?_
        rintro e z2 ⟨A3, c3, B3, d3, rfl, hv, hb⟩
        refine ⟨_, rfl, ?_⟩
        have V3 := Lib.hid hv
        replace RV := Lib.hid (RV.out.below hb)
        replace CH := Lib.hid (CH.out.step hb)
        have S2 := hb.size
        replace K9 := Lib.hid (blk_below K9.out hb)
        clear hb hv
        refine hK.out _ _ ⟨((box_cell BK5.out CH.out.tail.tail.tail.tail.head 0).trans rfl), ((box_cell BK5.out CH.out.tail.tail.tail.tail.head 1).trans rfl)⟩ (fun hHeld => ?_)
        clear hK K
        refine norm_ (a' := ?_) ?_ ?_
        rotate_left
        · show Act.put _ (some 63) _ = _
          simp only [Act.put, List.setIfInBounds_toArray, List.set_cons_zero, List.set_cons_succ, i64_w, i32_w]
          rfl
        refine two_ (i := 7) (j := 8) (Ni := some 67) (Nj := some 19) #[true, true, true, true, true, true, true, true, false, true, false, false] #[true, true, true, true, true, true, true, false, true, true, false, false] rfl rfl rfl rfl (two_of HT_.out (by kernel_rfl)) (by decide) (by decide) (fun K hK => ?_) (fun K hK => ?_)
        · skip
          refine goes_ Try.func19 (by kernel_rfl) rfl #[.agg #[.slice A0_0 l0_0.length c0_0, .slice A0_1 l0_1.length c0_1], .int .u64 a1, .int .u64 a4] (by rfl) rfl rfl (by simp only [List.map_toArray, List.map_cons, List.map_nil]; rfl) ?_
          with_reducible refine (rClear_V RV.out (by have := HS.out; omega) Ec.out).mono ?_
          rintro e z3 ⟨A7, c7, B7, d7, rfl, hv, hb⟩
          refine ⟨_, rfl, ?_⟩
          have V7 := Lib.hid hv
          replace RV := Lib.hid (RV.out.below hb)
          replace CH := Lib.hid (CH.out.step hb)
          have S3 := hb.size
          replace K9 := Lib.hid (blk_below K9.out hb)
          replace V3 := Lib.hid (V3.out.below hb)
          clear hb hv
          refine hK.out _ _ ⟨((box_cell BK5.out CH.out.tail.tail.tail.tail.head 0).trans rfl), ((box_cell BK5.out CH.out.tail.tail.tail.tail.head 1).trans rfl)⟩ (fun hHeld => ?_)
          clear hK K
          refine norm_ (a' := ?_) ?_ ?_
          rotate_left
          · show Act.put _ (some 67) _ = _
            simp only [Act.put, List.setIfInBounds_toArray, List.set_cons_zero, List.set_cons_succ, i64_w, i32_w]
            rfl
          refine one_ (i := 8) (N := some 19) (ms_ 12 10) rfl rfl (one_of HT_.out (by kernel_rfl)) (by decide) (fun K hK => ?_)
          refine value_ (w1 := ?_) (v := ?_) (by rfl) rfl ?_ ?_
          rotate_left 2
          · go_simp
            constructor
            · rfl
            · rfl
          have K8 := Lib.hid (blk_new z3 (.cells #[.slice none 0 0, .slice none 0 0] 25))
          replace RV := Lib.hid (RV.out.below (below_new z3 (.cells #[.slice none 0 0, .slice none 0 0] 25)))
          replace CH := Lib.hid (CH.out.step (below_new z3 (.cells #[.slice none 0 0, .slice none 0 0] 25)))
          have S4 := sblk_lt K8.out
          replace K9 := Lib.hid (blk_below K9.out (below_new z3 (.cells #[.slice none 0 0, .slice none 0 0] 25)))
          replace V3 := Lib.hid (V3.out.below (below_new z3 (.cells #[.slice none 0 0, .slice none 0 0] 25)))
          replace V7 := Lib.hid (V7.out.below (below_new z3 (.cells #[.slice none 0 0, .slice none 0 0] 25)))
          generalize z3.alloc (.cells #[.slice none 0 0, .slice none 0 0] 25) = z4 at K8 K9 V3 V7 RV CH S4 ⊢
          refine hK.out _ _ ⟨((box_cell BK5.out CH.out.tail.tail.tail.tail.head 0).trans rfl), ((box_cell BK5.out CH.out.tail.tail.tail.tail.head 1).trans rfl)⟩ (fun hHeld => ?_)
          clear hK K
          refine norm_ (a' := ?_) ?_ ?_
          rotate_left
          · show Act.put _ (some 19) _ = _
            simp only [Act.put, List.setIfInBounds_toArray, List.set_cons_zero, List.set_cons_succ, i64_w, i32_w]
            rfl
          exact norm_ (by simp only [putAll, Act.put, List.setIfInBounds_toArray, List.set_cons_zero, List.set_cons_succ]) (hCont ((A3, c3, B3, d3), (A7, c7, B7, d7), z3.heap.size, z0.heap.size) _ ⟨V3.out.wide (fun k hk => by dsimp only at hk ⊢; omega), V7.out.wide (fun k hk => by dsimp only at hk ⊢; omega), K8.out, K9.out, by (try dsimp only); omega, by (try dsimp only); omega, by (try dsimp only); omega, CH.out⟩)
        · skip
          refine value_ (w1 := ?_) (v := ?_) (by rfl) rfl ?_ ?_
          rotate_left 2
          · go_simp
            constructor
            · rfl
            · rfl
          have K8 := Lib.hid (blk_new z2 (.cells #[.slice none 0 0, .slice none 0 0] 25))
          replace RV := Lib.hid (RV.out.below (below_new z2 (.cells #[.slice none 0 0, .slice none 0 0] 25)))
          replace CH := Lib.hid (CH.out.step (below_new z2 (.cells #[.slice none 0 0, .slice none 0 0] 25)))
          have S3 := sblk_lt K8.out
          replace K9 := Lib.hid (blk_below K9.out (below_new z2 (.cells #[.slice none 0 0, .slice none 0 0] 25)))
          replace V3 := Lib.hid (V3.out.below (below_new z2 (.cells #[.slice none 0 0, .slice none 0 0] 25)))
          generalize z2.alloc (.cells #[.slice none 0 0, .slice none 0 0] 25) = z3 at K8 K9 V3 RV CH S3 ⊢
          refine hK.out _ _ ⟨((box_cell BK5.out CH.out.tail.tail.tail.tail.head 0).trans rfl), ((box_cell BK5.out CH.out.tail.tail.tail.tail.head 1).trans rfl)⟩ (fun hHeld => ?_)
          clear hK K
          refine norm_ (a' := ?_) ?_ ?_
          rotate_left
          · show Act.put _ (some 19) _ = _
            simp only [Act.put, List.setIfInBounds_toArray, List.set_cons_zero, List.set_cons_succ, i64_w, i32_w]
            rfl
          refine one_ (i := 7) (N := some 67) (ms_ 12 10) rfl rfl (one_of HT_.out (by kernel_rfl)) (by decide) (fun K hK => ?_)
          refine goes_ Try.func19 (by kernel_rfl) rfl #[.agg #[.slice A0_0 l0_0.length c0_0, .slice A0_1 l0_1.length c0_1], .int .u64 a1, .int .u64 a4] (by rfl) rfl rfl (by simp only [List.map_toArray, List.map_cons, List.map_nil]; rfl) ?_
          with_reducible refine (rClear_V RV.out (by have := HS.out; omega) Ec.out).mono ?_
          rintro e z4 ⟨A7, c7, B7, d7, rfl, hv, hb⟩
          refine ⟨_, rfl, ?_⟩
          have V7 := Lib.hid hv
          replace RV := Lib.hid (RV.out.below hb)
          replace CH := Lib.hid (CH.out.step hb)
          have S4 := hb.size
          replace K9 := Lib.hid (blk_below K9.out hb)
          replace V3 := Lib.hid (V3.out.below hb)
          replace K8 := Lib.hid (blk_below K8.out hb)
          clear hb hv
          refine hK.out _ _ ⟨((box_cell BK5.out CH.out.tail.tail.tail.tail.head 0).trans rfl), ((box_cell BK5.out CH.out.tail.tail.tail.tail.head 1).trans rfl)⟩ (fun hHeld => ?_)
          clear hK K
          refine norm_ (a' := ?_) ?_ ?_
          rotate_left
          · show Act.put _ (some 67) _ = _
            simp only [Act.put, List.setIfInBounds_toArray, List.set_cons_zero, List.set_cons_succ, i64_w, i32_w]
            rfl
          exact norm_ (by simp only [putAll, Act.put, List.setIfInBounds_toArray, List.set_cons_zero, List.set_cons_succ]) (hCont ((A3, c3, B3, d3), (A7, c7, B7, d7), z2.heap.size, z0.heap.size) _ ⟨V3.out.wide (fun k hk => by dsimp only at hk ⊢; omega), V7.out.wide (fun k hk => by dsimp only at hk ⊢; omega), K8.out, K9.out, by (try dsimp only); omega, by (try dsimp only); omega, by (try dsimp only); omega, CH.out⟩)
      · skip
        refine value_ (w1 := ?_) (v := ?_) (by rfl) rfl ?_ ?_
        rotate_left 2
        · go_simp
          constructor
          · rfl
          · rfl
        have K8 := Lib.hid (blk_new z1 (.cells #[.slice none 0 0, .slice none 0 0] 25))
        replace RV := Lib.hid (RV.out.below (below_new z1 (.cells #[.slice none 0 0, .slice none 0 0] 25)))
        replace CH := Lib.hid (CH.out.step (below_new z1 (.cells #[.slice none 0 0, .slice none 0 0] 25)))
        have S2 := sblk_lt K8.out
        replace K9 := Lib.hid (blk_below K9.out (below_new z1 (.cells #[.slice none 0 0, .slice none 0 0] 25)))
        generalize z1.alloc (.cells #[.slice none 0 0, .slice none 0 0] 25) = z2 at K8 K9 RV CH S2 ⊢
        refine hK.out _ _ ⟨((box_cell BK5.out CH.out.tail.tail.tail.tail.head 0).trans rfl), ((box_cell BK5.out CH.out.tail.tail.tail.tail.head 1).trans rfl)⟩ (fun hHeld => ?_)
        clear hK K
        refine norm_ (a' := ?_) ?_ ?_
        rotate_left
        · show Act.put _ (some 19) _ = _
          simp only [Act.put, List.setIfInBounds_toArray, List.set_cons_zero, List.set_cons_succ, i64_w, i32_w]
          rfl
        refine one_ (i := 3) (N := some 63) #[true, true, true, true, true, true, true, false, true, true, false, false] rfl rfl (one_of HT_.out (by kernel_rfl)) (by decide) (fun K hK => ?_)
        refine goes_ Try.func18 (by kernel_rfl) rfl #[.agg #[.slice A0_0 l0_0.length c0_0, .slice A0_1 l0_1.length c0_1], .int .u64 a1, .int .u64 a4] (by rfl) rfl rfl (by simp only [List.map_toArray, List.map_cons, List.map_nil]; rfl) ?_
        with_reducible refine (hClear_V RV.out (by have := HS.out; omega) Ec.out).mono ?_
        rintro e z3 ⟨A3, c3, B3, d3, rfl, hv, hb⟩
        refine ⟨_, rfl, ?_⟩
        have V3 := Lib.hid hv
        replace RV := Lib.hid (RV.out.below hb)
        replace CH := Lib.hid (CH.out.step hb)
        have S3 := hb.size
        replace K9 := Lib.hid (blk_below K9.out hb)
        replace K8 := Lib.hid (blk_below K8.out hb)
        clear hb hv
        refine hK.out _ _ ⟨((box_cell BK5.out CH.out.tail.tail.tail.tail.head 0).trans rfl), ((box_cell BK5.out CH.out.tail.tail.tail.tail.head 1).trans rfl)⟩ (fun hHeld => ?_)
        clear hK K
        refine norm_ (a' := ?_) ?_ ?_
        rotate_left
        · show Act.put _ (some 63) _ = _
          simp only [Act.put, List.setIfInBounds_toArray, List.set_cons_zero, List.set_cons_succ, i64_w, i32_w]
          rfl
        refine one_ (i := 7) (N := some 67) (ms_ 12 10) rfl rfl (one_of HT_.out (by kernel_rfl)) (by decide) (fun K hK => ?_)
        refine goes_ Try.func19 (by kernel_rfl) rfl #[.agg #[.slice A0_0 l0_0.length c0_0, .slice A0_1 l0_1.length c0_1], .int .u64 a1, .int .u64 a4] (by rfl) rfl rfl (by simp only [List.map_toArray, List.map_cons, List.map_nil]; rfl) ?_
        with_reducible refine (rClear_V RV.out (by have := HS.out; omega) Ec.out).mono ?_
        rintro e z4 ⟨A7, c7, B7, d7, rfl, hv, hb⟩
        refine ⟨_, rfl, ?_⟩
        have V7 := Lib.hid hv
        replace RV := Lib.hid (RV.out.below hb)
        replace CH := Lib.hid (CH.out.step hb)
        have S4 := hb.size
        replace K9 := Lib.hid (blk_below K9.out hb)
        replace K8 := Lib.hid (blk_below K8.out hb)
        replace V3 := Lib.hid (V3.out.below hb)
        clear hb hv
        refine hK.out _ _ ⟨((box_cell BK5.out CH.out.tail.tail.tail.tail.head 0).trans rfl), ((box_cell BK5.out CH.out.tail.tail.tail.tail.head 1).trans rfl)⟩ (fun hHeld => ?_)
        clear hK K
        refine norm_ (a' := ?_) ?_ ?_
        rotate_left
        · show Act.put _ (some 67) _ = _
          simp only [Act.put, List.setIfInBounds_toArray, List.set_cons_zero, List.set_cons_succ, i64_w, i32_w]
          rfl
        exact norm_ (by simp only [putAll, Act.put, List.setIfInBounds_toArray, List.set_cons_zero, List.set_cons_succ]) (hCont ((A3, c3, B3, d3), (A7, c7, B7, d7), z1.heap.size, z0.heap.size) _ ⟨V3.out.wide (fun k hk => by dsimp only at hk ⊢; omega), V7.out.wide (fun k hk => by dsimp only at hk ⊢; omega), K8.out, K9.out, by (try dsimp only); omega, by (try dsimp only); omega, by (try dsimp only); omega, CH.out⟩)
  rintro ⟨⟨A3, c3, B3, d3⟩, ⟨A7, c7, B7, d7⟩, b19, b20⟩ wz ⟨v3, v7, k19, k20, hne, hb19, hb20, hch⟩
  dsimp only at v3 v7 k19 k20 hne hb19 hb20
  have V3 := Lib.hid v3
  have V7 := Lib.hid v7
  replace CH := Lib.hid hch
  clear RV v3 v7 hch
  have hHeld : wz.cell? ⟨w.heap.size, 0, none⟩ = some (.slice A0_0 l0_0.length c0_0) ∧ wz.cell? ⟨w.heap.size, 1, none⟩ = some (.slice A0_1 l0_1.length c0_1) := ⟨((box_cell BK5.out CH.out.tail.tail.tail.tail.head 0).trans rfl), ((box_cell BK5.out CH.out.tail.tail.tail.tail.head 1).trans rfl)⟩
  have q19_0 := (sblk_cell k19 0).trans rfl
  have q19_1 := (sblk_cell k19 1).trans rfl
  have f19_0 := blk_frozen k19 0
  have f19_1 := blk_frozen k19 1
  have q20_0 := (sblk_cell k20 0).trans rfl
  have q20_1 := (sblk_cell k20 1).trans rfl
  have f20_0 := blk_frozen k20 0
  have f20_1 := blk_frozen k20 1
  have K19 := Lib.hid k19
  have K20 := Lib.hid k20
  clear k19 k20
  have hne2 := Ne.symm hne
  refine norm_ (a' := ?_) ?_ ?_
  rotate_left
  · simp only [putAll, Act.put, List.setIfInBounds_toArray, List.set_cons_zero, List.set_cons_succ]
    rfl
  refine one_ (i := 10) (N := none) (ms_ 12 11) rfl rfl (one_of HT_.out (by kernel_rfl)) (by decide) (fun K hK => ?_)
  refine skip_ (w1 := ?_) (by rfl) rfl ?_ ?_
  rotate_left
  · go_simp
    rfl
  have N19 := Lib.hid (blk_put2 K19.out (.slice A3 l0_0.length c3) (.slice B3 rc2.length d3))
  have N20 := Lib.hid (blk_far2 K20.out hne2 (.slice A3 l0_0.length c3) (.slice B3 rc2.length d3))
  replace V3 := Lib.hid (V3.out.set2 (fun k hk => hk.1) (.slice A3 l0_0.length c3) (.slice B3 rc2.length d3))
  replace V7 := Lib.hid (V7.out.set2 (fun k hk => hk.1) (.slice A3 l0_0.length c3) (.slice B3 rc2.length d3))
  replace CH := Lib.hid (show Chain [y5, y4, y3, y2, y1, w] ((wz.setCell ⟨b19, 0, none⟩ (.slice A3 l0_0.length c3)).setCell ⟨b19, 1, none⟩ (.slice B3 rc2.length d3)) from ⟨below_set2 (CH.out.head) (by omega) (.slice A3 l0_0.length c3) (.slice B3 rc2.length d3), below_set2 (CH.out.tail.head) (by omega) (.slice A3 l0_0.length c3) (.slice B3 rc2.length d3), below_set2 (CH.out.tail.tail.head) (by omega) (.slice A3 l0_0.length c3) (.slice B3 rc2.length d3), below_set2 (CH.out.tail.tail.tail.head) (by omega) (.slice A3 l0_0.length c3) (.slice B3 rc2.length d3), below_set2 (CH.out.tail.tail.tail.tail.head) (by omega) (.slice A3 l0_0.length c3) (.slice B3 rc2.length d3), below_set2 (CH.out.tail.tail.tail.tail.tail.head) (by omega) (.slice A3 l0_0.length c3) (.slice B3 rc2.length d3), trivial⟩)
  clear K19 K20
  have K19 := N19
  have K20 := N20
  clear N19 N20
  generalize (wz.setCell ⟨b19, 0, none⟩ (.slice A3 l0_0.length c3)).setCell ⟨b19, 1, none⟩ (.slice B3 rc2.length d3) = wy at K19 K20 V3 V7 CH ⊢
  have q19_0 := (sblk_cell K19.out 0).trans rfl
  have q19_1 := (sblk_cell K19.out 1).trans rfl
  have f19_0 := blk_frozen K19.out 0
  have f19_1 := blk_frozen K19.out 1
  have q20_0 := (sblk_cell K20.out 0).trans rfl
  have q20_1 := (sblk_cell K20.out 1).trans rfl
  have f20_0 := blk_frozen K20.out 0
  have f20_1 := blk_frozen K20.out 1
  refine hK.out _ _ ⟨((box_cell BK5.out CH.out.tail.tail.tail.tail.head 0).trans rfl), ((box_cell BK5.out CH.out.tail.tail.tail.tail.head 1).trans rfl)⟩ (fun hHeld => ?_)
  clear hK K
  refine one_ (i := 11) (N := none) (ms_ 12 12) rfl rfl (one_of HT_.out (by kernel_rfl)) (by decide) (fun K hK => ?_)
  refine skip_ (w1 := ?_) (by rfl) rfl ?_ ?_
  rotate_left
  · go_simp
    rfl
  have N20 := Lib.hid (blk_put2 K20.out (.slice A7 l0_0.length c7) (.slice B7 rc2.length d7))
  have N19 := Lib.hid (blk_far2 K19.out hne (.slice A7 l0_0.length c7) (.slice B7 rc2.length d7))
  replace V3 := Lib.hid (V3.out.set2 (fun k hk => hk.2) (.slice A7 l0_0.length c7) (.slice B7 rc2.length d7))
  replace V7 := Lib.hid (V7.out.set2 (fun k hk => hk.2) (.slice A7 l0_0.length c7) (.slice B7 rc2.length d7))
  replace CH := Lib.hid (show Chain [y5, y4, y3, y2, y1, w] ((wy.setCell ⟨b20, 0, none⟩ (.slice A7 l0_0.length c7)).setCell ⟨b20, 1, none⟩ (.slice B7 rc2.length d7)) from ⟨below_set2 (CH.out.head) (by omega) (.slice A7 l0_0.length c7) (.slice B7 rc2.length d7), below_set2 (CH.out.tail.head) (by omega) (.slice A7 l0_0.length c7) (.slice B7 rc2.length d7), below_set2 (CH.out.tail.tail.head) (by omega) (.slice A7 l0_0.length c7) (.slice B7 rc2.length d7), below_set2 (CH.out.tail.tail.tail.head) (by omega) (.slice A7 l0_0.length c7) (.slice B7 rc2.length d7), below_set2 (CH.out.tail.tail.tail.tail.head) (by omega) (.slice A7 l0_0.length c7) (.slice B7 rc2.length d7), below_set2 (CH.out.tail.tail.tail.tail.tail.head) (by omega) (.slice A7 l0_0.length c7) (.slice B7 rc2.length d7), trivial⟩)
  clear K19 K20
  have K19 := N19
  have K20 := N20
  clear N19 N20
  generalize (wy.setCell ⟨b20, 0, none⟩ (.slice A7 l0_0.length c7)).setCell ⟨b20, 1, none⟩ (.slice B7 rc2.length d7) = ww at K19 K20 V3 V7 CH ⊢
  have q19_0 := (sblk_cell K19.out 0).trans rfl
  have q19_1 := (sblk_cell K19.out 1).trans rfl
  have f19_0 := blk_frozen K19.out 0
  have f19_1 := blk_frozen K19.out 1
  have q20_0 := (sblk_cell K20.out 0).trans rfl
  have q20_1 := (sblk_cell K20.out 1).trans rfl
  have f20_0 := blk_frozen K20.out 0
  have f20_1 := blk_frozen K20.out 1
  refine hK.out _ _ ⟨((box_cell BK5.out CH.out.tail.tail.tail.tail.head 0).trans rfl), ((box_cell BK5.out CH.out.tail.tail.tail.tail.head 1).trans rfl)⟩ (fun hHeld => ?_)
  clear hK K
  refine done_ (done_of HT_.out (by kernel_rfl)) ?_
  clear q19_0 q19_1 f19_0 f19_1 q20_0 q20_1 f20_0 f20_1
  replace CH := Lib.hid CH.out.push
  have U3 := Lib.hid V3.out.host
  have U7 := Lib.hid V7.out.host
  clear V3 V7
  have q12_0 := (box_cell BK12.out CH.out.tail.tail.tail.tail.head 0).trans rfl
  have q12_1 := (box_cell BK12.out CH.out.tail.tail.tail.tail.head 1).trans rfl
  have q14_0 := (box_cell BK14.out CH.out.tail.tail.tail.head 0).trans rfl
  have q14_1 := (box_cell BK14.out CH.out.tail.tail.tail.head 1).trans rfl
  have q15_0 := (box_cell BK15.out CH.out.tail.tail.head 0).trans rfl
  have q15_1 := (box_cell BK15.out CH.out.tail.tail.head 1).trans rfl
  have q16_0 := (box_cell BK16.out CH.out.tail.tail.head 0).trans rfl
  have q16_1 := (box_cell BK16.out CH.out.tail.tail.head 1).trans rfl
  have q17_0 := (box_cell BK17.out CH.out.tail.head 0).trans rfl
  have q17_1 := (box_cell BK17.out CH.out.tail.head 1).trans rfl
  have q18_0 := (box_cell BK18.out CH.out.tail.head 0).trans rfl
  have q18_1 := (box_cell BK18.out CH.out.tail.head 1).trans rfl
  have q19_0 := (box_cell K19.out CH.out.head 0).trans rfl
  have q19_1 := (box_cell K19.out CH.out.head 1).trans rfl
  have q20_0 := (box_cell K20.out CH.out.head 0).trans rfl
  have q20_1 := (box_cell K20.out CH.out.head 1).trans rfl
  go_wp2_with (first | (go_at_call 12; (with_reducible refine (rSameT_L (Vs.out.below CH.out.tail.tail.head) (Vs'.out.below CH.out.tail.head) Fs.out).mono ?_); rintro e wx ⟨rfl, hb⟩; replace CH := Lib.hid (CH.out.step hb); clear hb; have q12_0 := (box_cell BK12.out CH.out.tail.tail.tail.tail.head 0).trans rfl; have q12_1 := (box_cell BK12.out CH.out.tail.tail.tail.tail.head 1).trans rfl; have q14_0 := (box_cell BK14.out CH.out.tail.tail.tail.head 0).trans rfl; have q14_1 := (box_cell BK14.out CH.out.tail.tail.tail.head 1).trans rfl; have q15_0 := (box_cell BK15.out CH.out.tail.tail.head 0).trans rfl; have q15_1 := (box_cell BK15.out CH.out.tail.tail.head 1).trans rfl; have q16_0 := (box_cell BK16.out CH.out.tail.tail.head 0).trans rfl; have q16_1 := (box_cell BK16.out CH.out.tail.tail.head 1).trans rfl; have q17_0 := (box_cell BK17.out CH.out.tail.head 0).trans rfl; have q17_1 := (box_cell BK17.out CH.out.tail.head 1).trans rfl; have q18_0 := (box_cell BK18.out CH.out.tail.head 0).trans rfl; have q18_1 := (box_cell BK18.out CH.out.tail.head 1).trans rfl; have q19_0 := (box_cell K19.out CH.out.head 0).trans rfl; have q19_1 := (box_cell K19.out CH.out.head 1).trans rfl; have q20_0 := (box_cell K20.out CH.out.head 0).trans rfl; have q20_1 := (box_cell K20.out CH.out.head 1).trans rfl) | (go_at_call 9; (with_reducible refine (rFitT_L (Vs.out.below CH.out.tail.tail.head) Fs.out).mono ?_); rintro e wx ⟨rfl, hb⟩; replace CH := Lib.hid (CH.out.step hb); clear hb; have q12_0 := (box_cell BK12.out CH.out.tail.tail.tail.tail.head 0).trans rfl; have q12_1 := (box_cell BK12.out CH.out.tail.tail.tail.tail.head 1).trans rfl; have q14_0 := (box_cell BK14.out CH.out.tail.tail.tail.head 0).trans rfl; have q14_1 := (box_cell BK14.out CH.out.tail.tail.tail.head 1).trans rfl; have q15_0 := (box_cell BK15.out CH.out.tail.tail.head 0).trans rfl; have q15_1 := (box_cell BK15.out CH.out.tail.tail.head 1).trans rfl; have q16_0 := (box_cell BK16.out CH.out.tail.tail.head 0).trans rfl; have q16_1 := (box_cell BK16.out CH.out.tail.tail.head 1).trans rfl; have q17_0 := (box_cell BK17.out CH.out.tail.head 0).trans rfl; have q17_1 := (box_cell BK17.out CH.out.tail.head 1).trans rfl; have q18_0 := (box_cell BK18.out CH.out.tail.head 0).trans rfl; have q18_1 := (box_cell BK18.out CH.out.tail.head 1).trans rfl; have q19_0 := (box_cell K19.out CH.out.head 0).trans rfl; have q19_1 := (box_cell K19.out CH.out.head 1).trans rfl; have q20_0 := (box_cell K20.out CH.out.head 0).trans rfl; have q20_1 := (box_cell K20.out CH.out.head 1).trans rfl) | (go_at_call 12; (with_reducible refine (rSameT_L (U3.out.below CH.out.head) (U7.out.below CH.out.head) Fc.out).mono ?_); rintro e wx ⟨rfl, hb⟩; replace CH := Lib.hid (CH.out.step hb); clear hb; have q12_0 := (box_cell BK12.out CH.out.tail.tail.tail.tail.head 0).trans rfl; have q12_1 := (box_cell BK12.out CH.out.tail.tail.tail.tail.head 1).trans rfl; have q14_0 := (box_cell BK14.out CH.out.tail.tail.tail.head 0).trans rfl; have q14_1 := (box_cell BK14.out CH.out.tail.tail.tail.head 1).trans rfl; have q15_0 := (box_cell BK15.out CH.out.tail.tail.head 0).trans rfl; have q15_1 := (box_cell BK15.out CH.out.tail.tail.head 1).trans rfl; have q16_0 := (box_cell BK16.out CH.out.tail.tail.head 0).trans rfl; have q16_1 := (box_cell BK16.out CH.out.tail.tail.head 1).trans rfl; have q17_0 := (box_cell BK17.out CH.out.tail.head 0).trans rfl; have q17_1 := (box_cell BK17.out CH.out.tail.head 1).trans rfl; have q18_0 := (box_cell BK18.out CH.out.tail.head 0).trans rfl; have q18_1 := (box_cell BK18.out CH.out.tail.head 1).trans rfl; have q19_0 := (box_cell K19.out CH.out.head 0).trans rfl; have q19_1 := (box_cell K19.out CH.out.head 1).trans rfl; have q20_0 := (box_cell K20.out CH.out.head 0).trans rfl; have q20_1 := (box_cell K20.out CH.out.head 1).trans rfl) | (go_at_call 9; (with_reducible refine (rFitT_L (U3.out.below CH.out.head) Fc.out).mono ?_); rintro e wx ⟨rfl, hb⟩; replace CH := Lib.hid (CH.out.step hb); clear hb; have q12_0 := (box_cell BK12.out CH.out.tail.tail.tail.tail.head 0).trans rfl; have q12_1 := (box_cell BK12.out CH.out.tail.tail.tail.tail.head 1).trans rfl; have q14_0 := (box_cell BK14.out CH.out.tail.tail.tail.head 0).trans rfl; have q14_1 := (box_cell BK14.out CH.out.tail.tail.tail.head 1).trans rfl; have q15_0 := (box_cell BK15.out CH.out.tail.tail.head 0).trans rfl; have q15_1 := (box_cell BK15.out CH.out.tail.tail.head 1).trans rfl; have q16_0 := (box_cell BK16.out CH.out.tail.tail.head 0).trans rfl; have q16_1 := (box_cell BK16.out CH.out.tail.tail.head 1).trans rfl; have q17_0 := (box_cell BK17.out CH.out.tail.head 0).trans rfl; have q17_1 := (box_cell BK17.out CH.out.tail.head 1).trans rfl; have q18_0 := (box_cell BK18.out CH.out.tail.head 0).trans rfl; have q18_1 := (box_cell BK18.out CH.out.tail.head 1).trans rfl; have q19_0 := (box_cell K19.out CH.out.head 0).trans rfl; have q19_1 := (box_cell K19.out CH.out.head 1).trans rfl; have q20_0 := (box_cell K20.out CH.out.head 0).trans rfl; have q20_1 := (box_cell K20.out CH.out.head 1).trans rfl) | (go_at_call 10; (with_reducible refine awake_L.mono ?_); rintro e wx ⟨rfl, hb⟩; replace CH := Lib.hid (CH.out.step hb); clear hb))
  go_ret
  exact ⟨rfl, CH.out.tail.tail.tail.tail.tail.tail.head⟩
end Go.Proofs.Ytlmmipdgedfboaa.F
end
