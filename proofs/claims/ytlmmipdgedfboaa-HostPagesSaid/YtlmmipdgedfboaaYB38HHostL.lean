import Derived.Below
import Derived.Deep.Draws
import Derived.Deep.AppendLies
import Derived.Maps.AppendAt
import Derived.OwnWalk
import Derived.Laws.BytesArg
import Derived.Laws.MakeOwn
import Derived.Laws.OwnMore
import Derived.Deep.OwnRows
import Derived.Tactics
import Derived.Lib.ConvBytes
import Derived.Laws.Slices
import Derived.WalkKit
import Derived.KernelRfl
import Derived.RowKit3
import Derived.Deep.LoopGhost
import Derived.Deep.QuietTactic
import Derived.BigQuiet
import Derived.WideLaws
import Derived.Deep.DeepCutAuto
import Derived.Deep.CutBlock
import Derived.Deep.RegionHeld3
import Derived.Laws.Rows
import Derived.Lib.AppendStr
import Derived.ArgAppend
import Derived.Laws.IdiomCopy
import Derived.RowKit
import Derived.OrdersHeld
import Derived.Laws.BitsLemmas
import Derived.Laws.StructEq
import Derived.OwnWalkIn
import Derived.ProofKit
import Derived.Lib.Hide
import Derived.Shelf.RegionOpen
import Derived.Shelf.Abstract
import Derived.Lib.SliceRun
import Derived.WalkSmall
import Derived.Laws.ResultCell
import Derived.Shelf.Spec.SlicesInsertGrow
import Derived.OpenShut
import Derived.Deep.Slices
import Derived.SizedLaws
import Derived.Test.YtlmmipdgedfboaaZF0
import Derived.Test.YtlmmipdgedfboaaYA2LawK
import Derived.Test.YtlmmipdgedfboaaYA8HHost4
import Derived.Test.YtlmmipdgedfboaaYA10HHost11
import Derived.Test.YtlmmipdgedfboaaYA14
import Derived.Test.YtlmmipdgedfboaaYA16
import Derived.Test.YtlmmipdgedfboaaYA22
import Derived.Test.YtlmmipdgedfboaaYB24HHost3
import Derived.Test.YtlmmipdgedfboaaYB26HHost10
import Derived.Test.YtlmmipdgedfboaaYB28FHostSame
import Derived.Test.YtlmmipdgedfboaaYB29
import Derived.Test.YtlmmipdgedfboaaYB30HHost8
import Derived.Test.YtlmmipdgedfboaaYB32FFerryref03Map
import Derived.Test.YtlmmipdgedfboaaYB33FFerryref03Unmap
import Derived.Test.YtlmmipdgedfboaaYB34FFerryref03Protect
import Derived.Test.YtlmmipdgedfboaaYB35PHost3
import Derived.Test.YtlmmipdgedfboaaYB36PHost4
import Derived.Test.YtlmmipdgedfboaaYB37PHost5
section
namespace Go.Proofs.Ytlmmipdgedfboaa.F
open Go.RowKit Go.Shelf Go.Proofs.YtlmmipdgedfboaaW.PrintWords Go.Proofs.YtlmmipdgedfboaaW.PrintLast Go.Proofs.YtlmmipdgedfboaaW.PrintMore
set_option linter.unusedVariables false
section
variable {W : World} {v0 v1 : Value} {l : List SM} {m : List SC} {u0 u1 : Value} {l' : List SM} {m' : List SC}
theorem hFit_L (hH : HostV W v0 v1 l m) (hl : l.length ≤ 1000000 ∧ m.length ≤ 1000000) : Calls Try.prog 21 #[.agg #[v0, v1]] W fun e w' => e = .returned (.bool (fitB l m)) ∧ Below W.heap.size W w' := by
  obtain ⟨⟨A, c, rfl, hc, hC⟩, ⟨A', c', rfl, hc', hC'⟩⟩ := hH
  exact host_Fit.calls A c l A' c' m _ W hC hc hC' hc' (by unfold host_Fit.f; rw [if_pos hl])
theorem hSame_L (hH : HostV W v0 v1 l m) (hG : HostV W u0 u1 l' m') (hl : l.length ≤ 1000000 ∧ m.length ≤ 1000000) : Calls Try.prog 22 #[.agg #[v0, v1], .agg #[u0, u1]] W fun e w' => e = .returned (.bool (sameS l m l' m')) ∧ Below W.heap.size W w' := by
  obtain ⟨⟨A, c, rfl, hc, hC⟩, ⟨A', c', rfl, hc', hC'⟩⟩ := hH
  obtain ⟨⟨B, d, rfl, hd, hD⟩, ⟨B', d', rfl, hd', hD'⟩⟩ := hG
  exact host_Same.calls _ A c l A' c' m B d l' B' d' m' _ W hC hc hC' hc' hD hd hD' hd' (host_Same_spec l m l' m' hl.1 hl.2 (l.length + m.length + 1) (by omega))
theorem hMap_L (hH : HostV W v0 v1 l m) (hF : FitH l m) {a n p : Int} (a0 : 0 ≤ a) (a1 : a ≤ 18446744073709551615) (n0 : 0 ≤ n) (p0 : -9223372036854775808 ≤ p) (p1 : p ≤ 9223372036854775807) {r1 : List SM} {r2 : List SC} {r3 : Int} (hr : mapS l m a n p = (r1, r2, r3)) :
    Calls Try.prog 15 #[.agg #[v0, v1], .int .u64 a, .int .u64 n, .int .i64 p] W (RetH W r1 r2 (fun h => .tuple #[h, .int .i64 r3])) := by
  obtain ⟨⟨A, c, rfl, hc, hC⟩, ⟨A', c', rfl, hc', hC'⟩⟩ := hH
  refine (host_Map.calls _ A c l _ A' c' m a n p r1 r2 r3 W (SlV.view k53_heap _ _ hC hc) (SlV.view k55_heap _ _ hC' hc') (by rw [host_Map_spec l m hF.wl hF.ln hF.lr a0 a1 n0 p0 p1, hr])).mono ?_
  rintro e w' ⟨x, y, he, h0, h1, hb⟩
  exact RetH.of he h0 h1 hb
theorem rMap_L (hH : HostV W v0 v1 l m) (hF : FitH l m) {a n p : Int} (a0 : 0 ≤ a) (a1 : a ≤ 18446744073709551615) (n0 : 0 ≤ n) {r1 : List SM} {r2 : List SC} {r3 : Int} (hr : mapS l m a n p = (r1, r2, r3)) :
    Calls Try.prog 23 #[.agg #[v0, v1], .int .u64 a, .int .u64 n, .int .i64 p] W (RetH W r1 r2 (fun h => .tuple #[h, .int .i64 r3])) := by
  obtain ⟨⟨A, c, rfl, hc, hC⟩, ⟨A', c', rfl, hc', hC'⟩⟩ := hH
  refine (ferryref03_Map.calls (3 * l.length + n.toNat + 13) _ A c l _ A' c' m a n p r1 r2 r3 W (SlV.view k53_heap _ _ hC hc) (SlV.view k55_heap _ _ hC' hc') (by rw [ref_Map l m hF.wl hF.ln hF.lr a0 a1 n0 _ (by omega), hr])).mono ?_
  rintro e w' ⟨x, y, he, h0, h1, hb⟩
  exact RetH.of he h0 h1 hb
theorem hUnmap_L (hH : HostV W v0 v1 l m) (hF : FitH l m) {a n : Int} (a0 : 0 ≤ a) (a1 : a ≤ 18446744073709551615) (n0 : 0 ≤ n) {r1 : List SM} {r2 : List SC} {r3 : Int} (hr : unmapS l m a n = (r1, r2, r3)) :
    Calls Try.prog 14 #[.agg #[v0, v1], .int .u64 a, .int .u64 n] W (RetH W r1 r2 (fun h => .tuple #[h, .int .i64 r3])) := by
  obtain ⟨⟨A, c, rfl, hc, hC⟩, ⟨A', c', rfl, hc', hC'⟩⟩ := hH
  refine (host_Unmap.calls _ A c l _ A' c' m a n r1 r2 r3 W (SlV.view k53_heap _ _ hC hc) (SlV.view k55_heap _ _ hC' hc') (by rw [host_Unmap_spec l m hF.wm (by have := hF.ln; omega) (by have := hF.mn; omega) a0 a1 n0, hr])).mono ?_
  rintro e w' ⟨x, y, he, h0, h1, hb⟩
  exact RetH.of he h0 h1 hb
theorem rUnmap_L (hH : HostV W v0 v1 l m) (hF : FitH l m) {a n : Int} (a0 : 0 ≤ a) (a1 : a ≤ 18446744073709551615) (n0 : 0 ≤ n) {r1 : List SM} {r2 : List SC} {r3 : Int} (hr : unmapS l m a n = (r1, r2, r3)) :
    Calls Try.prog 24 #[.agg #[v0, v1], .int .u64 a, .int .u64 n] W (RetH W r1 r2 (fun h => .tuple #[h, .int .i64 r3])) := by
  obtain ⟨⟨A, c, rfl, hc, hC⟩, ⟨A', c', rfl, hc', hC'⟩⟩ := hH
  refine (ferryref03_Unmap.calls (l.length + m.length + 2) _ A c l _ A' c' m a n r1 r2 r3 W (SlV.view k53_heap _ _ hC hc) (SlV.view k55_heap _ _ hC' hc') (by rw [ref_Unmap l m hF.wl hF.wm (by have := hF.ln; omega) (by have := hF.mn; omega) a0 a1 n0 _ (by omega), hr])).mono ?_
  rintro e w' ⟨x, y, he, h0, h1, hb⟩
  exact RetH.of he h0 h1 hb
theorem hProtect_L (hH : HostV W v0 v1 l m) (hF : FitH l m) {a n p : Int} (a0 : 0 ≤ a) (a1 : a ≤ 18446744073709551615) (n0 : 0 ≤ n) (n1 : n ≤ 18446744073709551615) (p0 : -9223372036854775808 ≤ p) (p1 : p ≤ 9223372036854775807) {r1 : List SM} {r2 : List SC} {r3 : Int} (hr : protS l m a n p = (r1, r2, r3)) :
    Calls Try.prog 25 #[.agg #[v0, v1], .int .u64 a, .int .u64 n, .int .i64 p] W (RetH W r1 r2 (fun h => .tuple #[h, .int .i64 r3])) := by
  obtain ⟨⟨A, c, rfl, hc, hC⟩, ⟨A', c', rfl, hc', hC'⟩⟩ := hH
  refine (host_Protect.calls _ A c l _ A' c' m a n p r1 r2 r3 W (SlV.view k53_heap _ _ hC hc) (SlV.view k55_heap _ _ hC' hc') (by rw [host_Protect_spec l m hF.wl (by have := hF.ln; omega) hF.lr a0 a1 n0 n1 p0 p1, hr])).mono ?_
  rintro e w' ⟨x, y, he, h0, h1, hb⟩
  exact RetH.of he h0 h1 hb
theorem rProtect_L (hH : HostV W v0 v1 l m) (hF : FitH l m) {a n p : Int} (a0 : 0 ≤ a) (a1 : a ≤ 18446744073709551615) (n0 : 0 ≤ n) {r1 : List SM} {r2 : List SC} {r3 : Int} (hr : protS l m a n p = (r1, r2, r3)) :
    Calls Try.prog 26 #[.agg #[v0, v1], .int .u64 a, .int .u64 n, .int .i64 p] W (RetH W r1 r2 (fun h => .tuple #[h, .int .i64 r3])) := by
  obtain ⟨⟨A, c, rfl, hc, hC⟩, ⟨A', c', rfl, hc', hC'⟩⟩ := hH
  refine (ferryref03_Protect.calls (l.length + 1) _ A c l _ A' c' m a n p r1 r2 r3 W (SlV.view k53_heap _ _ hC hc) (SlV.view k55_heap _ _ hC' hc') (by rw [ref_Protect l m hF.wl (by have := hF.ln; omega) a0 a1 n0 _ (by omega), hr])).mono ?_
  rintro e w' ⟨x, y, he, h0, h1, hb⟩
  exact RetH.of he h0 h1 hb
theorem hFitR_L (hH : HostV W v0 v1 l m) (hl : l.length ≤ 1000000 ∧ m.length ≤ 1000000) (wl : ∀ x ∈ l, wfM x) (wm : ∀ x ∈ m, wfC x) : Calls Try.prog 21 #[.agg #[v0, v1]] W fun e w' => e = .returned (.bool (fitR l m)) ∧ Below W.heap.size W w' := by
  have := hFit_L hH hl
  rwa [fitB_fitR wl wm] at this
theorem hSameT_L (hH : HostV W v0 v1 l m) (hG : HostV W u0 u1 l m) (hl : l.length ≤ 1000000 ∧ m.length ≤ 1000000) : Calls Try.prog 22 #[.agg #[v0, v1], .agg #[u0, u1]] W fun e w' => e = .returned (.bool true) ∧ Below W.heap.size W w' := by
  have := hSame_L hH hG hl
  rwa [sameS_refl] at this
end
end Go.Proofs.Ytlmmipdgedfboaa.F
end
