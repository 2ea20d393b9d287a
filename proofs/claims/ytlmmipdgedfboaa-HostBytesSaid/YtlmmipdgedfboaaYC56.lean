import Derived.Below
import Derived.Deep.Draws
import Derived.Deep.AppendLies
import Derived.Maps.AppendAt
import Derived.OwnWalk
import Derived.Laws.BytesArg
import Derived.Laws.MakeOwn
import Derived.Laws.OwnMore
import Derived.Deep.OwnRows
import Derived.Tactics
import Derived.Lib.ConvBytes
import Derived.Laws.Slices
import Derived.WalkKit
import Derived.KernelRfl
import Derived.RowKit3
import Derived.Deep.LoopGhost
import Derived.Deep.QuietTactic
import Derived.BigQuiet
import Derived.WideLaws
import Derived.Deep.DeepCutAuto
import Derived.Deep.CutBlock
import Derived.Deep.RegionHeld3
import Derived.Laws.Rows
import Derived.Lib.AppendStr
import Derived.ArgAppend
import Derived.Laws.IdiomCopy
import Derived.RowKit
import Derived.OrdersHeld
import Derived.Laws.BitsLemmas
import Derived.Laws.StructEq
import Derived.OwnWalkIn
import Derived.ProofKit
import Derived.Lib.Hide
import Derived.Shelf.RegionOpen
import Derived.Shelf.Abstract
import Derived.Lib.SliceRun
import Derived.WalkSmall
import Derived.Laws.ResultCell
import Derived.Shelf.Spec.SlicesInsertGrow
import Derived.OpenShut
import Derived.Deep.Slices
import Derived.SizedLaws
import Derived.Test.YtlmmipdgedfboaaZF0
import Derived.Test.YtlmmipdgedfboaaYA2LawK
import Derived.Test.YtlmmipdgedfboaaYA7HHost3
import Derived.Test.YtlmmipdgedfboaaYA9
import Derived.Test.YtlmmipdgedfboaaYA14
import Derived.Test.YtlmmipdgedfboaaYA16
import Derived.Test.YtlmmipdgedfboaaYA17HHost6
import Derived.Test.YtlmmipdgedfboaaYA18
import Derived.Test.YtlmmipdgedfboaaYA19FHostLoad
import Derived.Test.YtlmmipdgedfboaaYA20
import Derived.Test.YtlmmipdgedfboaaYA22
import Derived.Test.YtlmmipdgedfboaaYC47HHost7
import Derived.Test.YtlmmipdgedfboaaYC50FFerryref03Store
import Derived.Test.YtlmmipdgedfboaaYC51PHost7
import Derived.Test.YtlmmipdgedfboaaYC52FFerryref03Load
import Derived.Test.YtlmmipdgedfboaaYC53PHost8
import Derived.Test.YtlmmipdgedfboaaYC54
import Derived.Test.YtlmmipdgedfboaaYC55FFerryref03Clear
section
namespace Go.Proofs.Ytlmmipdgedfboaa.F
open Go.RowKit Go.Shelf Go.Proofs.YtlmmipdgedfboaaW.PrintWords Go.Proofs.YtlmmipdgedfboaaW.PrintLast Go.Proofs.YtlmmipdgedfboaaW.PrintMore
set_option linter.unusedVariables false
set_option linter.unusedSimpArgs false
theorem host_Clear_spec (l : List SM) (m : List SC) (hm : m.length ≤ 1000000) (a n : Int) : host_Clear.f l m a n = some (l, clearS m a n) := by
  unfold host_Clear.f
  rw [if_pos hm]
  rfl
theorem shl255 {k : Nat} (hk : k < 8) : shl .u64 255 (IntKind.u64.wrap (8 * (k : Int))) = IntKind.u64.wrap (255 * 2 ^ (8 * k)) := by
  have e : IntKind.u64.wrap (8 * (k : Int)) = ((8 * k : Nat) : Int) := by rw [u64w]; omega
  unfold shl
  rw [e, Int.toNat_natCast, Nat.min_eq_left (show 8 * k ≤ IntKind.u64.bits by show 8 * k ≤ 64; omega)]
theorem ref_Clear_l1 (l : List SM) (m : List SC) (a n : Int) (o : List SC) (i : Int) (x0 : Int) : ∀ (d k j : Nat) (x1 : Int), j + d = 8 →
    ferryref03_Clear.l1 (k + d + 1) a n o i (j : Int) l m x0 x1 = if ((List.range' j d).foldl (clrStep a n x0) x1) = 0 then ferryref03_Clear.l0 k a n o (wrap64 (i + 1)) l m else (if o.length < 8796093022208 then ferryref03_Clear.l0 k a n (o ++ [⟨x0, (List.range' j d).foldl (clrStep a n x0) x1⟩]) (wrap64 (i + 1)) l m else none)
  | 0, k, j, x1, hj => by
    rw [ferryref03_Clear.l1, if_neg (by omega)]
    rfl
  | d + 1, k, j, x1, hj => by
    have hw : IntKind.u64.wrap ((j : Int) + 1) = ((j + 1 : Nat) : Int) := by rw [u64w]; omega
    have hin : ferryref03_inside.f (IntKind.u64.wrap (x0 + (j : Int))) a n = some (withB (IntKind.u64.wrap (x0 + (j : Int))) a n) := withB_some _ _ _
    rw [show k + (d + 1) + 1 = (k + d + 1) + 1 by omega, ferryref03_Clear.l1, if_pos (by omega), hin, Option.bind_some, hw, shl255 (show j < 8 by omega), ref_Clear_l1 l m a n o i x0 d k (j + 1) _ (by omega), ref_Clear_l1 l m a n o i x0 d k (j + 1) _ (by omega), List.range'_succ, List.foldl_cons]
    have h0 : (0 : Int) ≤ IntKind.u64.wrap (8 * (j : Int)) := by rw [u64w]; omega
    rw [if_pos h0]
    have hs : clrStep a n x0 x1 j = if withB (IntKind.u64.wrap (x0 + (j : Int))) a n = true then Go.bits .andNot .u64 x1 (IntKind.u64.wrap (255 * 2 ^ (8 * j))) else x1 := rfl
    rw [hs]
    by_cases hb : withB (IntKind.u64.wrap (x0 + (j : Int))) a n = true
    · rw [if_pos hb, if_pos hb]
    · rw [if_neg hb, if_neg hb]
theorem ref_Clear_l0 (l : List SM) (m : List SC) (hm : m.length ≤ 1000000) (a n : Int) : ∀ (d k i : Nat) (o : List SC), i + d = m.length → o.length ≤ i →
    ferryref03_Clear.l0 (k + 10 * d + 1) a n o (i : Int) l m = some (l, o ++ clearS (m.drop i) a n)
  | 0, k, i, o, hi, ho => by
    rw [ferryref03_Clear.l0, if_neg (by omega), List.drop_eq_nil_of_le (by omega)]
    simp [clearS]
  | d + 1, k, i, o, hi, ho => by
    have hlt : i < m.length := by omega
    have hw : wrap64 ((i : Int) + 1) = ((i + 1 : Nat) : Int) := by unfold wrap64; omega
    have h1 := fun x0 x1 => ref_Clear_l1 l m a n o (i : Int) x0 8 (k + 10 * d + 1) 0 x1 (by omega)
    rw [show k + 10 * d + 1 + 8 + 1 = k + 10 * d + 10 by omega, show ((0 : Nat) : Int) = 0 from rfl] at h1
    rw [show k + 10 * (d + 1) + 1 = (k + 10 * d + 10) + 1 by omega, ferryref03_Clear.l0, if_pos (by omega), if_pos (by omega), cl_getR hlt, h1, hw, ref_Clear_l0 l m hm a n d k (i + 1) o (by omega) (by omega), ref_Clear_l0 l m hm a n d k (i + 1) _ (by omega) (by simp; omega), if_pos (show o.length < 8796093022208 by omega), List.drop_eq_getElem_cons hlt]
    have e : (List.range' 0 8).foldl (clrStep a n m[i].f0) m[i].f1 = clrW a n m[i].f0 m[i].f1 8 := by
      unfold clrW
      rw [List.range_eq_range']
    rw [e]
    unfold clearS
    rw [List.map_cons, List.filter_cons]
    have e2 : (clrC a n m[i]).f1 = clrW a n m[i].f0 m[i].f1 8 := rfl
    rw [e2]
    by_cases hz : clrW a n m[i].f0 m[i].f1 8 = 0
    · rw [if_pos hz, hz, if_neg (by simp)]
    · rw [if_neg hz, if_pos (by simpa using hz), List.append_assoc]
      rfl
theorem ref_Clear (l : List SM) (m : List SC) (hm : m.length ≤ 1000000) (a n : Int) : ferryref03_Clear.f (10 * m.length + 1) l m a n = some (l, clearS m a n) := by
  have := ref_Clear_l0 l m hm a n m.length 0 0 [] (by omega) (by simp)
  rw [Nat.zero_add, show ((0 : Nat) : Int) = 0 from rfl] at this
  unfold ferryref03_Clear.f
  rw [this]
  rfl
end Go.Proofs.Ytlmmipdgedfboaa.F
end
section
namespace Go.Proofs.Ytlmmipdgedfboaa.F
open Go.RowKit Go.Shelf Go.Proofs.YtlmmipdgedfboaaW.PrintWords Go.Proofs.YtlmmipdgedfboaaW.PrintLast Go.Proofs.YtlmmipdgedfboaaW.PrintMore
set_option linter.unusedVariables false
section
variable {W : World} {v0 v1 : Value} {l : List SM} {m : List SC} {u0 u1 : Value} {l' : List SM} {m' : List SC}
theorem hStore_L (hH : HostV W v0 v1 l m) (hF : FitH l m) {a n v : Int} (hm : m.length ≤ 130000) (a0 : 0 ≤ a) (a1 : a ≤ 18446744073709551615) (n0 : 0 ≤ v) (n1 : v ≤ 18446744073709551615) {r1 : List SM} {r2 : List SC} {r3 r4 : Int} (hr : storeS l m a n v = (r1, r2, r3, r4)) :
    Calls Try.prog 11 #[.agg #[v0, v1], .int .u64 a, .int .i64 n, .int .u64 v] W (RetH W r1 r2 (fun h => .tuple #[h, .agg #[.int .i64 r3, .int .u64 r4]])) := by
  obtain ⟨⟨A, c, rfl, hc, hC⟩, ⟨A', c', rfl, hc', hC'⟩⟩ := hH
  refine (host_Store.calls _ A c l _ A' c' m a n v r1 r2 r3 r4 W (SlV.view k53_heap _ _ hC hc) (SlV.view k55_heap _ _ hC' hc') (by rw [host_Store_spec l hF.cells hF.lr (by have := hF.ln; omega) (by omega) a0 (by omega) n0 (by omega), hr])).mono ?_
  rintro e w' ⟨x, y, he, h0, h1, hb⟩
  exact RetH.of he h0 h1 hb
theorem rStore_L (hH : HostV W v0 v1 l m) (hF : FitH l m) {a n v : Int} (hm : m.length ≤ 130000) (a0 : 0 ≤ a) (a1 : a ≤ 18446744073709551615) (n0 : 0 ≤ v) (n1 : v ≤ 18446744073709551615) {r1 : List SM} {r2 : List SC} {r3 r4 : Int} (hr : storeS l m a n v = (r1, r2, r3, r4)) :
    Calls Try.prog 17 #[.agg #[v0, v1], .int .u64 a, .int .i64 n, .int .u64 v] W (RetH W r1 r2 (fun h => .tuple #[h, .agg #[.int .i64 r3, .int .u64 r4]])) := by
  obtain ⟨⟨A, c, rfl, hc, hC⟩, ⟨A', c', rfl, hc', hC'⟩⟩ := hH
  refine (ferryref03_Store.calls (2 * m.length + l.length + 41) _ A c l _ A' c' m a n v r1 r2 r3 r4 W (SlV.view k53_heap _ _ hC hc) (SlV.view k55_heap _ _ hC' hc') (by rw [ref_Store l hF.cells (by have := hF.ln; omega) (by omega) a0 (by omega) n0 (by omega) _ (by omega), hr])).mono ?_
  rintro e w' ⟨x, y, he, h0, h1, hb⟩
  exact RetH.of he h0 h1 hb
theorem hLoad_L (hH : HostV W v0 v1 l m) (hF : FitH l m) {a n : Int} (a0 : 0 ≤ a) (a1 : a ≤ 18446744073709551615) {r1 r2 r3 : Int} (hr : loadS l m a n = (r1, r2, r3)) :
    Calls Try.prog 13 #[.agg #[v0, v1], .int .u64 a, .int .i64 n] W fun e w' => e = .returned (.tuple #[.int .u64 r1, .agg #[.int .i64 r2, .int .u64 r3]]) ∧ Below W.heap.size W w' := by
  obtain ⟨⟨A, c, rfl, hc, hC⟩, ⟨A', c', rfl, hc', hC'⟩⟩ := hH
  exact host_Load.calls 41 A c l A' c' m a n r1 r2 r3 W hC hc hC' hc' (by rw [host_Load_spec l hF.cells hF.lr (by have := hF.ln; omega) (by have := hF.mn; omega) a0 (by omega) _ (by omega), hr])
theorem rLoad_L (hH : HostV W v0 v1 l m) (hF : FitH l m) {a n : Int} (a0 : 0 ≤ a) (a1 : a ≤ 18446744073709551615) {r1 r2 r3 : Int} (hr : loadS l m a n = (r1, r2, r3)) :
    Calls Try.prog 16 #[.agg #[v0, v1], .int .u64 a, .int .i64 n] W fun e w' => e = .returned (.tuple #[.int .u64 r1, .agg #[.int .i64 r2, .int .u64 r3]]) ∧ Below W.heap.size W w' := by
  obtain ⟨⟨A, c, rfl, hc, hC⟩, ⟨A', c', rfl, hc', hC'⟩⟩ := hH
  exact ferryref03_Load.calls (m.length + l.length + 41) A c l A' c' m a n r1 r2 r3 W hC hc hC' hc' (by rw [ref_Load l hF.cells (by have := hF.ln; omega) (by have := hF.mn; omega) a0 (by omega) _ (by omega), hr])
end
end Go.Proofs.Ytlmmipdgedfboaa.F
end
