import Derived.Below
import Derived.Deep.Draws
import Derived.Deep.AppendLies
import Derived.Maps.AppendAt
import Derived.OwnWalk
import Derived.Laws.BytesArg
import Derived.Laws.MakeOwn
import Derived.Laws.OwnMore
import Derived.Deep.OwnRows
import Derived.Tactics
import Derived.Lib.ConvBytes
import Derived.Laws.Slices
import Derived.WalkKit
import Derived.KernelRfl
import Derived.RowKit3
import Derived.Deep.LoopGhost
import Derived.Deep.QuietTactic
import Derived.BigQuiet
import Derived.WideLaws
import Derived.Deep.DeepCutAuto
import Derived.Deep.CutBlock
import Derived.Deep.RegionHeld3
import Derived.Laws.Rows
import Derived.Lib.AppendStr
import Derived.ArgAppend
import Derived.Laws.IdiomCopy
import Derived.RowKit
import Derived.OpenShut
import Derived.ProofKit
import Derived.Deep.Slices
import Derived.SizedLaws
import Derived.OrdersHeld
import Derived.Laws.BitsLemmas
import Derived.Laws.StructEq
import Derived.Shelf.Strings.Builder1
import Derived.Shelf.Strings.BuilderF
import Derived.Shelf.Strings.BuilderK
import Derived.RangeFuncNested
import Derived.RangeFuncBound
import Derived.RangeFuncCalls
import Derived.RangeFuncLeaves
import Derived.RangeFuncWrites
import Derived.Shelf.Abstract
import Derived.Shelf.RegionOpen
import Derived.OwnWalkIn
import Derived.TacticsInMore
import Derived.LoopNIn
import Derived.LoopIn
import Derived.Lib.Hide
import Derived.WalkLawsBesides
import Derived.WalkSmall
import Derived.Laws.ResultCell
import Derived.RangeFuncRecord
import Derived.Deep.RegionWith
import Derived.Lib.Builder
import Derived.Lib.UnsafeStr
import Derived.Defers
import Derived.Recover
import Derived.Tactics2
import Derived.StillTailTactics
import Derived.Test.YtonoabknmmecnaaZF0
import Derived.Test.YtonoabknmmecnaaYA0
import Derived.Test.YtonoabknmmecnaaYA1FFerryref13Same
import Derived.Test.YtonoabknmmecnaaYA3HSwap
import Derived.Test.YtonoabknmmecnaaYA4
import Derived.Test.YtonoabknmmecnaaYA5HElf2
import Derived.Test.YtonoabknmmecnaaYA6HElf3
import Derived.Test.YtonoabknmmecnaaYA7HElf4
import Derived.Test.YtonoabknmmecnaaYA8HElf5
import Derived.Test.YtonoabknmmecnaaYA10HElf7
import Derived.Test.YtonoabknmmecnaaYA11HElf8
import Derived.Test.YtonoabknmmecnaaYA12FFerrylaw13Awake
section
namespace Go.Proofs.Ytonoabknmmecnaa.Opens
open Go.ChangeShapes Go.WideShapes Go.RowKit Go.Deep
open Go.Proofs.YtonoabknmmecnaaW.PrintWords

def Opens {α : Type} (P : Program) (t : TypeId) (d : Kd α) (wf : α → Prop) : Prop :=
  P.cellsOf t = d.sz ∧ ∀ {H : Type} (enc : TypeId × Value → H) (w : World) (base : Nat) (spare : Nat → Bool) (held : Bool) (fuel : Nat) (cs : List Value) (x : DataW H × List MemPlace),
    DataW.trod enc P w base spare held fuel t cs = some x → ∃ a : α, d.K w a cs ∧ wf a
theorem Opens.imp {α : Type} {P : Program} {t : TypeId} {d : Kd α} {wf wf' : α → Prop} (h : Opens P t d wf) (hi : ∀ a, wf a → wf' a) : Opens P t d wf' :=
  ⟨h.1, fun enc w base spare held fuel cs x hx => by
    obtain ⟨a, hK, hw⟩ := h.2 enc w base spare held fuel cs x hx
    exact ⟨a, hK, hi a hw⟩⟩
end Go.Proofs.Ytonoabknmmecnaa.Opens
end
section
namespace Go.Proofs.Ytonoabknmmecnaa.F
open Go.RowKit Go.Proofs.YtonoabknmmecnaaW.PrintWords Go.Proofs.YtonoabknmmecnaaW.PrintLast Go.Proofs.YtonoabknmmecnaaW.PrintMore
set_option linter.unusedVariables false
set_option linter.unusedSimpArgs false
def mkB (l : List UInt8) : ByteArray := ⟨l.toArray⟩
theorem mkB_size (l : List UInt8) : (mkB l).size = l.length := by simp [mkB, ByteArray.size]
theorem mkB_toList (l : List UInt8) : (mkB l).toList = l := by rw [ByteArray.toList_eq]; simp [mkB]
theorem mkB_extract (l : List UInt8) (a b : Nat) : (mkB l).extract a b = mkB ((l.drop a).take (b - a)) := by
  apply WideShapes.bytes_inj
  simp [mkB, ByteArray.data_extract, List.extract_eq_take_drop]
theorem mkB_append (a b : List UInt8) : mkB a ++ mkB b = mkB (a ++ b) := by
  apply WideShapes.bytes_inj
  simp [mkB]
theorem ediv_mod_of {a b q r : Int} (h : a = b * q + r) (h0 : 0 ≤ r) (h1 : r < b) : a / b = q ∧ a % b = r := by
  have hb : b ≠ 0 := by omega
  constructor
  · rw [h, Int.add_comm, Int.add_mul_ediv_left _ _ hb, Int.ediv_eq_zero_of_lt h0 h1, Int.zero_add]
  · rw [h, Int.add_comm, Int.add_mul_emod_self_left, Int.emod_eq_of_lt h0 h1]
theorem ebeOf_cons_aux : ∀ (l : List UInt8) (acc : Int), l.foldl (fun n b => n * 256 + (b.toNat : Int)) acc = acc * 256 ^ l.length + beOf l
  | [], acc => by simp [beOf]
  | x :: l, acc => by
    have h1 := ebeOf_cons_aux l (acc * 256 + (x.toNat : Int))
    have h2 := ebeOf_cons_aux l ((0 : Int) * 256 + (x.toNat : Int))
    have e : beOf (x :: l) = l.foldl (fun n b => n * 256 + (b.toNat : Int)) ((0 : Int) * 256 + (x.toNat : Int)) := rfl
    rw [e, h2, List.foldl_cons, h1, List.length_cons, Int.pow_succ, Int.zero_mul, Int.zero_add, Int.add_mul, Int.mul_assoc, Int.mul_comm 256, Int.add_assoc]
theorem ebeOf_cons (x : UInt8) (l : List UInt8) : beOf (x :: l) = (x.toNat : Int) * 256 ^ l.length + beOf l := by
  have h := ebeOf_cons_aux l ((0 : Int) * 256 + (x.toNat : Int))
  rw [show ((0 : Int) * 256 + (x.toNat : Int)) * 256 ^ l.length = (x.toNat : Int) * 256 ^ l.length by rw [Int.zero_mul, Int.zero_add]] at h
  exact h
theorem eemod_mul256 (v p : Int) (hp : 0 < p) : v % (p * 256) = v / p % 256 * p + v % p := by
  have e1 := Int.mul_ediv_add_emod v p
  have e2 := Int.mul_ediv_add_emod (v / p) 256
  have h1 := Int.emod_nonneg v (show p ≠ 0 by omega)
  have h2 := Int.emod_lt_of_pos v hp
  have h3 := Int.emod_nonneg (v / p) (show (256 : Int) ≠ 0 by omega)
  have h4 := Int.emod_lt_of_pos (v / p) (show (0 : Int) < 256 by omega)
  have h5 : v / p % 256 * p ≤ 255 * p := Int.mul_le_mul_of_nonneg_right (by omega) (by omega)
  have h6 : 0 ≤ v / p % 256 * p := Int.mul_nonneg h3 (by omega)
  have e3 : p * (v / p) = p * 256 * (v / p / 256) + v / p % 256 * p := by
    rw [Int.mul_assoc, Int.mul_comm (v / p % 256), ← Int.mul_add, e2]
  exact (ediv_mod_of (q := v / p / 256) (by omega) (by omega) (by omega)).2
theorem ebeOf_le (v : Int) : ∀ n : Nat, beOf (leBytes v n).reverse = v % 256 ^ n
  | 0 => by simp [leBytes, beOf]
  | n + 1 => by
    have hp : (0 : Int) < 256 ^ n := Int.pow_pos (by decide)
    rw [leBytes_succ, List.reverse_append, List.reverse_singleton, List.singleton_append, ebeOf_cons, byte_toNat, List.length_reverse, leBytes_length, ebeOf_le v n, Int.pow_succ, eemod_mul256 v _ hp]
theorem u64_id {v : Int} (h0 : 0 ≤ v) (h1 : v < 18446744073709551616) : IntKind.u64.wrap v = v := by
  show v % 18446744073709551616 = v
  omega
theorem beOf_wrNum {n : Nat} {v : Int} (hn : n ≤ 4) (h0 : 0 ≤ v) (h1 : v < 256 ^ n) : beOf (wrNum n v) = v := by
  have h2 : (256 : Int) ^ n ≤ 256 ^ 4 := by
    rcases (show n = 0 ∨ n = 1 ∨ n = 2 ∨ n = 3 ∨ n = 4 by omega) with rfl | rfl | rfl | rfl | rfl <;> decide
  have h3 : (256 : Int) ^ 4 = 4294967296 := by decide
  unfold wrNum
  rw [u64_id h0 (by omega), ebeOf_le, Int.emod_eq_of_lt h0 h1]
theorem rdNum_put {n : Nat} {v : Int} {t : List UInt8} (hn : n ≤ 4) (h0 : 0 ≤ v) (h1 : v < 256 ^ n) : rdNum n (mkB (wrNum n v ++ t)) = .ok (v, mkB t) := by
  have h2 : (256 : Int) ^ n ≤ 256 ^ 4 := by
    rcases (show n = 0 ∨ n = 1 ∨ n = 2 ∨ n = 3 ∨ n = 4 by omega) with rfl | rfl | rfl | rfl | rfl <;> decide
  have h3 : (256 : Int) ^ 4 = 4294967296 := by decide
  have hl := wrNum_length n v
  unfold rdNum rdCut
  rw [mkB_size, List.length_append, hl, if_pos (by omega), mkB_extract, mkB_extract]
  have e1 : ((wrNum n v ++ t).drop 0).take (n - 0) = wrNum n v := by rw [List.drop_zero, Nat.sub_zero, List.take_left' hl]
  have e2 : ((wrNum n v ++ t).drop n).take (n + t.length - n) = t := by rw [List.drop_left' hl, Nat.add_sub_cancel_left, List.take_length]
  rw [e1, e2]
  dsimp only
  have e3 : bys (mkB (wrNum n v)) false = wrNum n v := by simp [bys, mkB]
  rw [e3, beOf_wrNum hn h0 h1, Int.emod_eq_of_lt h0 (by omega)]
end Go.Proofs.Ytonoabknmmecnaa.F
end
section
namespace Go.Proofs.Ytonoabknmmecnaa.F
open Go.RowKit Go.Proofs.YtonoabknmmecnaaW.PrintWords Go.Proofs.YtonoabknmmecnaaW.PrintLast Go.Proofs.YtonoabknmmecnaaW.PrintMore
set_option linter.unusedVariables false
set_option linter.unusedSimpArgs false
def tn (p : Int) : Int := IntKind.u32.wrap ((elf_turned.f p).getD 0)
theorem eight {f : Int} (h0 : 0 ≤ f) (h1 : f < 8) : f = 0 ∨ f = 1 ∨ f = 2 ∨ f = 3 ∨ f = 4 ∨ f = 5 ∨ f = 6 ∨ f = 7 := by omega
theorem tn_facts {f : Int} (h0 : 0 ≤ f) (h1 : f < 8) : 0 ≤ tn f ∧ tn f < 8 ∧ protsOf (tn f) = f ∧ 0 ≤ protsOf f ∧ protsOf f < 8 ∧ tn (protsOf f) = f := by
  rcases eight h0 h1 with rfl | rfl | rfl | rfl | rfl | rfl | rfl | rfl <;> decide +kernel
def segRead (x : S39) : Prop := (0 ≤ x.f0 ∧ x.f0 < 4) ∧ (0 ≤ x.f1 ∧ x.f1 < 4294967296) ∧ (0 ≤ x.f2 ∧ x.f2 < 4294967296) ∧ (0 ≤ x.f3 ∧ x.f3 < 4294967296) ∧ (0 ≤ x.f4 ∧ x.f4 < 4294967296) ∧ (0 ≤ x.f5 ∧ x.f5 < 8) ∧ (0 ≤ x.f6 ∧ x.f6 < 4294967296)
theorem p256 : (256 : Int) ^ 4 = 4294967296 := by decide
theorem wrSeg_eq {x : S39} (h : segRead x) (t : List UInt8) : wrNums 4 (wrSeg x) ++ t = wrNum 4 x.f0 ++ (wrNum 4 x.f1 ++ (wrNum 4 x.f2 ++ (wrNum 4 x.f2 ++ (wrNum 4 x.f3 ++ (wrNum 4 x.f4 ++ (wrNum 4 (tn x.f5) ++ (wrNum 4 x.f6 ++ t))))))) := by
  have h0 : IntKind.u32.wrap x.f0 = x.f0 := by
    show x.f0 % 4294967296 = x.f0
    have := h.1
    omega
  simp [wrNums, wrSeg, h0, tn]
theorem rdSeg_put {x : S39} (h : segRead x) (t : List UInt8) : rdSeg (mkB (wrNums 4 (wrSeg x) ++ t)) = .ok (x, mkB t) := by
  rw [wrSeg_eq h]
  obtain ⟨h0, h1, h2, h3, h4, h5, h6⟩ := h
  have ht := tn_facts h5.1 h5.2
  unfold rdSeg
  rw [rdNum_put (by decide) h0.1 (by rw [p256]; omega)]
  dsimp only
  rw [rdNum_put (by decide) h1.1 (by rw [p256]; omega)]
  dsimp only
  rw [rdNum_put (by decide) h2.1 (by rw [p256]; omega)]
  dsimp only
  rw [rdNum_put (by decide) h2.1 (by rw [p256]; omega)]
  dsimp only
  rw [rdNum_put (by decide) h3.1 (by rw [p256]; omega)]
  dsimp only
  rw [rdNum_put (by decide) h4.1 (by rw [p256]; omega)]
  dsimp only
  rw [rdNum_put (by decide) ht.1 (by rw [p256]; omega)]
  dsimp only
  rw [rdNum_put (by decide) h6.1 (by rw [p256]; omega)]
  dsimp only
  rw [if_pos ⟨rfl, ht.2.1, h0.2⟩, ht.2.2.1, show wrap64 x.f0 = x.f0 from w64_id' (by omega) (by omega)]
end Go.Proofs.Ytonoabknmmecnaa.F
end
section
namespace Go.Proofs.Ytonoabknmmecnaa.F
open Go.RowKit Go.Proofs.YtonoabknmmecnaaW.PrintWords Go.Proofs.YtonoabknmmecnaaW.PrintLast Go.Proofs.YtonoabknmmecnaaW.PrintMore
set_option linter.unusedVariables false
set_option linter.unusedSimpArgs false
def segBytes (l : List S39) : List UInt8 := l.flatMap (fun x => wrNums 4 (wrSeg x))
theorem segBytes_cons (x : S39) (l : List S39) : segBytes (x :: l) = wrNums 4 (wrSeg x) ++ segBytes l := by simp [segBytes]
theorem segBytes_length : ∀ l : List S39, (segBytes l).length = l.length * 32
  | [] => rfl
  | x :: l => by
    rw [segBytes_cons, List.length_append, segBytes_length l, wrNums_length, show (wrSeg x).length = 8 from rfl, List.length_cons]
    omega
theorem rdSegs_put : ∀ {l : List S39} (t : List UInt8), (∀ x ∈ l, segRead x) → rdSegs l.length (mkB (segBytes l ++ t)) = .ok (l, mkB t)
  | [], t, _ => rfl
  | x :: l, t, h => by
    rw [segBytes_cons, List.append_assoc, List.length_cons]
    unfold rdSegs
    rw [rdSeg_put (h x List.mem_cons_self)]
    dsimp only
    rw [rdSegs_put t (fun y hy => h y (List.mem_cons_of_mem _ hy))]
def inAll (size : Int) (l : List S39) : Bool := l.all (fun x => decide (wrap64 (wrap64 x.f1 + wrap64 x.f3) ≤ size))
end Go.Proofs.Ytonoabknmmecnaa.F
end
section
namespace Go.Proofs.Ytonoabknmmecnaa.F
open Go.RowKit Go.Proofs.YtonoabknmmecnaaW.PrintWords Go.Proofs.YtonoabknmmecnaaW.PrintLast Go.Proofs.YtonoabknmmecnaaW.PrintMore
set_option linter.unusedVariables false
set_option linter.unusedSimpArgs false
theorem p2562 : (256 : Int) ^ 2 = 65536 := by decide
theorem rdIs_one {v w : Int} {t : List UInt8} (h0 : 0 ≤ w ∧ w < 4294967296) : rdIs [v] (mkB (wrNum 4 w ++ t)) = if w = v then .ok ((), mkB t) else .error 103 := by
  rw [rdIs_cons, rdNum_put (by decide) h0.1 (by rw [p256]; exact h0.2)]
  rfl
theorem rdIs_four {v1 v2 v3 v4 w1 w2 w3 w4 : Int} {t : List UInt8} (h1 : 0 ≤ w1 ∧ w1 < 4294967296) (h2 : 0 ≤ w2 ∧ w2 < 4294967296) (h3 : 0 ≤ w3 ∧ w3 < 4294967296) (h4 : 0 ≤ w4 ∧ w4 < 4294967296) :
    rdIs [v1, v2, v3, v4] (mkB (wrNum 4 w1 ++ (wrNum 4 w2 ++ (wrNum 4 w3 ++ (wrNum 4 w4 ++ t))))) = if w1 = v1 ∧ w2 = v2 ∧ w3 = v3 ∧ w4 = v4 then .ok ((), mkB t) else .error 103 := by
  rw [rdIs_cons, rdNum_put (by decide) h1.1 (by rw [p256]; exact h1.2)]
  dsimp only
  by_cases e1 : w1 = v1
  · rw [if_pos e1, rdIs_cons, rdNum_put (by decide) h2.1 (by rw [p256]; exact h2.2)]
    dsimp only
    by_cases e2 : w2 = v2
    · rw [if_pos e2, rdIs_cons, rdNum_put (by decide) h3.1 (by rw [p256]; exact h3.2)]
      dsimp only
      by_cases e3 : w3 = v3
      · rw [if_pos e3, rdIs_one h4]
        by_cases e4 : w4 = v4
        · rw [if_pos e4, if_pos ⟨e1, e2, e3, e4⟩]
        · rw [if_neg e4, if_neg (fun h => e4 h.2.2.2)]
      · rw [if_neg e3, if_neg (fun h => e3 h.2.2.1)]
    · rw [if_neg e2, if_neg (fun h => e2 h.2.1)]
  · rw [if_neg e1, if_neg (fun h => e1 h.1)]
def hd (kind v1 entry v2 v3 v4 v5 n h z : Int) (t : List UInt8) : List UInt8 := wrNum 4 kind ++ (wrNum 4 v1 ++ (wrNum 4 entry ++ (wrNum 4 v2 ++ (wrNum 4 v3 ++ (wrNum 4 v4 ++ (wrNum 4 v5 ++ (wrNum 2 n ++ (wrNum 2 h ++ (wrNum 4 z ++ t)))))))))
structure HdR (kind v1 entry v2 v3 v4 v5 n h z : Int) : Prop where
  kind : 0 ≤ kind ∧ kind < 4294967296
  v1 : 0 ≤ v1 ∧ v1 < 4294967296
  entry : 0 ≤ entry ∧ entry < 4294967296
  v2 : 0 ≤ v2 ∧ v2 < 4294967296
  v3 : 0 ≤ v3 ∧ v3 < 4294967296
  v4 : 0 ≤ v4 ∧ v4 < 4294967296
  v5 : 0 ≤ v5 ∧ v5 < 4294967296
  n : 0 ≤ n ∧ n < 65536
  h : 0 ≤ h ∧ h < 65536
  z : 0 ≤ z ∧ z < 4294967296
abbrev hdOk (kind v1 v2 v3 v4 v5 n h z : Int) : Prop := (kind = 131080 ∨ kind = 196616) ∧ v1 = 1 ∧ (v2 = 52 ∧ v3 = 0 ∧ v4 = 1879052288 ∧ v5 = 3407904) ∧ h = 0 ∧ z = 0 ∧ n ≤ 16
theorem rdHeader_nums {kind v1 entry v2 v3 v4 v5 n h z : Int} (R : HdR kind v1 entry v2 v3 v4 v5 n h z) (size : Int) (t : List UInt8) :
    rdHeader size (mkB (hd kind v1 entry v2 v3 v4 v5 n h z t)) = if hdOk kind v1 v2 v3 v4 v5 n h z then rdBody size (kind / 65536 == 3) entry n (mkB t) else .error 103 := by
  unfold rdHeader hd
  rw [rdNum_put (by decide) R.kind.1 (by rw [p256]; exact R.kind.2)]
  dsimp only
  by_cases g1 : kind = 131080 ∨ kind = 196616
  · rw [if_neg (fun h => h g1), rdIs_one R.v1]
    by_cases g2 : v1 = 1
    · rw [if_pos g2]
      dsimp only
      rw [rdNum_put (by decide) R.entry.1 (by rw [p256]; exact R.entry.2)]
      dsimp only
      rw [rdIs_four R.v2 R.v3 R.v4 R.v5]
      by_cases g3 : v2 = 52 ∧ v3 = 0 ∧ v4 = 1879052288 ∧ v5 = 3407904
      · rw [if_pos g3]
        dsimp only
        rw [rdNum_put (by decide) R.n.1 (by rw [p2562]; exact R.n.2)]
        dsimp only
        rw [rdNum_put (by decide) R.h.1 (by rw [p2562]; exact R.h.2)]
        dsimp only
        by_cases g4 : h = 0
        · rw [if_neg (fun h => h g4), rdNum_put (by decide) R.z.1 (by rw [p256]; exact R.z.2)]
          dsimp only
          by_cases g5 : z = 0
          · rw [if_neg (fun h => h g5)]
            by_cases g6 : n ≤ 16
            · rw [if_neg (fun h => h g6), if_pos ⟨g1, g2, g3, g4, g5, g6⟩]
            · rw [if_pos g6, if_neg (fun h => g6 h.2.2.2.2.2)]
          · rw [if_pos g5, if_neg (fun h => g5 h.2.2.2.2.1)]
        · rw [if_pos g4, if_neg (fun h => g4 h.2.2.2.1)]
      · rw [if_neg g3, if_neg (fun h => g3 h.2.2.1)]
    · rw [if_neg g2, if_neg (fun h => g2 h.2.1)]
  · rw [if_pos g1, if_neg (fun h => g1 h.1)]
theorem hd_length (kind v1 entry v2 v3 v4 v5 n h z : Int) (t : List UInt8) : (hd kind v1 entry v2 v3 v4 v5 n h z t).length = 36 + t.length := by
  unfold hd
  simp only [List.length_append, wrNum_length]
  omega
def magicL : List UInt8 := [127, 69, 76, 70, 1, 2, 1, 0, 0, 0, 0, 0, 0, 0, 0, 0]
theorem wrHead_hd (sh : Bool) (entry n : Int) (t : List UInt8) : wrHead sh entry n ++ t = magicL ++ hd (if sh then 196616 else 131080) 1 entry 52 0 1879052288 3407904 n 0 0 t := by
  have e1 : wrNum 4 131080 = wrNum 2 2 ++ wrNum 2 8 := by decide +kernel
  have e2 : wrNum 4 196616 = wrNum 2 3 ++ wrNum 2 8 := by decide +kernel
  have e3 : wrNum 4 3407904 = wrNum 2 52 ++ wrNum 2 32 := by decide +kernel
  have e4 : wrNum 4 0 = wrNum 2 0 ++ wrNum 2 0 := by decide +kernel
  unfold wrHead hd wrNums magicL
  cases sh
  · simp only [Bool.false_eq_true, if_false, List.flatMap_cons, List.flatMap_nil, List.append_assoc, List.append_nil, e1, e3]
    rw [show wrNum 4 0 ++ t = wrNum 2 0 ++ (wrNum 2 0 ++ t) by rw [e4, List.append_assoc]]
  · simp only [if_true, List.flatMap_cons, List.flatMap_nil, List.append_assoc, List.append_nil, e2, e3]
    rw [show wrNum 4 0 ++ t = wrNum 2 0 ++ (wrNum 2 0 ++ t) by rw [e4, List.append_assoc]]
end Go.Proofs.Ytonoabknmmecnaa.F
end
section
namespace Go.Proofs.Ytonoabknmmecnaa.F
open Go.RowKit Go.Proofs.YtonoabknmmecnaaW.PrintWords Go.Proofs.YtonoabknmmecnaaW.PrintLast Go.Proofs.YtonoabknmmecnaaW.PrintMore
set_option linter.unusedVariables false
set_option linter.unusedSimpArgs false
theorem rdParse_short {b : List UInt8} (h : b.length < 52) : rdParse (mkB b) = .error 101 := by
  unfold rdParse
  rw [mkB_size, if_pos h]
theorem rdParse_magic {b : List UInt8} (h : 52 ≤ (magicL ++ b).length) : rdParse (mkB (magicL ++ b)) = rdHeader ((magicL ++ b).length : Int) (mkB b) := by
  unfold rdParse
  rw [mkB_size, if_neg (by omega), mkB_extract, mkB_extract]
  have e1 : ((magicL ++ b).drop 0).take (16 - 0) = magicL := by rw [List.drop_zero, Nat.sub_zero]; exact List.take_left' rfl
  have e2 : ((magicL ++ b).drop 16).take ((magicL ++ b).length - 16) = b := by
    rw [List.drop_left' (show magicL.length = 16 from rfl), List.length_append, show magicL.length = 16 from rfl, Nat.add_sub_cancel_left, List.take_length]
  rw [e1, e2, mkB_toList]
  rfl
theorem sh_eq (sh : Bool) : ((if sh then (196616 : Int) else 131080) / 65536 == 3) = sh := by cases sh <;> decide
theorem rdBody_put {l : List S39} {size entry : Int} {sh : Bool} (t : List UInt8) (hr : ∀ x ∈ l, segRead x) (hu : l.any unfit = false) (hi : inAll size l = true) : rdBody size sh entry (l.length : Int) (mkB (segBytes l ++ t)) = .ok ((sh, entry, l), mkB t) := by
  unfold rdBody
  rw [Int.toNat_natCast, mkB_size, List.length_append, segBytes_length, if_neg (by omega), rdSegs_put t hr]
  dsimp only
  rw [hu, if_neg (by decide)]
  exact if_pos hi
theorem parse_put {l : List S39} {entry : Int} {sh : Bool} (t : List UInt8) (hn : l.length ≤ 16) (he : 0 ≤ entry ∧ entry < 4294967296) (hr : ∀ x ∈ l, segRead x) (hu : l.any unfit = false) (hi : inAll ((wrHead sh entry l.length ++ (segBytes l ++ t)).length : Int) l = true) :
    rdParse (mkB (wrHead sh entry l.length ++ (segBytes l ++ t))) = .ok ((sh, entry, l), mkB t) := by
  rw [wrHead_hd] at hi ⊢
  have hl : 52 ≤ (magicL ++ hd (if sh then 196616 else 131080) 1 entry 52 0 1879052288 3407904 (l.length : Int) 0 0 (segBytes l ++ t)).length := by
    rw [List.length_append, hd_length, show magicL.length = 16 from rfl]
    omega
  rw [rdParse_magic hl]
  have R : HdR (if sh then 196616 else 131080) 1 entry 52 0 1879052288 3407904 (l.length : Int) 0 0 := ⟨by cases sh <;> decide, by decide, he, by decide, by decide, by decide, by decide, by omega, by decide, by decide⟩
  have hk : (if sh then (196616 : Int) else 131080) = 131080 ∨ (if sh then (196616 : Int) else 131080) = 196616 := by cases sh <;> decide
  rw [rdHeader_nums R, if_pos ⟨hk, rfl, ⟨rfl, rfl, rfl, rfl⟩, rfl, rfl, by omega⟩, sh_eq, rdBody_put t hr hu hi]
theorem wrHead_length (sh : Bool) (entry n : Int) : (wrHead sh entry n).length = 52 := by simp [wrHead, wrNums_length]
end Go.Proofs.Ytonoabknmmecnaa.F
end
section
namespace Go.Proofs.Ytonoabknmmecnaa.F
open Go.RowKit Go.Proofs.YtonoabknmmecnaaW.PrintWords Go.Proofs.YtonoabknmmecnaaW.PrintLast Go.Proofs.YtonoabknmmecnaaW.PrintMore
theorem w64_id {n : Int} (h0 : -9223372036854775808 ≤ n) (h1 : n ≤ 9223372036854775807) : wrap64 n = n := by unfold wrap64; omega
end Go.Proofs.Ytonoabknmmecnaa.F
end
section
namespace Go.Proofs.Ytonoabknmmecnaa.F
open Go.RowKit Go.Proofs.YtonoabknmmecnaaW.PrintWords Go.Proofs.YtonoabknmmecnaaW.PrintLast Go.Proofs.YtonoabknmmecnaaW.PrintMore
set_option linter.unusedVariables false
set_option linter.unusedSimpArgs false
theorem seg_ext {a b : S39} (h0 : a.f0 = b.f0) (h1 : a.f1 = b.f1) (h2 : a.f2 = b.f2) (h3 : a.f3 = b.f3) (h4 : a.f4 = b.f4) (h5 : a.f5 = b.f5) (h6 : a.f6 = b.f6) : a = b := by
  cases a; cases b; simp_all
instance segDec : DecidableEq S39 := fun a b =>
  if h : a.f0 = b.f0 ∧ a.f1 = b.f1 ∧ a.f2 = b.f2 ∧ a.f3 = b.f3 ∧ a.f4 = b.f4 ∧ a.f5 = b.f5 ∧ a.f6 = b.f6 then .isTrue (seg_ext h.1 h.2.1 h.2.2.1 h.2.2.2.1 h.2.2.2.2.1 h.2.2.2.2.2.1 h.2.2.2.2.2.2)
  else .isFalse (fun e => h (by subst e; exact ⟨rfl, rfl, rfl, rfl, rfl, rfl, rfl⟩))
theorem seg_ne (a b : S39) : ((!(a.f0 == b.f0) || (!(a.f1 == b.f1) || (!(a.f2 == b.f2) || (!(a.f3 == b.f3) || (!(a.f4 == b.f4) || (!(a.f5 == b.f5) || (!(a.f6 == b.f6)))))))) = true) ↔ a ≠ b := by
  constructor
  · intro h e
    subst e
    simp at h
  · intro h
    by_cases h0 : a.f0 = b.f0 <;> by_cases h1 : a.f1 = b.f1 <;> by_cases h2 : a.f2 = b.f2 <;> by_cases h3 : a.f3 = b.f3 <;> by_cases h4 : a.f4 = b.f4 <;> by_cases h5 : a.f5 = b.f5 <;> by_cases h6 : a.f6 = b.f6 <;> simp_all
    exact h (seg_ext h0 h1 h2 h3 h4 h5 h6)
theorem rd_seg {l : List S39} {i : Nat} (h : i < l.length) : rd_T39 l (i : Int) = l[i] := by
  unfold rd_T39
  simp [h]
theorem drop_eq_iff {α : Type} {l m : List α} {i : Nat} (h1 : i < l.length) (h2 : i < m.length) : l.drop i = m.drop i ↔ l[i] = m[i] ∧ l.drop (i + 1) = m.drop (i + 1) := by
  rw [List.drop_eq_getElem_cons h1, List.drop_eq_getElem_cons h2]
  simp only [List.cons.injEq]
theorem ref_Same_l (sh sh' : Bool) (en en' : Int) (l m : List S39) (hl : l.length = m.length) (hb : l.length < 1000000) : ∀ (d i : Nat), i + d = l.length → Ev (fun k => ferryref13_Same.l0 k (i : Int) sh en l sh' en' m) (decide (l.drop i = m.drop i))
  -- by segDec
  | 0, i, h => by
    refine Ev.step (fun _ => rfl) ?_
    simp only [ferryref13_Same.l0]
    have e : l.drop i = m.drop i := by rw [List.drop_eq_nil_of_le (by omega), List.drop_eq_nil_of_le (by omega)]
    rw [decide_eq_true e]
    simp only [if_neg (show ¬ ((i : Int) < (l.length : Int)) by omega)]
    exact Ev.now _
  | d + 1, i, h => by
    have ih := ref_Same_l sh sh' en en' l m hl hb d (i + 1) (by omega)
    refine Ev.step (fun _ => rfl) ?_
    simp only [ferryref13_Same.l0, if_pos (show ((i : Int) < (l.length : Int)) by omega), if_pos (show (0 : Int) ≤ (i : Int) by omega), if_pos (show ((i : Int) < (m.length : Int)) by omega), w64_id (show -9223372036854775808 ≤ (i : Int) + 1 by omega) (by omega)]
    rw [rd_seg (show i < l.length by omega), rd_seg (show i < m.length by omega)]
    by_cases he : l[i] = m[i]
    · have hc := mt (seg_ne l[i] m[i]).1 (fun h => h he)
      simp only [if_neg hc]
      have e : decide (l.drop i = m.drop i) = decide (l.drop (i + 1) = m.drop (i + 1)) := by
        rw [decide_eq_decide, drop_eq_iff (by omega) (by omega)]
        exact ⟨fun hh => hh.2, fun hh => ⟨he, hh⟩⟩
      rw [e]
      exact ih
    · simp only [if_pos ((seg_ne l[i] m[i]).2 he)]
      have e : decide (l.drop i = m.drop i) = false := by
        rw [decide_eq_false_iff_not, drop_eq_iff (by omega) (by omega)]
        exact fun hh => he hh.1
      rw [e]
      exact Ev.now _
theorem ref_Same_ev (sh sh' : Bool) (en en' : Int) (l m : List S39) (hb : l.length < 1000000) : Ev (fun k => ferryref13_Same.f k sh en l sh' en' m) (decide (sh = sh' ∧ en = en' ∧ l = m)) := by
  -- by segDec
  unfold ferryref13_Same.f
  by_cases h1 : sh = sh'
  · subst h1
    simp only [bne_self_eq_false, Bool.false_eq_true, if_false]
    by_cases h2 : en = en'
    · subst h2
      simp only [if_pos]
      refine Ev.step (fun _ => rfl) ?_
      simp only [ferryref13_Same.j0]
      by_cases h3 : l.length = m.length
      · have e : ((l.length : Int) != (m.length : Int)) = false := by simp [h3]
        simp only [e, Bool.false_eq_true, if_false]
        have := ref_Same_l sh sh en en l m h3 hb l.length 0 (by omega)
        simpa using this
      · have e : ((l.length : Int) != (m.length : Int)) = true := bne_iff_ne.2 (by omega)
        simp only [e, if_true]
        rw [decide_eq_false (by rintro ⟨_, _, rfl⟩; exact h3 rfl)]
        exact Ev.now _
    · simp only [if_neg h2]
      refine Ev.step (fun _ => rfl) ?_
      simp only [ferryref13_Same.j0, if_true]
      rw [decide_eq_false (fun hh => h2 hh.2.1)]
      exact Ev.now _
  · have e : (sh != sh') = true := by simpa using h1
    simp only [e, if_true]
    refine Ev.step (fun _ => rfl) ?_
    simp only [ferryref13_Same.j0, if_true]
    rw [decide_eq_false (fun hh => h1 hh.1)]
    exact Ev.now _
end Go.Proofs.Ytonoabknmmecnaa.F
end
section
namespace Go.Proofs.Ytonoabknmmecnaa.F
open Go.RowKit Go.Proofs.YtonoabknmmecnaaW.PrintWords Go.Proofs.YtonoabknmmecnaaW.PrintLast Go.Proofs.YtonoabknmmecnaaW.PrintMore
set_option linter.unusedVariables false
set_option linter.unusedSimpArgs false
theorem elf_Write_eq (sh : Bool) (en : Int) (l : List S39) : elf_Write.f sh en l = some (if l.length ≤ 16 ∧ l.any unfit = false then mkB (wrHead sh en l.length ++ segBytes l) else mkB []) := rfl
end Go.Proofs.Ytonoabknmmecnaa.F
end
section
namespace Go.Proofs.Ytonoabknmmecnaa.F
open Go.RowKit Go.Proofs.YtonoabknmmecnaaW.PrintWords Go.Proofs.YtonoabknmmecnaaW.PrintLast Go.Proofs.YtonoabknmmecnaaW.PrintMore
set_option linter.unusedVariables false
set_option linter.unusedSimpArgs false
theorem elf_Parse_eq (b : List UInt8) (hb : b.length < 1000000000000000) : elf_Parse.f (mkB b) = some (parseOf (rdParse (mkB b))) := by
  unfold elf_Parse.f
  rw [mkB_size, if_pos hb]
theorem parse_made {l : List S39} {entry : Int} {sh : Bool} (t : List UInt8) (hn : l.length ≤ 16) (he : 0 ≤ entry ∧ entry < 4294967296) (hr : ∀ x ∈ l, segRead x) (hu : l.any unfit = false) (hi : inAll ((wrHead sh entry l.length ++ (segBytes l ++ t)).length : Int) l = true) (ht : t.length < 100000000000000) :
    elf_Parse.f (mkB (wrHead sh entry l.length ++ (segBytes l ++ t))) = some (sh, entry, l, 0) := by
  rw [elf_Parse_eq _ (by rw [List.length_append, List.length_append, wrHead_length, segBytes_length]; omega), parse_put t hn he hr hu hi]
  rfl
theorem awake_ev : Ev (fun k => ferrylaw13_awake.f k) true := by
  have e1 : elf_Write.f false 4096 [] = some (mkB (wrHead false 4096 0)) := by
    rw [elf_Write_eq, if_pos ⟨by decide, rfl⟩]
    simp [segBytes]
  have e2 : elf_Parse.f (mkB (wrHead false 4096 0)) = some (false, 4096, [], 0) := by
    have h := parse_made (l := []) (entry := 4096) (sh := false) [] (by decide) (by decide) (fun x hx => by simp at hx) rfl rfl (by decide)
    simpa [segBytes] using h
  have e3 : elf_Parse.f (⟨#[115, 104, 111, 114, 116]⟩ : ByteArray) = some (false, 0, [], 101) := by
    rw [show (⟨#[115, 104, 111, 114, 116]⟩ : ByteArray) = mkB [115, 104, 111, 114, 116] from rfl, elf_Parse_eq _ (by decide), rdParse_short (by decide)]
    rfl
  have e4 : elf_Prots.f 5 = some 5 := by decide +kernel
  unfold ferrylaw13_awake.f
  rw [e1]
  refine Ev.bind (Ev.now _) ?_
  rw [e2]
  refine Ev.bind (Ev.now _) ?_
  rw [e3]
  refine Ev.bind (Ev.now _) ?_
  rw [mkB_size, wrHead_length]
  refine Ev.congr (fun _ => if_pos (by decide)) ?_
  refine Ev.congr (fun _ => if_pos rfl) ?_
  refine Ev.bind (ref_Same_ev _ _ _ _ _ _ (by decide)) ?_
  refine Ev.congr (fun _ => if_pos (by simp)) ?_
  refine Ev.congr (fun _ => if_pos rfl) ?_
  rw [e4]
  exact Ev.now _
end Go.Proofs.Ytonoabknmmecnaa.F
end
