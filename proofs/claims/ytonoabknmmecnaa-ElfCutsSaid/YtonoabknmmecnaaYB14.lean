import Derived.Below
import Derived.Deep.Draws
import Derived.Deep.AppendLies
import Derived.Maps.AppendAt
import Derived.OwnWalk
import Derived.Laws.BytesArg
import Derived.Laws.MakeOwn
import Derived.Laws.OwnMore
import Derived.Deep.OwnRows
import Derived.Tactics
import Derived.Lib.ConvBytes
import Derived.Laws.Slices
import Derived.WalkKit
import Derived.KernelRfl
import Derived.RowKit3
import Derived.Deep.LoopGhost
import Derived.Deep.QuietTactic
import Derived.BigQuiet
import Derived.WideLaws
import Derived.Deep.DeepCutAuto
import Derived.Deep.CutBlock
import Derived.Deep.RegionHeld3
import Derived.Laws.Rows
import Derived.Lib.AppendStr
import Derived.ArgAppend
import Derived.Laws.IdiomCopy
import Derived.RowKit
import Derived.OrdersHeld
import Derived.Laws.BitsLemmas
import Derived.Laws.StructEq
import Derived.Shelf.Strings.Builder1
import Derived.Shelf.Strings.BuilderF
import Derived.Shelf.Strings.BuilderK
import Derived.RangeFuncNested
import Derived.RangeFuncBound
import Derived.RangeFuncCalls
import Derived.RangeFuncLeaves
import Derived.RangeFuncWrites
import Derived.Shelf.Abstract
import Derived.Shelf.RegionOpen
import Derived.OwnWalkIn
import Derived.TacticsInMore
import Derived.LoopNIn
import Derived.LoopIn
import Derived.Lib.Hide
import Derived.WalkLawsBesides
import Derived.WalkSmall
import Derived.Laws.ResultCell
import Derived.RangeFuncRecord
import Derived.ProofKit
import Derived.Deep.RegionWith
import Derived.Lib.Builder
import Derived.Lib.UnsafeStr
import Derived.Defers
import Derived.Recover
import Derived.Tactics2
import Derived.StillTailTactics
import Derived.OpenShut
import Derived.Deep.Slices
import Derived.SizedLaws
import Derived.Test.YtonoabknmmecnaaZF0
import Derived.Test.YtonoabknmmecnaaYA3HSwap
import Derived.Test.YtonoabknmmecnaaYA4
import Derived.Test.YtonoabknmmecnaaYA5HElf2
import Derived.Test.YtonoabknmmecnaaYA6HElf3
import Derived.Test.YtonoabknmmecnaaYA7HElf4
import Derived.Test.YtonoabknmmecnaaYA8HElf5
import Derived.Test.YtonoabknmmecnaaYA9HElf6
import Derived.Test.YtonoabknmmecnaaYA10HElf7
import Derived.Test.YtonoabknmmecnaaYA11HElf8
import Derived.Test.YtonoabknmmecnaaYA13
section
namespace Go.Proofs.Ytonoabknmmecnaa.F
open Go.RowKit Go.Proofs.YtonoabknmmecnaaW.PrintWords Go.Proofs.YtonoabknmmecnaaW.PrintLast Go.Proofs.YtonoabknmmecnaaW.PrintMore
set_option linter.unusedVariables false
set_option linter.unusedSimpArgs false
theorem mkB_data (s : ByteArray) : s = mkB s.data.toList := by cases s; simp [mkB]
theorem ebeOf_range : ∀ l : List UInt8, 0 ≤ beOf l ∧ beOf l < 256 ^ l.length
  | [] => by simp [beOf]
  | x :: l => by
    have ih := ebeOf_range l
    have hx := x.toNat_lt
    have hp : (0 : Int) < 256 ^ l.length := Int.pow_pos (by decide)
    rw [ebeOf_cons, List.length_cons, Int.pow_succ]
    have h1 : (x.toNat : Int) * 256 ^ l.length ≤ 255 * 256 ^ l.length := Int.mul_le_mul_of_nonneg_right (by omega) (by omega)
    have h2 : 0 ≤ (x.toNat : Int) * 256 ^ l.length := Int.mul_nonneg (by omega) (by omega)
    omega
theorem ebeOf_inj : ∀ (a b : List UInt8), a.length = b.length → beOf a = beOf b → a = b
  | [], [], _, _ => rfl
  | [], y :: m, h, _ => by simp at h
  | x :: l, [], h, _ => by simp at h
  | x :: l, y :: m, h, e => by
    have hl : l.length = m.length := by simpa using h
    rw [ebeOf_cons, ebeOf_cons, hl] at e
    have r1 := ebeOf_range l
    have r2 := ebeOf_range m
    rw [hl] at r1
    have d1 := ediv_mod_of (a := (x.toNat : Int) * 256 ^ m.length + beOf l) (b := 256 ^ m.length) (q := (x.toNat : Int)) (r := beOf l) (by rw [Int.mul_comm]) r1.1 r1.2
    have d2 := ediv_mod_of (a := (y.toNat : Int) * 256 ^ m.length + beOf m) (b := 256 ^ m.length) (q := (y.toNat : Int)) (r := beOf m) (by rw [Int.mul_comm]) r2.1 r2.2
    rw [e] at d1
    have hx : x.toNat = y.toNat := by have := d1.1.symm.trans d2.1; omega
    have hxy : x = y := UInt8.toNat_inj.1 hx
    have hlm := ebeOf_inj l m hl (d1.2.symm.trans d2.2)
    rw [hxy, hlm]
theorem wrNum_beOf {n : Nat} {b : List UInt8} (hn : n ≤ 4) (hb : b.length = n) : wrNum n (beOf b) = b := by
  have r := ebeOf_range b
  rw [hb] at r
  exact ebeOf_inj _ _ (by rw [wrNum_length, hb]) (beOf_wrNum hn r.1 r.2)
theorem num_front {n : Nat} {b : List UInt8} (hn : n ≤ 4) (hb : n ≤ b.length) : ∃ v t, b = wrNum n v ++ t ∧ 0 ≤ v ∧ v < 256 ^ n ∧ t.length = b.length - n := by
  have hl : (b.take n).length = n := by rw [List.length_take]; omega
  have r := ebeOf_range (b.take n)
  rw [hl] at r
  refine ⟨beOf (b.take n), b.drop n, ?_, r.1, r.2, by rw [List.length_drop]⟩
  rw [wrNum_beOf hn hl, List.take_append_drop]
theorem rdNum_short {n : Nat} {b : List UInt8} (h : b.length < n) : rdNum n (mkB b) = .error 101 := by
  unfold rdNum rdCut
  rw [mkB_size, if_neg (by omega)]
theorem rdNum_inv {n : Nat} {b : List UInt8} {v : Int} {s : ByteArray} (hn : n ≤ 4) (h : rdNum n (mkB b) = .ok (v, s)) : ∃ t, s = mkB t ∧ b = wrNum n v ++ t ∧ 0 ≤ v ∧ v < 256 ^ n := by
  rcases Nat.lt_or_ge b.length n with hlt | hge
  · rw [rdNum_short hlt] at h
    cases h
  · obtain ⟨v', t, rfl, h0, h1, _⟩ := num_front hn hge
    rw [rdNum_put hn h0 h1] at h
    obtain ⟨rfl, rfl⟩ := Prod.mk.inj (Except.ok.inj h)
    exact ⟨t, rfl, rfl, h0, h1⟩
end Go.Proofs.Ytonoabknmmecnaa.F
end
section
namespace Go.Proofs.Ytonoabknmmecnaa.F
open Go.RowKit Go.Proofs.YtonoabknmmecnaaW.PrintWords Go.Proofs.YtonoabknmmecnaaW.PrintLast Go.Proofs.YtonoabknmmecnaaW.PrintMore
set_option linter.unusedVariables false
set_option linter.unusedSimpArgs false
theorem rdSeg_inv {b : List UInt8} {x : S39} {s : ByteArray} (h : rdSeg (mkB b) = .ok (x, s)) : ∃ t, s = mkB t ∧ b = wrNums 4 (wrSeg x) ++ t ∧ segRead x := by
  unfold rdSeg at h
  cases e0 : rdNum 4 (mkB b) with
  | error c => rw [e0] at h; cases h
  | ok p =>
  obtain ⟨k, s0⟩ := p
  obtain ⟨t0, rfl, q0, l0, u0⟩ := rdNum_inv (by decide) e0
  rw [e0] at h
  dsimp only at h
  rw [p256] at u0
  cases e1 : rdNum 4 (mkB t0) with
  | error c => rw [e1] at h; cases h
  | ok p =>
  obtain ⟨off, s1⟩ := p
  obtain ⟨t1, rfl, q1, l1, u1⟩ := rdNum_inv (by decide) e1
  rw [e1] at h
  dsimp only at h
  rw [p256] at u1
  cases e2 : rdNum 4 (mkB t1) with
  | error c => rw [e2] at h; cases h
  | ok p =>
  obtain ⟨at_, s2⟩ := p
  obtain ⟨t2, rfl, q2, l2, u2⟩ := rdNum_inv (by decide) e2
  rw [e2] at h
  dsimp only at h
  rw [p256] at u2
  cases e3 : rdNum 4 (mkB t2) with
  | error c => rw [e3] at h; cases h
  | ok p =>
  obtain ⟨ag, s3⟩ := p
  obtain ⟨t3, rfl, q3, l3, u3⟩ := rdNum_inv (by decide) e3
  rw [e3] at h
  dsimp only at h
  rw [p256] at u3
  cases e4 : rdNum 4 (mkB t3) with
  | error c => rw [e4] at h; cases h
  | ok p =>
  obtain ⟨sz, s4⟩ := p
  obtain ⟨t4, rfl, q4, l4, u4⟩ := rdNum_inv (by decide) e4
  rw [e4] at h
  dsimp only at h
  rw [p256] at u4
  cases e5 : rdNum 4 (mkB t4) with
  | error c => rw [e5] at h; cases h
  | ok p =>
  obtain ⟨room, s5⟩ := p
  obtain ⟨t5, rfl, q5, l5, u5⟩ := rdNum_inv (by decide) e5
  rw [e5] at h
  dsimp only at h
  rw [p256] at u5
  cases e6 : rdNum 4 (mkB t5) with
  | error c => rw [e6] at h; cases h
  | ok p =>
  obtain ⟨f, s6⟩ := p
  obtain ⟨t6, rfl, q6, l6, u6⟩ := rdNum_inv (by decide) e6
  rw [e6] at h
  dsimp only at h
  rw [p256] at u6
  cases e7 : rdNum 4 (mkB t6) with
  | error c => rw [e7] at h; cases h
  | ok p =>
  obtain ⟨al, s7⟩ := p
  obtain ⟨t7, rfl, q7, l7, u7⟩ := rdNum_inv (by decide) e7
  rw [e7] at h
  dsimp only at h
  rw [p256] at u7
  split at h
  · rename_i hc
    obtain ⟨rfl, hf, hk⟩ := hc
    obtain ⟨rfl, rfl⟩ := Prod.mk.inj (Except.ok.inj h)
    have hp := tn_facts l6 hf
    have hk64 : wrap64 k = k := w64_id' (by omega) (by omega)
    have hr : segRead ⟨wrap64 k, off, ag, sz, room, protsOf f, al⟩ := ⟨by rw [hk64]; exact ⟨l0, hk⟩, ⟨l1, u1⟩, ⟨l2, u2⟩, ⟨l4, u4⟩, ⟨l5, u5⟩, ⟨hp.2.2.2.1, hp.2.2.2.2.1⟩, ⟨l7, u7⟩⟩
    refine ⟨t7, rfl, ?_, hr⟩
    rw [wrSeg_eq hr]
    dsimp only
    rw [hk64, hp.2.2.2.2.2, q0, q1, q2, q3, q4, q5, q6, q7]
  · cases h
theorem rdSeg_front {b : List UInt8} (hb : 32 ≤ b.length) : ∃ k off at_ ag sz room f al t, b = wrNum 4 k ++ (wrNum 4 off ++ (wrNum 4 at_ ++ (wrNum 4 ag ++ (wrNum 4 sz ++ (wrNum 4 room ++ (wrNum 4 f ++ (wrNum 4 al ++ t))))))) ∧ t.length = b.length - 32 ∧ (0 ≤ k ∧ k < 4294967296) ∧ (0 ≤ off ∧ off < 4294967296) ∧ (0 ≤ at_ ∧ at_ < 4294967296) ∧ (0 ≤ ag ∧ ag < 4294967296) ∧ (0 ≤ sz ∧ sz < 4294967296) ∧ (0 ≤ room ∧ room < 4294967296) ∧ (0 ≤ f ∧ f < 4294967296) ∧ (0 ≤ al ∧ al < 4294967296) ∧ rdSeg (mkB b) = (if ag = at_ ∧ f < 8 ∧ k < 4 then .ok (⟨k, off, at_, sz, room, protsOf f, al⟩, mkB t) else .error 103) := by
  obtain ⟨k, t0, q0, l0, u0, z0⟩ := num_front (n := 4) (b := b) (by decide) (by omega)
  rw [p256] at u0
  obtain ⟨off, t1, q1, l1, u1, z1⟩ := num_front (n := 4) (b := t0) (by decide) (by omega)
  rw [p256] at u1
  obtain ⟨at_, t2, q2, l2, u2, z2⟩ := num_front (n := 4) (b := t1) (by decide) (by omega)
  rw [p256] at u2
  obtain ⟨ag, t3, q3, l3, u3, z3⟩ := num_front (n := 4) (b := t2) (by decide) (by omega)
  rw [p256] at u3
  obtain ⟨sz, t4, q4, l4, u4, z4⟩ := num_front (n := 4) (b := t3) (by decide) (by omega)
  rw [p256] at u4
  obtain ⟨room, t5, q5, l5, u5, z5⟩ := num_front (n := 4) (b := t4) (by decide) (by omega)
  rw [p256] at u5
  obtain ⟨f, t6, q6, l6, u6, z6⟩ := num_front (n := 4) (b := t5) (by decide) (by omega)
  rw [p256] at u6
  obtain ⟨al, t7, q7, l7, u7, z7⟩ := num_front (n := 4) (b := t6) (by decide) (by omega)
  rw [p256] at u7
  refine ⟨k, off, at_, ag, sz, room, f, al, t7, by rw [q0, q1, q2, q3, q4, q5, q6, q7], by omega, ⟨l0, u0⟩, ⟨l1, u1⟩, ⟨l2, u2⟩, ⟨l3, u3⟩, ⟨l4, u4⟩, ⟨l5, u5⟩, ⟨l6, u6⟩, ⟨l7, u7⟩, ?_⟩
  unfold rdSeg
  rw [q0, rdNum_put (by decide) l0 (by rw [p256]; omega)]
  dsimp only
  rw [q1, rdNum_put (by decide) l1 (by rw [p256]; omega)]
  dsimp only
  rw [q2, rdNum_put (by decide) l2 (by rw [p256]; omega)]
  dsimp only
  rw [q3, rdNum_put (by decide) l3 (by rw [p256]; omega)]
  dsimp only
  rw [q4, rdNum_put (by decide) l4 (by rw [p256]; omega)]
  dsimp only
  rw [q5, rdNum_put (by decide) l5 (by rw [p256]; omega)]
  dsimp only
  rw [q6, rdNum_put (by decide) l6 (by rw [p256]; omega)]
  dsimp only
  rw [q7, rdNum_put (by decide) l7 (by rw [p256]; omega)]
  dsimp only
  rw [show wrap64 k = k from w64_id' (by omega) (by omega)]
end Go.Proofs.Ytonoabknmmecnaa.F
end
section
namespace Go.Proofs.Ytonoabknmmecnaa.F
open Go.RowKit Go.Proofs.YtonoabknmmecnaaW.PrintWords Go.Proofs.YtonoabknmmecnaaW.PrintLast Go.Proofs.YtonoabknmmecnaaW.PrintMore
set_option linter.unusedVariables false
set_option linter.unusedSimpArgs false
theorem rdSegs_inv : ∀ {n : Nat} {b : List UInt8} {l : List S39} {s : ByteArray}, rdSegs n (mkB b) = .ok (l, s) → ∃ t, s = mkB t ∧ b = segBytes l ++ t ∧ l.length = n ∧ ∀ x ∈ l, segRead x
  | 0, b, l, s, h => by
    unfold rdSegs at h
    obtain ⟨rfl, rfl⟩ := Prod.mk.inj (Except.ok.inj h)
    exact ⟨b, rfl, rfl, rfl, fun x hx => by simp at hx⟩
  | n + 1, b, l, s, h => by
    unfold rdSegs at h
    cases e1 : rdSeg (mkB b) with
    | error c => rw [e1] at h; cases h
    | ok p =>
    obtain ⟨x, s1⟩ := p
    obtain ⟨t1, rfl, q1, r1⟩ := rdSeg_inv e1
    rw [e1] at h
    dsimp only at h
    cases e2 : rdSegs n (mkB t1) with
    | error c => rw [e2] at h; cases h
    | ok p =>
    obtain ⟨l2, s2⟩ := p
    rw [e2] at h
    obtain ⟨t2, rfl, q2, r2, r3⟩ := rdSegs_inv e2
    obtain ⟨rfl, rfl⟩ := Prod.mk.inj (Except.ok.inj h)
    refine ⟨t2, rfl, ?_, by rw [List.length_cons, r2], fun y hy => ?_⟩
    · rw [segBytes_cons, List.append_assoc, ← q2, q1]
    · rcases List.mem_cons.1 hy with rfl | hy
      · exact r1
      · exact r3 y hy
theorem segs_err : ∀ {n : Nat} {b : List UInt8} {c : Int}, n * 32 ≤ b.length → rdSegs n (mkB b) = .error c → c = 103
  | 0, b, c, _, h => by
    unfold rdSegs at h
    cases h
  | n + 1, b, c, hb, h => by
    unfold rdSegs at h
    obtain ⟨k, off, at_, ag, sz, room, f, al, t, hq, hl, hk, ho, ha, hg, hs, hr, hf, hal, e⟩ := rdSeg_front (b := b) (by omega)
    rw [e] at h
    split at h
    · rename_i c' hc
      split at hc
      · cases hc
      · cases hc
        cases h
        rfl
    · rename_i x s1 hc
      split at hc
      · obtain ⟨rfl, rfl⟩ := Prod.mk.inj (Except.ok.inj hc)
        cases e2 : rdSegs n (mkB t) with
        | error c2 =>
          rw [e2] at h
          cases h
          exact segs_err (by omega) e2
        | ok p => rw [e2] at h; cases h
      · cases hc
end Go.Proofs.Ytonoabknmmecnaa.F
end
section
namespace Go.Proofs.Ytonoabknmmecnaa.F
open Go.RowKit Go.Proofs.YtonoabknmmecnaaW.PrintWords Go.Proofs.YtonoabknmmecnaaW.PrintLast Go.Proofs.YtonoabknmmecnaaW.PrintMore
set_option linter.unusedVariables false
set_option linter.unusedSimpArgs false
theorem hd_front {b : List UInt8} (hb : 36 ≤ b.length) : ∃ kind v1 entry v2 v3 v4 v5 n h z t, b = hd kind v1 entry v2 v3 v4 v5 n h z t ∧ HdR kind v1 entry v2 v3 v4 v5 n h z ∧ t.length = b.length - 36 := by
  obtain ⟨kind, t0, q0, l0, u0, z0⟩ := num_front (n := 4) (b := b) (by decide) (by omega)
  obtain ⟨v1, t1, q1, l1, u1, z1⟩ := num_front (n := 4) (b := t0) (by decide) (by omega)
  obtain ⟨entry, t2, q2, l2, u2, z2⟩ := num_front (n := 4) (b := t1) (by decide) (by omega)
  obtain ⟨v2, t3, q3, l3, u3, z3⟩ := num_front (n := 4) (b := t2) (by decide) (by omega)
  obtain ⟨v3, t4, q4, l4, u4, z4⟩ := num_front (n := 4) (b := t3) (by decide) (by omega)
  obtain ⟨v4, t5, q5, l5, u5, z5⟩ := num_front (n := 4) (b := t4) (by decide) (by omega)
  obtain ⟨v5, t6, q6, l6, u6, z6⟩ := num_front (n := 4) (b := t5) (by decide) (by omega)
  obtain ⟨n, t7, q7, l7, u7, z7⟩ := num_front (n := 2) (b := t6) (by decide) (by omega)
  obtain ⟨h, t8, q8, l8, u8, z8⟩ := num_front (n := 2) (b := t7) (by decide) (by omega)
  obtain ⟨z, t9, q9, l9, u9, z9⟩ := num_front (n := 4) (b := t8) (by decide) (by omega)
  rw [p256] at u0 u1 u2 u3 u4 u5 u6 u9
  rw [p2562] at u7 u8
  refine ⟨kind, v1, entry, v2, v3, v4, v5, n, h, z, t9, ?_, ⟨⟨l0, u0⟩, ⟨l1, u1⟩, ⟨l2, u2⟩, ⟨l3, u3⟩, ⟨l4, u4⟩, ⟨l5, u5⟩, ⟨l6, u6⟩, ⟨l7, u7⟩, ⟨l8, u8⟩, ⟨l9, u9⟩⟩, by omega⟩
  unfold hd
  rw [q0, q1, q2, q3, q4, q5, q6, q7, q8, q9]
end Go.Proofs.Ytonoabknmmecnaa.F
end
section
namespace Go.Proofs.Ytonoabknmmecnaa.F
open Go.RowKit Go.Proofs.YtonoabknmmecnaaW.PrintWords Go.Proofs.YtonoabknmmecnaaW.PrintLast Go.Proofs.YtonoabknmmecnaaW.PrintMore
set_option linter.unusedVariables false
set_option linter.unusedSimpArgs false
theorem rdParse_bad {b : List UInt8} (h : 52 ≤ b.length) (hm : b.take 16 ≠ magicL) : rdParse (mkB b) = .error 102 := by
  unfold rdParse
  rw [mkB_size, if_neg (by omega), mkB_extract, List.drop_zero, Nat.sub_zero, mkB_toList]
  exact if_neg hm
theorem parse_inv {b : List UInt8} {sh : Bool} {entry : Int} {l : List S39} {s : ByteArray} (h : rdParse (mkB b) = .ok ((sh, entry, l), s)) :
    ∃ t, b = wrHead sh entry l.length ++ (segBytes l ++ t) ∧ s = mkB t ∧ l.length ≤ 16 ∧ (0 ≤ entry ∧ entry < 4294967296) ∧ (∀ x ∈ l, segRead x) ∧ l.any unfit = false ∧ inAll (b.length : Int) l = true := by
  by_cases hlen : b.length < 52
  · rw [rdParse_short hlen] at h
    cases h
  · by_cases hm : b.take 16 = magicL
    · obtain ⟨b', rfl⟩ : ∃ b', b = magicL ++ b' := ⟨b.drop 16, by rw [← hm, List.take_append_drop]⟩
      have hl' : 36 ≤ b'.length := by
        rw [List.length_append, show magicL.length = 16 from rfl] at hlen
        omega
      rw [rdParse_magic (by omega)] at h
      obtain ⟨kind, v1, entry', v2, v3, v4, v5, n, hh, z, t, rfl, R, ht⟩ := hd_front hl'
      rw [rdHeader_nums R] at h
      split at h
      · rename_i hok
        obtain ⟨hk, rfl, ⟨rfl, rfl, rfl, rfl⟩, rfl, rfl, hn⟩ := hok
        unfold rdBody at h
        split at h
        · cases h
        · cases e : rdSegs n.toNat (mkB t) with
          | error c => rw [e] at h; cases h
          | ok p =>
          obtain ⟨l', s'⟩ := p
          obtain ⟨t', rfl, rfl, hln, hrd⟩ := rdSegs_inv e
          rw [e] at h
          dsimp only at h
          split at h
          · cases h
          · rename_i hun
            split at h
            · rename_i hin
              obtain ⟨h1, rfl⟩ := Prod.mk.inj (Except.ok.inj h)
              obtain ⟨h2, h3⟩ := Prod.mk.inj h1
              obtain ⟨rfl, rfl⟩ := Prod.mk.inj h3
              have hn2 : n = (l'.length : Int) := by have := R.n.1; omega
              subst hn2
              refine ⟨t', ?_, rfl, by omega, R.entry, hrd, by simpa using hun, hin⟩
              rw [wrHead_hd, ← h2]
              rcases hk with rfl | rfl <;> rfl
            · cases h
      · cases h
    · rw [rdParse_bad (by omega) hm] at h
      cases h
end Go.Proofs.Ytonoabknmmecnaa.F
end
section
namespace Go.Proofs.Ytonoabknmmecnaa.F
open Go.RowKit Go.Proofs.YtonoabknmmecnaaW.PrintWords Go.Proofs.YtonoabknmmecnaaW.PrintLast Go.Proofs.YtonoabknmmecnaaW.PrintMore
set_option linter.unusedVariables false
set_option linter.unusedSimpArgs false
theorem to_mkB (s : ByteArray) : ∃ b : List UInt8, s = mkB b ∧ b.length = s.size := ⟨s.data.toList, mkB_data s, by rw [Array.length_toList]; rfl⟩
end Go.Proofs.Ytonoabknmmecnaa.F
end
