import Derived.Below
import Derived.Deep.Draws
import Derived.Deep.AppendLies
import Derived.Maps.AppendAt
import Derived.OwnWalk
import Derived.Laws.BytesArg
import Derived.Laws.MakeOwn
import Derived.Laws.OwnMore
import Derived.Deep.OwnRows
import Derived.Tactics
import Derived.Lib.ConvBytes
import Derived.Laws.Slices
import Derived.WalkKit
import Derived.KernelRfl
import Derived.RowKit3
import Derived.Deep.LoopGhost
import Derived.Deep.QuietTactic
import Derived.BigQuiet
import Derived.WideLaws
import Derived.Deep.DeepCutAuto
import Derived.Deep.CutBlock
import Derived.Deep.RegionHeld3
import Derived.Laws.Rows
import Derived.Lib.AppendStr
import Derived.ArgAppend
import Derived.Laws.IdiomCopy
import Derived.RowKit
import Derived.OrdersHeld
import Derived.Laws.BitsLemmas
import Derived.Laws.StructEq
import Derived.Shelf.Strings.Builder1
import Derived.Shelf.Strings.BuilderF
import Derived.Shelf.Strings.BuilderK
import Derived.RangeFuncNested
import Derived.RangeFuncBound
import Derived.RangeFuncCalls
import Derived.RangeFuncLeaves
import Derived.RangeFuncWrites
import Derived.Shelf.Abstract
import Derived.Shelf.RegionOpen
import Derived.OwnWalkIn
import Derived.TacticsInMore
import Derived.LoopNIn
import Derived.LoopIn
import Derived.Lib.Hide
import Derived.WalkLawsBesides
import Derived.WalkSmall
import Derived.Laws.ResultCell
import Derived.RangeFuncRecord
import Derived.ProofKit
import Derived.Deep.RegionWith
import Derived.Lib.Builder
import Derived.Lib.UnsafeStr
import Derived.Test.YtonoabknmmecnaaZF0
import Derived.Test.YtonoabknmmecnaaYA3HSwap
import Derived.Test.YtonoabknmmecnaaYA4
import Derived.Test.YtonoabknmmecnaaYA5HElf2
import Derived.Test.YtonoabknmmecnaaYA7HElf4
import Derived.Test.YtonoabknmmecnaaYA9HElf6
section
namespace Go.Proofs.Ytonoabknmmecnaa.F
open Go.RowKit Go.Shelf Go.Proofs.YtonoabknmmecnaaW.PrintWords Go.Proofs.YtonoabknmmecnaaW.PrintLast Go.Proofs.YtonoabknmmecnaaW.PrintMore
set_option linter.unusedVariables false
set_option linter.unusedSimpArgs false
def wrNum (n : Nat) (v : Int) : List UInt8 := (leBytes (IntKind.u64.wrap v) n).reverse
def wrNums (n : Nat) (l : List Int) : List UInt8 := l.flatMap (wrNum n)
theorem wrNum_length (n : Nat) (v : Int) : (wrNum n v).length = n := by simp [wrNum, leBytes_length]
theorem wrNums_length (n : Nat) : ∀ l : List Int, (wrNums n l).length = l.length * n
  | [] => by simp [wrNums]
  | x :: l => by
    have ih := wrNums_length n l
    have h1 : wrNums n (x :: l) = wrNum n x ++ wrNums n l := rfl
    rw [h1, List.length_append, wrNum_length, ih, List.length_cons, Nat.succ_mul]
    omega
theorem wrNums_cons (n : Nat) (x : Int) (l : List Int) : wrNums n (x :: l) = wrNum n x ++ wrNums n l := rfl
theorem wrNums_take (n : Nat) : ∀ (l : List Int) (k : Nat) (h : k < l.length), wrNums n (l.take (k + 1)) = wrNums n (l.take k) ++ wrNum n l[k]
  | x :: l, 0, _ => by simp [wrNums]
  | x :: l, k + 1, h => by
    have ih := wrNums_take n l k (by simpa using h)
    rw [List.take_succ_cons, wrNums_cons, ih, List.take_succ_cons, wrNums_cons, List.append_assoc]
    rfl
theorem wr_putBe (v : Int) (n : Nat) (hn : n ≤ 8) : swap_PutBe.f (IntKind.u64.wrap v) (n : Int) = some ⟨(wrNum n v).toArray⟩ := by
  unfold swap_PutBe.f swap_PutLe.f
  rw [if_neg (by omega), if_neg (by omega), Int.toNat_natCast]
  rfl
theorem str_cells (l : List UInt8) : Lib.strCells ⟨l.toArray⟩ = Lib.byteCells l := by simp [Lib.strCells, Lib.byteCells]
theorem cells_append (l m : List UInt8) : Lib.byteCells l ++ Lib.byteCells m = Lib.byteCells (l ++ m) := by simp [Lib.byteCells]
theorem WrB.below {B b : Nat} {bs : List Value} {w w' : World} (h : WrB B b bs w) (hb : Below w.heap.size w w') : WrB B b bs w' := isBuilder_below h hb
set_option maxHeartbeats 1000000 in
set_option maxRecDepth 100000 in
theorem writer_put.calls (B b g n : Nat) (pre : List UInt8) (l : List Int) (w : World) (hI : WrB B b (Lib.byteCells pre) w) (hg : w.heap[g]? = some (.cells (l.map (Value.int .u32)).toArray 22 (0, 0))) (hgb : g ≠ b) (hn : n ≤ 8) (hl : l.length < 1000000) (hp : pre.length < 1000000000) (hBw : B ≤ w.heap.size) :
    Calls Try.prog 26 #[.pointer (some ⟨b, 0, none⟩), .int .i64 (n : Int), .slice (some ⟨g, 0, none⟩) l.length l.length] w fun e w' => e = .returned (.tuple #[]) ∧ (WrB B b (Lib.byteCells (pre ++ wrNums n l)) w' ∧ Below B w w') ∧ Keeps b w w' := by
  have HG := Lib.hid hg
  have HI := Lib.hid hI
  have RR := Lib.hid (fun (W : World) (h : W.heap[g]? = some (.cells (l.map (Value.int .u32)).toArray 22 (0, 0))) => row_read h hl)
  clear hg hI
  generalize (⟨g, 0, none⟩ : Addr) = G at RR ⊢
  go_enter Try.func26, Try.ntmps26
  go_wp2
  go_loopw [10] (fun t wr => ∃ (k : Nat), t = .int .i64 k ∧ k ≤ l.length ∧ WrB B b (Lib.byteCells (pre ++ wrNums n (l.take k))) wr ∧ Below B w wr ∧ Keeps b w wr) (fun t _ => l.length - (intOf t).toNat)
  case atStart => exact ⟨0, rfl, Nat.zero_le _, by simpa [wrNums] using HI.out, Below.refl _ _, Keeps.refl _ _⟩
  case round =>
    obtain ⟨k, rfl, hk, hW, hB, hK⟩ := hrel
    by_cases hlt : k < l.length
    · have hgr := hK g _ _ _ HG.out (by decide) hgb
      obtain ⟨ad, had, c0⟩ := Kd.at_int (RR.out _ hgr) (k : Int) (by omega) (by omega)
      obtain rfl := Option.some.inj had
      have hx : rd l (k : Int) = l[k] := by
        unfold rd
        simp [hlt]
      rw [hx, Int.toNat_natCast] at c0
      have HW := Lib.hid hW
      have HB := Lib.hid hB
      have HK := Lib.hid hK
      clear hgr hx hW hB hK
      have PB := Lib.hid (fun w => swap_PutBe.calls (IntKind.u64.wrap l[k]) (n : Int) _ w (wr_putBe _ n hn))
      have FIN : ∀ w9, WrB B b (Lib.byteCells (pre ++ wrNums n (l.take k)) ++ Lib.strCells ⟨(wrNum n l[k]).toArray⟩) w9 → WrB B b (Lib.byteCells (pre ++ wrNums n (l.take (k + 1)))) w9 := by
        intro w9 h9
        rw [str_cells, cells_append, List.append_assoc] at h9
        rw [wrNums_take n l k hlt]
        exact h9
      go_wp2_with (fail)
      refine wp_region_any (by kernel_rfl) ?_
      try (change wpAny _ _ _ _ _ _ _ (World.drew _))
      refine wpAny_take (i := 0) (v := ?_) rfl (by kernel_rfl) (by kernel_rfl) (by kernel_rfl) (fun _ _ _ h => h) (Or.inl ⟨by rfl, ?_⟩) ?_
      rotate_left
      · intro w'
        go_simp
        with_reducible rfl
      refine wpAny_take (i := 1) (v := ?_) rfl (by kernel_rfl) (by kernel_rfl) (by kernel_rfl) (fun _ _ _ h => h) (Or.inl ⟨by rfl, ?_⟩) ?_
      rotate_left
      · intro w'
        go_simp
        with_reducible rfl
      refine wpAny_take (i := 2) (v := ?_) rfl (by kernel_rfl) (by kernel_rfl) (by kernel_rfl) (fun _ _ _ h => h) (Or.inl ⟨by rfl, ?_⟩) ?_
      rotate_left
      · intro w'
        go_simp
        with_reducible rfl
      refine wpAny_take (i := 3) (v := ?_) rfl (by kernel_rfl) (by kernel_rfl) (by kernel_rfl) (fun _ _ _ h => h) (Or.inl ⟨by rfl, ?_⟩) ?_
      rotate_left
      · intro w'
        go_simp
        with_reducible rfl
      refine wpAny_take (i := 4) (v := ?_) rfl (by kernel_rfl) (by kernel_rfl) (by kernel_rfl) (fun _ _ _ h => h) (Or.inl ⟨by rfl, ?_⟩) ?_
      rotate_left
      · intro w'
        go_simp
        with_reducible rfl
      refine wpAny_take (i := 5) (v := ?_) rfl (by kernel_rfl) (by kernel_rfl) (by kernel_rfl) (fun _ _ _ h => h) (Or.inl ⟨by rfl, ?_⟩) ?_
      rotate_left
      · intro w'
        go_simp
        with_reducible rfl
      refine wpAny_ready (rs := [6]) (by kernel_rfl) (by simp) ?_
      refine AllReady.cons rfl (fun K hK => ?_) AllReady.nil
      go_simp
      go_wp2_with (go_at_call 42; refine (PB.out _).mono ?_; rintro e w11 ⟨rfl, hb1⟩)
      have hb2 : Below wr.heap.size wr w11 := (Below.drew (Below.refl _ wr)).trans hb1
      have hlen : (Lib.byteCells (pre ++ wrNums n (l.take k))).length + (ByteArray.mk (wrNum n l[k]).toArray).size ≤ 140737488355328 := by
        rw [Lib.byteCells_length, List.length_append, wrNums_length, List.length_take]
        have h1 : (ByteArray.mk (wrNum n l[k]).toArray).size = n := by simp [ByteArray.size, wrNum_length]
        rw [h1]
        have h2 : min k l.length * n ≤ 1000000 * 8 := Nat.mul_le_mul (by omega) hn
        omega
      have WS := Lib.hid (wr_string.calls B b _ _ w11 (HW.out.below hb2) hlen (by have := HB.out.size; have := hb2.size; omega))
      have HB2 := Lib.hid hb2
      clear hb1 hb2 hlen PB
      refine wpAny_ready (rs := [7]) (by kernel_rfl) (by simp) ?_
      refine AllReady.cons rfl (fun K hK => ?_) AllReady.nil
      go_simp
      go_wp2_with (go_at_call 25; refine WS.out.mono ?_; rintro e w12 ⟨rfl, ⟨hW3, hB3⟩, hK3⟩)
      refine wpAny_done (by kernel_rfl) ?_ _
      have HW3 := Lib.hid hW3
      have HB3 := Lib.hid hB3
      have HK3 := Lib.hid hK3
      clear hW3 hB3 hK3 WS
      go_wp2
      refine ⟨⟨k + 1, by go_num, hlt, FIN _ HW3.out, ?_, ?_⟩, by simp [intOf]; omega⟩
      · exact (HB.out.trans (HB2.out.mono (Nat.le_trans hBw HB.out.size))).trans HB3.out
      · exact (HK.out.trans (Keeps.of_below HB2.out)).trans HK3.out
    · have e4 : k = l.length := by omega
      subst e4
      rw [List.take_length] at hW
      have HW := Lib.hid hW
      have HB := Lib.hid hB
      have HK := Lib.hid hK
      clear hW hB hK
      go_wp2
      go_end0
      exact ⟨rfl, ⟨HW.out, HB.out⟩, HK.out⟩
end Go.Proofs.Ytonoabknmmecnaa.F
end
