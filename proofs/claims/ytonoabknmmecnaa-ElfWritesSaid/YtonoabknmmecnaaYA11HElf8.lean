import Derived.Below
import Derived.Deep.Draws
import Derived.Deep.AppendLies
import Derived.Maps.AppendAt
import Derived.OwnWalk
import Derived.Laws.BytesArg
import Derived.Laws.MakeOwn
import Derived.Laws.OwnMore
import Derived.Deep.OwnRows
import Derived.Tactics
import Derived.Lib.ConvBytes
import Derived.Laws.Slices
import Derived.WalkKit
import Derived.KernelRfl
import Derived.RowKit3
import Derived.Deep.LoopGhost
import Derived.Deep.QuietTactic
import Derived.BigQuiet
import Derived.WideLaws
import Derived.Deep.DeepCutAuto
import Derived.Deep.CutBlock
import Derived.Deep.RegionHeld3
import Derived.Laws.Rows
import Derived.Lib.AppendStr
import Derived.ArgAppend
import Derived.Laws.IdiomCopy
import Derived.RowKit
import Derived.OrdersHeld
import Derived.Laws.BitsLemmas
import Derived.Laws.StructEq
import Derived.Shelf.Strings.Builder1
import Derived.Shelf.Strings.BuilderF
import Derived.Shelf.Strings.BuilderK
import Derived.RangeFuncNested
import Derived.RangeFuncBound
import Derived.RangeFuncCalls
import Derived.RangeFuncLeaves
import Derived.RangeFuncWrites
import Derived.Shelf.Abstract
import Derived.Shelf.RegionOpen
import Derived.OwnWalkIn
import Derived.TacticsInMore
import Derived.LoopNIn
import Derived.LoopIn
import Derived.Lib.Hide
import Derived.WalkLawsBesides
import Derived.WalkSmall
import Derived.Laws.ResultCell
import Derived.RangeFuncRecord
import Derived.ProofKit
import Derived.Deep.RegionWith
import Derived.Lib.Builder
import Derived.Lib.UnsafeStr
import Derived.StillTailTactics
import Derived.Test.YtonoabknmmecnaaZF0
import Derived.Test.YtonoabknmmecnaaYA0
import Derived.Test.YtonoabknmmecnaaYA4
import Derived.Test.YtonoabknmmecnaaYA5HElf2
import Derived.Test.YtonoabknmmecnaaYA6HElf3
import Derived.Test.YtonoabknmmecnaaYA7HElf4
import Derived.Test.YtonoabknmmecnaaYA9HElf6
import Derived.Test.YtonoabknmmecnaaYA10HElf7
section
namespace Go.Proofs.Ytonoabknmmecnaa.F
open Go.RowKit Go.Shelf Go.Proofs.YtonoabknmmecnaaW.PrintWords Go.Proofs.YtonoabknmmecnaaW.PrintLast Go.Proofs.YtonoabknmmecnaaW.PrintMore
set_option linter.unusedVariables false
set_option linter.unusedSimpArgs false
theorem put_new (B b g m n : Nat) (z : Int) (pre : List UInt8) (l : List Int) (cells : Array Value) (W : World) (hz : z = (n : Int)) (hI : WrB B b (Lib.byteCells pre) W) (hg : W.heap.size = g) (hm : l.length = m) (hcl : (l.map (Value.int .u32)).toArray = cells) (hn : n ≤ 8) (hl : l.length < 1000000) (hp : pre.length < 1000000000) (hBw : B ≤ W.heap.size) :
    Calls Try.prog 26 #[.pointer (some ⟨b, 0, none⟩), .int .i64 z, .slice (some ⟨g, 0, none⟩) m m] (W.alloc (.cells cells 22)) fun e w' => e = .returned (.tuple #[]) ∧ (WrB B b (Lib.byteCells (pre ++ wrNums n l)) w' ∧ Below B W w') ∧ Keeps b W w' := by
  subst hz hg hm hcl
  have hb : Below W.heap.size W (W.alloc (.cells (l.map (Value.int .u32)).toArray 22)) := (Below.refl _ W).alloc (Nat.le_refl _) _
  have hlt : b < W.heap.size := by
    rcases hI with h | h
    · obtain ⟨_, v, hb, _⟩ := h
      exact eblk_lt hb
    · obtain ⟨_, v, hb, _⟩ := h
      exact eblk_lt hb
  refine (writer_put.calls B b W.heap.size n pre l _ (hI.below hb) (World.alloc_heap_new W _) (by omega) hn hl hp (by rw [World.size_alloc]; omega)).mono ?_
  rintro e w' ⟨rfl, ⟨h1, h2⟩, h3⟩
  exact ⟨rfl, ⟨h1, (hb.mono hBw).trans h2⟩, (Keeps.of_below hb).trans h3⟩
def wrSeg (x : S39) : List Int := [IntKind.u32.wrap x.f0, x.f1, x.f2, x.f2, x.f3, x.f4, IntKind.u32.wrap ((elf_turned.f x.f5).getD 0), x.f6]
def wrHead (sh : Bool) (entry : Int) (n : Int) : List UInt8 := [127, 69, 76, 70, 1, 2, 1, 0, 0, 0, 0, 0, 0, 0, 0, 0] ++ wrNums 2 [(if sh then 3 else 2), 8] ++ wrNums 4 [1, entry, 52, 0, 1879052288] ++ wrNums 2 [52, 32, n, 0, 0, 0]
set_option maxHeartbeats 1000000 in
set_option maxRecDepth 100000 in
theorem turned_still (a0 : Int) (r : Int) (w : World) (h : elf_turned.f a0 = some r) :
    Calls Try.prog 24 #[.int .i64 a0] w fun e w' => e = .returned (.int .i64 r) ∧ w' = w := by
  have H := Option.some.inj h
  clear h
  go_enter Try.func24, Try.ntmps24
  go_wp2
  go_ret
  exact ⟨by rw [← H]; rfl, rfl⟩
set_option maxHeartbeats 1000000 in
set_option maxRecDepth 100000 in
theorem write_fit (SH : Bool) (entry : Int) (A : Option Addr) (c : Nat) (l : List S39) (w : World) (hC : Kd.C k39 w A l.length l) (hlc : l.length ≤ c) (h16 : l.length ≤ 16) (hfit : l.any unfit = false) :
    Calls Try.prog 13 #[.agg #[.bool SH, .int .u32 entry, .slice A l.length c]] w fun e w' => e = .returned (.string ⟨(wrHead SH entry l.length ++ l.flatMap (fun x => wrNums 4 (wrSeg x))).toArray⟩) ∧ Below w.heap.size w w' := by
  have HF : elf_Fit.f SH entry l = some (!(l.any unfit)) := by unfold elf_Fit.f; rw [if_pos (by omega)]
  rw [hfit] at HF
  have hB0 : Below w.heap.size w (w.alloc (.cells #[.bool SH, .int .u32 entry, .slice A l.length c] 26)) := (Below.refl _ w).alloc (Nat.le_refl _) _
  have FT := Lib.hid (elf_Fit.calls SH entry A c l _ _ (Kd.C_below hC hB0) hlc HF)
  have hc0 : (w.alloc (.cells #[.bool SH, .int .u32 entry, .slice A l.length c] 26)).heap[w.heap.size]? = some (.cells #[.bool SH, .int .u32 entry, .slice A l.length c] 26 (0, 0)) := World.alloc_heap_new w _
  have E0 := Lib.hid hc0
  have HB0 := Lib.hid hB0
  have HC0 := Lib.hid (Kd.C_below hC hB0)
  have hsz0 := World.size_alloc w (.cells #[.bool SH, .int .u32 entry, .slice A l.length c] 26)
  have SZ0 := Lib.hid hsz0
  clear hC HF hc0 hB0 hsz0
  go_enter Try.func13, Try.ntmps13
  cases SH
  · go_wp2_with (fail)
    refine FT.out.mono ?_
    rintro e w1 ⟨rfl, hb⟩
    have E1 := Lib.hid ((hb.block w.heap.size (eblk_lt E0.out)).trans E0.out)
    have HB1 := Lib.hid (HB0.out.trans (hb.mono HB0.out.size))
    have HC1 := Lib.hid (Kd.C_below HC0.out hb)
    have S1 := Lib.hid (show w.heap.size < w1.heap.size from eblk_lt E1.out)
    clear hb E0 HB0 HC0 SZ0 FT
    have hI0 : WrB w1.heap.size w1.heap.size (Lib.byteCells []) (w1.alloc (.cells #[.pointer none, .slice none 0 0] 60)) := Lib.fresh_isBuilder 60 5 w1
    have I0 := Lib.hid hI0
    have B0 := Lib.hid ((Below.refl _ w1).alloc (Nat.le_refl _) (.cells #[.pointer none, .slice none 0 0] 60))
    clear hI0
    have q0 := eblk_cell (j := 0) ((B0.out.block w.heap.size S1.out).trans E1.out) rfl; have q1 := eblk_cell (j := 1) ((B0.out.block w.heap.size S1.out).trans E1.out) rfl; have q2 := eblk_cell (j := 2) ((B0.out.block w.heap.size S1.out).trans E1.out) rfl
    go_wp2_with (fail)
    refine (wr_string.calls w1.heap.size w1.heap.size _ _ _ I0.out (by simp [Lib.byteCells, ByteArray.size]) B0.out.size).mono ?_
    rintro e w2 ⟨rfl, ⟨h1, h2⟩, _⟩
    have I1 := Lib.hid (show WrB w1.heap.size w1.heap.size (Lib.byteCells [127, 69, 76, 70, 1, 2, 1, 0, 0, 0, 0, 0, 0, 0, 0, 0]) w2 from h1)
    have B1 := Lib.hid (B0.out.trans h2)
    clear h1 h2 I0 B0 q0 q1 q2
    have q0 := eblk_cell (j := 0) ((B1.out.block w.heap.size S1.out).trans E1.out) rfl; have q1 := eblk_cell (j := 1) ((B1.out.block w.heap.size S1.out).trans E1.out) rfl; have q2 := eblk_cell (j := 2) ((B1.out.block w.heap.size S1.out).trans E1.out) rfl
    go_wp2_with (fail)
    refine (put_new w1.heap.size w1.heap.size w2.heap.size 2 2 2 ([127, 69, 76, 70, 1, 2, 1, 0, 0, 0, 0, 0, 0, 0, 0, 0]) [2, 8] _ w2 rfl I1.out rfl rfl rfl (by omega) (by simp) (by simp [wrNums_length]) B1.out.size).mono ?_
    rintro e w3 ⟨rfl, ⟨h1, h2⟩, _⟩
    have I2 := Lib.hid h1
    have B2 := Lib.hid (B1.out.trans h2)
    clear h1 h2 I1 B1 q0 q1 q2
    have q0 := eblk_cell (j := 0) ((B2.out.block w.heap.size S1.out).trans E1.out) rfl; have q1 := eblk_cell (j := 1) ((B2.out.block w.heap.size S1.out).trans E1.out) rfl; have q2 := eblk_cell (j := 2) ((B2.out.block w.heap.size S1.out).trans E1.out) rfl
    go_wp2_with (fail)
    refine (put_new w1.heap.size w1.heap.size w3.heap.size 5 4 4 ([127, 69, 76, 70, 1, 2, 1, 0, 0, 0, 0, 0, 0, 0, 0, 0] ++ wrNums 2 [2, 8]) [1, entry, 52, 0, 1879052288] _ w3 rfl I2.out rfl rfl rfl (by omega) (by simp) (by simp [wrNums_length]) B2.out.size).mono ?_
    rintro e w4 ⟨rfl, ⟨h1, h2⟩, _⟩
    have I3 := Lib.hid h1
    have B3 := Lib.hid (B2.out.trans h2)
    clear h1 h2 I2 B2 q0 q1 q2
    have q0 := eblk_cell (j := 0) ((B3.out.block w.heap.size S1.out).trans E1.out) rfl; have q1 := eblk_cell (j := 1) ((B3.out.block w.heap.size S1.out).trans E1.out) rfl; have q2 := eblk_cell (j := 2) ((B3.out.block w.heap.size S1.out).trans E1.out) rfl
    go_wp2_with (fail)
    refine (put_new w1.heap.size w1.heap.size w4.heap.size 6 2 2 ([127, 69, 76, 70, 1, 2, 1, 0, 0, 0, 0, 0, 0, 0, 0, 0] ++ wrNums 2 [2, 8] ++ wrNums 4 [1, entry, 52, 0, 1879052288]) [52, 32, (l.length : Int), 0, 0, 0] _ w4 rfl I3.out rfl rfl rfl (by omega) (by simp) (by simp [wrNums_length]) B3.out.size).mono ?_
    rintro e w5 ⟨rfl, ⟨h1, h2⟩, _⟩
    have I4 := Lib.hid h1
    have B4 := Lib.hid (B3.out.trans h2)
    clear h1 h2 I3 B3 q0 q1 q2
    have IH := Lib.hid (show WrB w1.heap.size w1.heap.size (Lib.byteCells (wrHead false entry (l.length : Int))) w5 from I4.out)
    clear I4
    have q0 := eblk_cell (j := 0) ((B4.out.block w.heap.size S1.out).trans E1.out) rfl; have q1 := eblk_cell (j := 1) ((B4.out.block w.heap.size S1.out).trans E1.out) rfl; have q2 := eblk_cell (j := 2) ((B4.out.block w.heap.size S1.out).trans E1.out) rfl
    go_wp2
    clear q0 q1 q2
    go_loopw [30] (fun t wr => ∃ k : Nat, t = .int .i64 k ∧ k ≤ l.length ∧ WrB w1.heap.size w1.heap.size (Lib.byteCells (wrHead false entry (l.length : Int) ++ (l.take k).flatMap (fun x => wrNums 4 (wrSeg x)))) wr ∧ Below w1.heap.size w1 wr) (fun t _ => l.length - (intOf t).toNat)
    case atStart => exact ⟨0, rfl, Nat.zero_le _, by simpa using IH.out, B4.out⟩
    case round =>
      obtain ⟨k, rfl, hk, hW, hBk⟩ := hrel
      by_cases hlt : k < l.length
      · obtain ⟨ad, rfl, c0, c1, c2, c3, c4, c5, c6⟩ := at_T39 (Kd.C_below HC1.out hBk) (k : Int) (by omega) (by omega)
        have hx : rd_T39 l (k : Int) = l[k] := by
          unfold rd_T39
          simp [hlt]
        rw [hx, Int.toNat_natCast] at c0 c1 c2 c3 c4 c5 c6
        have HWk := Lib.hid hW
        have HBk := Lib.hid hBk
        have TS := Lib.hid (fun (x : Int) w => turned_still x _ w rfl)
        have mixed : Try.prog.follows Departure.mixedOrders = true := by kernel_rfl
        clear hW hBk hx IH B4
        go_wp2_with (fail)
        obtain ⟨W2, hW2⟩ : ∃ W2, W2 = wr.alloc (.cells #[.int .i64 l[k].f0, .int .u32 l[k].f1, .int .u32 l[k].f2, .int .u32 l[k].f3, .int .u32 l[k].f4, .int .i64 l[k].f5, .int .u32 l[k].f6] 39) := ⟨_, rfl⟩
        rw [← hW2]
        have hc2 : W2.heap[wr.heap.size]? = some (.cells #[.int .i64 l[k].f0, .int .u32 l[k].f1, .int .u32 l[k].f2, .int .u32 l[k].f3, .int .u32 l[k].f4, .int .i64 l[k].f5, .int .u32 l[k].f6] 39 (0, 0)) := by rw [hW2]; exact World.alloc_heap_new _ _
        have hb2 : Below wr.heap.size wr W2.drew := by rw [hW2]; exact ((Below.refl _ wr).alloc (Nat.le_refl _) _).drew
        have z0 : W2.cell? ⟨wr.heap.size, 0, none⟩ = some (.int .i64 l[k].f0) := eblk_cell (j := 0) hc2 rfl
        have z1 : W2.cell? ⟨wr.heap.size, 1, none⟩ = some (.int .u32 l[k].f1) := eblk_cell (j := 1) hc2 rfl
        have z2 : W2.cell? ⟨wr.heap.size, 2, none⟩ = some (.int .u32 l[k].f2) := eblk_cell (j := 2) hc2 rfl
        have z3 : W2.cell? ⟨wr.heap.size, 3, none⟩ = some (.int .u32 l[k].f3) := eblk_cell (j := 3) hc2 rfl
        have z4 : W2.cell? ⟨wr.heap.size, 4, none⟩ = some (.int .u32 l[k].f4) := eblk_cell (j := 4) hc2 rfl
        have z5 : W2.cell? ⟨wr.heap.size, 5, none⟩ = some (.int .i64 l[k].f5) := eblk_cell (j := 5) hc2 rfl
        have z6 : W2.cell? ⟨wr.heap.size, 6, none⟩ = some (.int .u32 l[k].f6) := eblk_cell (j := 6) hc2 rfl
        have HB2 := Lib.hid hb2
        clear hb2 hc2 hW2
        go_still_tail 19, mixed
        still_call (TS.out _ _)
        repeat still_step
        try refine wpStill_nil ?_
        have hI2 := HWk.out.below HB2.out
        have hL : (wrHead false entry (l.length : Int) ++ (l.take k).flatMap (fun x => wrNums 4 (wrSeg x))).length < 1000000000 := by
          have h1 : ∀ m : List S39, (m.flatMap (fun x => wrNums 4 (wrSeg x))).length = m.length * 32 := fun m => by
            induction m with
            | nil => rfl
            | cons x m ih => rw [List.flatMap_cons, List.length_append, ih, wrNums_length, List.length_cons, show (wrSeg x).length = 8 from rfl, Nat.succ_mul]; omega
          rw [List.length_append, h1, List.length_take]
          have h2 : (wrHead false entry (l.length : Int)).length = 52 := by simp [wrHead, wrNums_length]
          omega
        have PN := Lib.hid (put_new w1.heap.size w1.heap.size W2.drew.heap.size 8 4 4 _ (wrSeg l[k]) _ W2.drew rfl hI2 rfl rfl rfl (by omega) (by simp [wrSeg]) hL (by have := HBk.out.size; have := HB2.out.size; omega))
        clear hI2 hL z0 z1 z2 z3 z4 z5 z6
        go_wp2_with (fail)
        refine PN.out.mono ?_
        rintro e w8 ⟨rfl, ⟨h1, h2⟩, _⟩
        have h3 : WrB w1.heap.size w1.heap.size (Lib.byteCells (wrHead false entry (l.length : Int) ++ (l.take (k + 1)).flatMap (fun x => wrNums 4 (wrSeg x)))) w8 := by
          rw [List.take_succ_eq_append_getElem hlt, List.flatMap_append, List.flatMap_cons, List.flatMap_nil, List.append_nil, ← List.append_assoc]
          exact h1
        have H3 := Lib.hid h3
        have B3 := Lib.hid ((HBk.out.trans (HB2.out.mono HBk.out.size)).trans h2)
        clear h1 h2 h3 PN
        go_wp2
        exact ⟨⟨k + 1, by go_num, hlt, H3.out, B3.out⟩, by simp [intOf]; omega⟩
      · have e4 : k = l.length := by omega
        subst e4
        rw [List.take_length] at hW
        have HWk := Lib.hid hW
        have HBk := Lib.hid hBk
        clear hW hBk IH B4
        go_wp2_with (fail)
        refine (wr_str.calls _ _ _ _ HWk.out (by simp [wrHead])).mono ?_
        rintro e w7 ⟨rfl, hb7⟩
        have HB7 := Lib.hid hb7
        clear hb7
        go_wp2
        go_ret
        exact ⟨rfl, HB1.out.trans ((HBk.out.trans HB7.out).mono HB1.out.size)⟩
  · go_wp2_with (fail)
    refine FT.out.mono ?_
    rintro e w1 ⟨rfl, hb⟩
    have E1 := Lib.hid ((hb.block w.heap.size (eblk_lt E0.out)).trans E0.out)
    have HB1 := Lib.hid (HB0.out.trans (hb.mono HB0.out.size))
    have HC1 := Lib.hid (Kd.C_below HC0.out hb)
    have S1 := Lib.hid (show w.heap.size < w1.heap.size from eblk_lt E1.out)
    clear hb E0 HB0 HC0 SZ0 FT
    have hI0 : WrB w1.heap.size w1.heap.size (Lib.byteCells []) (w1.alloc (.cells #[.pointer none, .slice none 0 0] 60)) := Lib.fresh_isBuilder 60 5 w1
    have I0 := Lib.hid hI0
    have B0 := Lib.hid ((Below.refl _ w1).alloc (Nat.le_refl _) (.cells #[.pointer none, .slice none 0 0] 60))
    clear hI0
    have q0 := eblk_cell (j := 0) ((B0.out.block w.heap.size S1.out).trans E1.out) rfl; have q1 := eblk_cell (j := 1) ((B0.out.block w.heap.size S1.out).trans E1.out) rfl; have q2 := eblk_cell (j := 2) ((B0.out.block w.heap.size S1.out).trans E1.out) rfl
    go_wp2_with (fail)
    refine (wr_string.calls w1.heap.size w1.heap.size _ _ _ I0.out (by simp [Lib.byteCells, ByteArray.size]) B0.out.size).mono ?_
    rintro e w2 ⟨rfl, ⟨h1, h2⟩, _⟩
    have I1 := Lib.hid (show WrB w1.heap.size w1.heap.size (Lib.byteCells [127, 69, 76, 70, 1, 2, 1, 0, 0, 0, 0, 0, 0, 0, 0, 0]) w2 from h1)
    have B1 := Lib.hid (B0.out.trans h2)
    clear h1 h2 I0 B0 q0 q1 q2
    have q0 := eblk_cell (j := 0) ((B1.out.block w.heap.size S1.out).trans E1.out) rfl; have q1 := eblk_cell (j := 1) ((B1.out.block w.heap.size S1.out).trans E1.out) rfl; have q2 := eblk_cell (j := 2) ((B1.out.block w.heap.size S1.out).trans E1.out) rfl
    go_wp2_with (fail)
    refine (put_new w1.heap.size w1.heap.size w2.heap.size 2 2 2 ([127, 69, 76, 70, 1, 2, 1, 0, 0, 0, 0, 0, 0, 0, 0, 0]) [3, 8] _ w2 rfl I1.out rfl rfl rfl (by omega) (by simp) (by simp [wrNums_length]) B1.out.size).mono ?_
    rintro e w3 ⟨rfl, ⟨h1, h2⟩, _⟩
    have I2 := Lib.hid h1
    have B2 := Lib.hid (B1.out.trans h2)
    clear h1 h2 I1 B1 q0 q1 q2
    have q0 := eblk_cell (j := 0) ((B2.out.block w.heap.size S1.out).trans E1.out) rfl; have q1 := eblk_cell (j := 1) ((B2.out.block w.heap.size S1.out).trans E1.out) rfl; have q2 := eblk_cell (j := 2) ((B2.out.block w.heap.size S1.out).trans E1.out) rfl
    go_wp2_with (fail)
    refine (put_new w1.heap.size w1.heap.size w3.heap.size 5 4 4 ([127, 69, 76, 70, 1, 2, 1, 0, 0, 0, 0, 0, 0, 0, 0, 0] ++ wrNums 2 [3, 8]) [1, entry, 52, 0, 1879052288] _ w3 rfl I2.out rfl rfl rfl (by omega) (by simp) (by simp [wrNums_length]) B2.out.size).mono ?_
    rintro e w4 ⟨rfl, ⟨h1, h2⟩, _⟩
    have I3 := Lib.hid h1
    have B3 := Lib.hid (B2.out.trans h2)
    clear h1 h2 I2 B2 q0 q1 q2
    have q0 := eblk_cell (j := 0) ((B3.out.block w.heap.size S1.out).trans E1.out) rfl; have q1 := eblk_cell (j := 1) ((B3.out.block w.heap.size S1.out).trans E1.out) rfl; have q2 := eblk_cell (j := 2) ((B3.out.block w.heap.size S1.out).trans E1.out) rfl
    go_wp2_with (fail)
    refine (put_new w1.heap.size w1.heap.size w4.heap.size 6 2 2 ([127, 69, 76, 70, 1, 2, 1, 0, 0, 0, 0, 0, 0, 0, 0, 0] ++ wrNums 2 [3, 8] ++ wrNums 4 [1, entry, 52, 0, 1879052288]) [52, 32, (l.length : Int), 0, 0, 0] _ w4 rfl I3.out rfl rfl rfl (by omega) (by simp) (by simp [wrNums_length]) B3.out.size).mono ?_
    rintro e w5 ⟨rfl, ⟨h1, h2⟩, _⟩
    have I4 := Lib.hid h1
    have B4 := Lib.hid (B3.out.trans h2)
    clear h1 h2 I3 B3 q0 q1 q2
    have IH := Lib.hid (show WrB w1.heap.size w1.heap.size (Lib.byteCells (wrHead true entry (l.length : Int))) w5 from I4.out)
    clear I4
    have q0 := eblk_cell (j := 0) ((B4.out.block w.heap.size S1.out).trans E1.out) rfl; have q1 := eblk_cell (j := 1) ((B4.out.block w.heap.size S1.out).trans E1.out) rfl; have q2 := eblk_cell (j := 2) ((B4.out.block w.heap.size S1.out).trans E1.out) rfl
    go_wp2
    clear q0 q1 q2
    go_loopw [30] (fun t wr => ∃ k : Nat, t = .int .i64 k ∧ k ≤ l.length ∧ WrB w1.heap.size w1.heap.size (Lib.byteCells (wrHead true entry (l.length : Int) ++ (l.take k).flatMap (fun x => wrNums 4 (wrSeg x)))) wr ∧ Below w1.heap.size w1 wr) (fun t _ => l.length - (intOf t).toNat)
    case atStart => exact ⟨0, rfl, Nat.zero_le _, by simpa using IH.out, B4.out⟩
    case round =>
      obtain ⟨k, rfl, hk, hW, hBk⟩ := hrel
      by_cases hlt : k < l.length
      · obtain ⟨ad, rfl, c0, c1, c2, c3, c4, c5, c6⟩ := at_T39 (Kd.C_below HC1.out hBk) (k : Int) (by omega) (by omega)
        have hx : rd_T39 l (k : Int) = l[k] := by
          unfold rd_T39
          simp [hlt]
        rw [hx, Int.toNat_natCast] at c0 c1 c2 c3 c4 c5 c6
        have HWk := Lib.hid hW
        have HBk := Lib.hid hBk
        have TS := Lib.hid (fun (x : Int) w => turned_still x _ w rfl)
        have mixed : Try.prog.follows Departure.mixedOrders = true := by kernel_rfl
        clear hW hBk hx IH B4
        go_wp2_with (fail)
        obtain ⟨W2, hW2⟩ : ∃ W2, W2 = wr.alloc (.cells #[.int .i64 l[k].f0, .int .u32 l[k].f1, .int .u32 l[k].f2, .int .u32 l[k].f3, .int .u32 l[k].f4, .int .i64 l[k].f5, .int .u32 l[k].f6] 39) := ⟨_, rfl⟩
        rw [← hW2]
        have hc2 : W2.heap[wr.heap.size]? = some (.cells #[.int .i64 l[k].f0, .int .u32 l[k].f1, .int .u32 l[k].f2, .int .u32 l[k].f3, .int .u32 l[k].f4, .int .i64 l[k].f5, .int .u32 l[k].f6] 39 (0, 0)) := by rw [hW2]; exact World.alloc_heap_new _ _
        have hb2 : Below wr.heap.size wr W2.drew := by rw [hW2]; exact ((Below.refl _ wr).alloc (Nat.le_refl _) _).drew
        have z0 : W2.cell? ⟨wr.heap.size, 0, none⟩ = some (.int .i64 l[k].f0) := eblk_cell (j := 0) hc2 rfl
        have z1 : W2.cell? ⟨wr.heap.size, 1, none⟩ = some (.int .u32 l[k].f1) := eblk_cell (j := 1) hc2 rfl
        have z2 : W2.cell? ⟨wr.heap.size, 2, none⟩ = some (.int .u32 l[k].f2) := eblk_cell (j := 2) hc2 rfl
        have z3 : W2.cell? ⟨wr.heap.size, 3, none⟩ = some (.int .u32 l[k].f3) := eblk_cell (j := 3) hc2 rfl
        have z4 : W2.cell? ⟨wr.heap.size, 4, none⟩ = some (.int .u32 l[k].f4) := eblk_cell (j := 4) hc2 rfl
        have z5 : W2.cell? ⟨wr.heap.size, 5, none⟩ = some (.int .i64 l[k].f5) := eblk_cell (j := 5) hc2 rfl
        have z6 : W2.cell? ⟨wr.heap.size, 6, none⟩ = some (.int .u32 l[k].f6) := eblk_cell (j := 6) hc2 rfl
        have HB2 := Lib.hid hb2
        clear hb2 hc2 hW2
        go_still_tail 19, mixed
        still_call (TS.out _ _)
        repeat still_step
        try refine wpStill_nil ?_
        have hI2 := HWk.out.below HB2.out
        have hL : (wrHead true entry (l.length : Int) ++ (l.take k).flatMap (fun x => wrNums 4 (wrSeg x))).length < 1000000000 := by
          have h1 : ∀ m : List S39, (m.flatMap (fun x => wrNums 4 (wrSeg x))).length = m.length * 32 := fun m => by
            induction m with
            | nil => rfl
            | cons x m ih => rw [List.flatMap_cons, List.length_append, ih, wrNums_length, List.length_cons, show (wrSeg x).length = 8 from rfl, Nat.succ_mul]; omega
          rw [List.length_append, h1, List.length_take]
          have h2 : (wrHead true entry (l.length : Int)).length = 52 := by simp [wrHead, wrNums_length]
          omega
        have PN := Lib.hid (put_new w1.heap.size w1.heap.size W2.drew.heap.size 8 4 4 _ (wrSeg l[k]) _ W2.drew rfl hI2 rfl rfl rfl (by omega) (by simp [wrSeg]) hL (by have := HBk.out.size; have := HB2.out.size; omega))
        clear hI2 hL z0 z1 z2 z3 z4 z5 z6
        go_wp2_with (fail)
        refine PN.out.mono ?_
        rintro e w8 ⟨rfl, ⟨h1, h2⟩, _⟩
        have h3 : WrB w1.heap.size w1.heap.size (Lib.byteCells (wrHead true entry (l.length : Int) ++ (l.take (k + 1)).flatMap (fun x => wrNums 4 (wrSeg x)))) w8 := by
          rw [List.take_succ_eq_append_getElem hlt, List.flatMap_append, List.flatMap_cons, List.flatMap_nil, List.append_nil, ← List.append_assoc]
          exact h1
        have H3 := Lib.hid h3
        have B3 := Lib.hid ((HBk.out.trans (HB2.out.mono HBk.out.size)).trans h2)
        clear h1 h2 h3 PN
        go_wp2
        exact ⟨⟨k + 1, by go_num, hlt, H3.out, B3.out⟩, by simp [intOf]; omega⟩
      · have e4 : k = l.length := by omega
        subst e4
        rw [List.take_length] at hW
        have HWk := Lib.hid hW
        have HBk := Lib.hid hBk
        clear hW hBk IH B4
        go_wp2_with (fail)
        refine (wr_str.calls _ _ _ _ HWk.out (by simp [wrHead])).mono ?_
        rintro e w7 ⟨rfl, hb7⟩
        have HB7 := Lib.hid hb7
        clear hb7
        go_wp2
        go_ret
        exact ⟨rfl, HB1.out.trans ((HBk.out.trans HB7.out).mono HB1.out.size)⟩
set_option maxHeartbeats 1000000 in
set_option maxRecDepth 100000 in
theorem write_unfit (SH : Bool) (entry : Int) (A : Option Addr) (c : Nat) (l : List S39) (w : World) (hC : Kd.C k39 w A l.length l) (hlc : l.length ≤ c) (HF : elf_Fit.f SH entry l = some false) :
    Calls Try.prog 13 #[.agg #[.bool SH, .int .u32 entry, .slice A l.length c]] w fun e w' => e = .returned (.string .empty) ∧ Below w.heap.size w w' := by
  have hB0 : Below w.heap.size w (w.alloc (.cells #[.bool SH, .int .u32 entry, .slice A l.length c] 26)) := (Below.refl _ w).alloc (Nat.le_refl _) _
  have FT := Lib.hid (elf_Fit.calls SH entry A c l _ _ (Kd.C_below hC hB0) hlc HF)
  have HB0 := Lib.hid hB0
  clear hC HF hB0
  go_enter Try.func13, Try.ntmps13
  go_wp2_with (fail)
  refine FT.out.mono ?_
  rintro e w1 ⟨rfl, hb⟩
  have HB1 := Lib.hid (HB0.out.trans (hb.mono HB0.out.size))
  clear hb
  go_wp2
  go_ret
  exact ⟨rfl, HB1.out⟩
-- HAND fn=ferry/elf.Write ; rounds=0 ; making=1 ; laid=0
def elf_Write.f (a0_0 : Bool) (a0_1 : Int) (l0_2 : List S39) : Option ByteArray := some (if l0_2.length ≤ 16 ∧ l0_2.any unfit = false then ⟨(wrHead a0_0 a0_1 l0_2.length ++ l0_2.flatMap (fun x => wrNums 4 (wrSeg x))).toArray⟩ else .empty)
theorem elf_Write.calls (a0_0 : Bool) (a0_1 : Int) (A0_2 : Option Addr) (c0_2 : Nat) (l0_2 : List S39) (r : ByteArray) (w : World) (hr0_2 : Kd.C k39 w A0_2 l0_2.length l0_2) (hc0_2 : l0_2.length ≤ c0_2) (h : elf_Write.f a0_0 a0_1 l0_2 = some r) :
    Calls Try.prog 13 #[.agg #[.bool a0_0, .int .u32 a0_1, .slice A0_2 l0_2.length c0_2]] w fun e w' => e = .returned (.string r) ∧ Below w.heap.size w w' := by
  replace h := Option.some.inj h
  by_cases hf : l0_2.length ≤ 16 ∧ l0_2.any unfit = false
  · rw [if_pos hf] at h
    subst h
    exact write_fit a0_0 a0_1 A0_2 c0_2 l0_2 w hr0_2 hc0_2 hf.1 hf.2
  · rw [if_neg hf] at h
    subst h
    refine write_unfit a0_0 a0_1 A0_2 c0_2 l0_2 w hr0_2 hc0_2 ?_
    unfold elf_Fit.f
    by_cases h1 : l0_2.length ≤ 16
    · rw [if_pos h1]
      cases h2 : l0_2.any unfit
      · exact absurd ⟨h1, h2⟩ hf
      · rfl
    · rw [if_neg h1]
end Go.Proofs.Ytonoabknmmecnaa.F
end
