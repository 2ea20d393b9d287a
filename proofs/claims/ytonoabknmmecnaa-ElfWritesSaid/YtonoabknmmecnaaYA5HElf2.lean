import Derived.Below
import Derived.Deep.Draws
import Derived.Deep.AppendLies
import Derived.Maps.AppendAt
import Derived.OwnWalk
import Derived.Laws.BytesArg
import Derived.Laws.MakeOwn
import Derived.Laws.OwnMore
import Derived.Deep.OwnRows
import Derived.Tactics
import Derived.Lib.ConvBytes
import Derived.Laws.Slices
import Derived.WalkKit
import Derived.KernelRfl
import Derived.RowKit3
import Derived.Deep.LoopGhost
import Derived.Deep.QuietTactic
import Derived.BigQuiet
import Derived.WideLaws
import Derived.Deep.DeepCutAuto
import Derived.Deep.CutBlock
import Derived.Deep.RegionHeld3
import Derived.Laws.Rows
import Derived.Lib.AppendStr
import Derived.ArgAppend
import Derived.Laws.IdiomCopy
import Derived.RowKit
import Derived.OrdersHeld
import Derived.Laws.BitsLemmas
import Derived.Laws.StructEq
import Derived.Shelf.Strings.Builder1
import Derived.Shelf.Strings.BuilderF
import Derived.Shelf.Strings.BuilderK
import Derived.RangeFuncNested
import Derived.RangeFuncBound
import Derived.RangeFuncCalls
import Derived.RangeFuncLeaves
import Derived.RangeFuncWrites
import Derived.Shelf.Abstract
import Derived.Shelf.RegionOpen
import Derived.OwnWalkIn
import Derived.TacticsInMore
import Derived.LoopNIn
import Derived.LoopIn
import Derived.Lib.Hide
import Derived.WalkLawsBesides
import Derived.WalkSmall
import Derived.Laws.ResultCell
import Derived.RangeFuncRecord
import Derived.ProofKit
import Derived.Test.YtonoabknmmecnaaZF0
import Derived.Test.YtonoabknmmecnaaYA0
import Derived.Test.YtonoabknmmecnaaYA4
section
namespace Go.Proofs.Ytonoabknmmecnaa.F
open Go.RowKit Go.Shelf Go.Proofs.YtonoabknmmecnaaW.PrintWords Go.Proofs.YtonoabknmmecnaaW.PrintLast Go.Proofs.YtonoabknmmecnaaW.PrintMore
set_option linter.unusedVariables false
set_option linter.unusedSimpArgs false
def protsOf (f : Int) : Int := (elf_Prots.f f).getD 0
theorem prots_some (f : Int) : elf_Prots.f f = some (protsOf f) := by
  have h : ∃ v, elf_Prots.f f = some v := by
    unfold elf_Prots.f elf_turned.f
    exact ⟨_, rfl⟩
  obtain ⟨v, h⟩ := h
  unfold protsOf
  rw [h]
  rfl
def rdSeg (s : ByteArray) : Except Int (S39 × ByteArray) :=
  (match rdNum 4 s with | .error c => .error c | .ok (k, s1) => (match rdNum 4 s1 with | .error c => .error c | .ok (off, s2) => (match rdNum 4 s2 with | .error c => .error c | .ok (at_, s3) => (match rdNum 4 s3 with | .error c => .error c | .ok (again, s4) => (match rdNum 4 s4 with | .error c => .error c | .ok (sz, s5) => (match rdNum 4 s5 with | .error c => .error c | .ok (room, s6) => (match rdNum 4 s6 with | .error c => .error c | .ok (f, s7) => (match rdNum 4 s7 with | .error c => .error c | .ok (al, s8) => if again = at_ ∧ f < 8 ∧ k < 4 then .ok (⟨wrap64 k, off, at_, sz, room, protsOf f, al⟩, s8) else .error 103))))))))
structure SegW (b : Nat) (w W : World) (s : ByteArray) (cs : Array Value) : Prop where
  rd : Rd b w W s
  t2 : W.heap[w.heap.size]? = some (.cells #[.int .i64 0, .int .u32 0, .int .u32 0, .int .u32 0, .int .u32 0, .int .i64 0, .int .u32 0] 39 (0, 0))
  t3 : W.heap[w.heap.size + 1]? = some (.cells cs 39 (0, 0))
  lt : b < w.heap.size
theorem SegW.first {b : Nat} {w : World} {s : ByteArray} (hc : w.heap[b]? = some (rblk s)) : SegW b w ((w.alloc (.cells #[.int .i64 0, .int .u32 0, .int .u32 0, .int .u32 0, .int .u32 0, .int .i64 0, .int .u32 0] 39)).alloc (.cells #[.int .i64 0, .int .u32 0, .int .u32 0, .int .u32 0, .int .u32 0, .int .i64 0, .int .u32 0] 39)) s #[.int .i64 0, .int .u32 0, .int .u32 0, .int .u32 0, .int .u32 0, .int .i64 0, .int .u32 0] := by
  have s1 : (w.alloc (.cells #[.int .i64 0, .int .u32 0, .int .u32 0, .int .u32 0, .int .u32 0, .int .i64 0, .int .u32 0] 39)).heap.size = w.heap.size + 1 := World.size_alloc _ _
  refine ⟨Rd.of_below hc (((Below.refl _ w).alloc (Nat.le_refl _) _).alloc (by omega) _), ?_, ?_, eblk_lt hc⟩
  · exact (Below.heap_alloc _ _ _ (by omega)).trans (World.alloc_heap_new w _)
  · rw [← s1]
    exact World.alloc_heap_new _ _
theorem SegW.step {b : Nat} {w W W' : World} {s s' : ByteArray} {cs : Array Value} (h : SegW b w W s cs) (hr : Rd b W W' s') : SegW b w W' s' cs :=
  ⟨h.rd.trans hr, (hr.keep _ (eblk_lt h.t2) (by have := h.lt; omega)).trans h.t2, (hr.keep _ (eblk_lt h.t3) (by have := h.lt; omega)).trans h.t3, h.lt⟩
theorem SegW.put {b : Nat} {w W : World} {s : ByteArray} {cs : Array Value} (h : SegW b w W s cs) (j : Nat) (v : Value) (cs' : Array Value) (e : cs.setIfInBounds j v = cs') : SegW b w (W.setCell ⟨w.heap.size + 1, j, none⟩ v) s cs' := by
  have hl := h.lt
  have hk : ∀ k, k ≠ w.heap.size + 1 → (W.setCell ⟨w.heap.size + 1, j, none⟩ v).heap[k]? = W.heap[k]? := fun k hk => Below.heap_setCell W ⟨w.heap.size + 1, j, none⟩ v k hk
  refine ⟨⟨h.rd.os, h.rd.tape, h.rd.output, by simpa [World.setCell] using h.rd.size, (hk b (by omega)).trans h.rd.cell, fun k hlt hb => (hk k (by omega)).trans (h.rd.keep k hlt hb)⟩, (hk _ (by omega)).trans h.t2, ?_, hl⟩
  exact blk_put h.t3 j v e
set_option maxHeartbeats 8000000 in
set_option maxRecDepth 100000 in
theorem reader_seg.calls (b : Nat) (s : ByteArray) (w : World) (hc : w.heap[b]? = some (rblk s)) (hs : s.size < 9223372036854775807) :
    Calls Try.prog 39 #[.pointer (some ⟨b, 0, none⟩)] w (RdPost b w (fun x : S39 => .agg #[.int .i64 x.f0, .int .u32 x.f1, .int .u32 x.f2, .int .u32 x.f3, .int .u32 x.f4, .int .i64 x.f5, .int .u32 x.f6]) (rdSeg s)) := by
  have D0 := Lib.hid (SegW.first hc)
  have hu := Try.underlying39
  have PR := Lib.hid (fun f w => elf_Prots.calls f _ w (prots_some f))
  have MU := Lib.hid (fun ok w => elf_must.calls ok 103 w)
  clear hc
  go_enter Try.func39, Try.ntmps39
  go_wp2_with (fail)
  have W1 := reader_word.calls b s _ D0.out.rd.cell (by omega)
  cases h1 : rdNum 4 s with
  | error c =>
    rw [h1] at W1
    refine W1.mono ?_
    rintro e w1 ⟨rfl, z, R1⟩
    have e : rdSeg s = .error c := by simp only [rdSeg, h1]
    exact ⟨rfl, by rw [e]; exact ⟨rfl, z, (D0.out.step R1).rd⟩⟩
  | ok p =>
  obtain ⟨k, s1⟩ := p
  have z1 := rdNum_size h1
  rw [h1] at W1
  refine W1.mono ?_
  rintro e w1 ⟨rfl, R1⟩
  have D1 := Lib.hid (D0.out.step R1)
  clear R1 W1
  go_wp2_with (fail)
  have W2 := reader_word.calls b s1 _ D1.out.rd.cell (by omega)
  cases h2 : rdNum 4 s1 with
  | error c =>
    rw [h2] at W2
    refine W2.mono ?_
    rintro e w2 ⟨rfl, z, R1⟩
    have e : rdSeg s = .error c := by simp only [rdSeg, h1, h2]
    exact ⟨rfl, by rw [e]; exact ⟨rfl, z, (D1.out.step R1).rd⟩⟩
  | ok p =>
  obtain ⟨off, s2⟩ := p
  have z2 := rdNum_size h2
  rw [h2] at W2
  refine W2.mono ?_
  rintro e w2 ⟨rfl, R1⟩
  have D2 := Lib.hid (D1.out.step R1)
  clear R1 W2
  go_wp2_with (fail)
  have W3 := reader_word.calls b s2 _ D2.out.rd.cell (by omega)
  cases h3 : rdNum 4 s2 with
  | error c =>
    rw [h3] at W3
    refine W3.mono ?_
    rintro e w3 ⟨rfl, z, R1⟩
    have e : rdSeg s = .error c := by simp only [rdSeg, h1, h2, h3]
    exact ⟨rfl, by rw [e]; exact ⟨rfl, z, (D2.out.step R1).rd⟩⟩
  | ok p =>
  obtain ⟨at_, s3⟩ := p
  have z3 := rdNum_size h3
  rw [h3] at W3
  refine W3.mono ?_
  rintro e w3 ⟨rfl, R1⟩
  have D3 := Lib.hid (D2.out.step R1)
  clear R1 W3
  have q0 := eblk_cell (j := 0) D3.out.t3 rfl; have q1 := eblk_cell (j := 1) D3.out.t3 rfl; have q2 := eblk_cell (j := 2) D3.out.t3 rfl; have q3 := eblk_cell (j := 3) D3.out.t3 rfl; have q4 := eblk_cell (j := 4) D3.out.t3 rfl; have q5 := eblk_cell (j := 5) D3.out.t3 rfl; have q6 := eblk_cell (j := 6) D3.out.t3 rfl; have qf := fun j => eblk_free (j := j) D3.out.t3
  go_wp2_with (fail)
  have D4 := Lib.hid (D3.out.put 1 (.int .u32 off) #[.int .i64 0, .int .u32 off, .int .u32 0, .int .u32 0, .int .u32 0, .int .i64 0, .int .u32 0] rfl)
  have D5 := Lib.hid (D4.out.put 2 (.int .u32 at_) #[.int .i64 0, .int .u32 off, .int .u32 at_, .int .u32 0, .int .u32 0, .int .i64 0, .int .u32 0] rfl)
  clear q0 q1 q2 q3 q4 q5 q6 qf
  have W4 := reader_word.calls b s3 _ D5.out.rd.cell (by omega)
  cases h4 : rdNum 4 s3 with
  | error c =>
    rw [h4] at W4
    refine W4.mono ?_
    rintro e w4 ⟨rfl, z, R1⟩
    have e : rdSeg s = .error c := by simp only [rdSeg, h1, h2, h3, h4]
    exact ⟨rfl, by rw [e]; exact ⟨rfl, z, (D5.out.step R1).rd⟩⟩
  | ok p =>
  obtain ⟨again, s4⟩ := p
  have z4 := rdNum_size h4
  rw [h4] at W4
  refine W4.mono ?_
  rintro e w4 ⟨rfl, R1⟩
  have D6 := Lib.hid (D5.out.step R1)
  clear R1 W4
  go_wp2_with (fail)
  have W5 := reader_word.calls b s4 _ D6.out.rd.cell (by omega)
  cases h5 : rdNum 4 s4 with
  | error c =>
    rw [h5] at W5
    refine W5.mono ?_
    rintro e w5 ⟨rfl, z, R1⟩
    have e : rdSeg s = .error c := by simp only [rdSeg, h1, h2, h3, h4, h5]
    exact ⟨rfl, by rw [e]; exact ⟨rfl, z, (D6.out.step R1).rd⟩⟩
  | ok p =>
  obtain ⟨sz, s5⟩ := p
  have z5 := rdNum_size h5
  rw [h5] at W5
  refine W5.mono ?_
  rintro e w5 ⟨rfl, R1⟩
  have D7 := Lib.hid (D6.out.step R1)
  clear R1 W5
  go_wp2_with (fail)
  have W6 := reader_word.calls b s5 _ D7.out.rd.cell (by omega)
  cases h6 : rdNum 4 s5 with
  | error c =>
    rw [h6] at W6
    refine W6.mono ?_
    rintro e w6 ⟨rfl, z, R1⟩
    have e : rdSeg s = .error c := by simp only [rdSeg, h1, h2, h3, h4, h5, h6]
    exact ⟨rfl, by rw [e]; exact ⟨rfl, z, (D7.out.step R1).rd⟩⟩
  | ok p =>
  obtain ⟨room, s6⟩ := p
  have z6 := rdNum_size h6
  rw [h6] at W6
  refine W6.mono ?_
  rintro e w6 ⟨rfl, R1⟩
  have D8 := Lib.hid (D7.out.step R1)
  clear R1 W6
  have q0 := eblk_cell (j := 0) D8.out.t3 rfl; have q1 := eblk_cell (j := 1) D8.out.t3 rfl; have q2 := eblk_cell (j := 2) D8.out.t3 rfl; have q3 := eblk_cell (j := 3) D8.out.t3 rfl; have q4 := eblk_cell (j := 4) D8.out.t3 rfl; have q5 := eblk_cell (j := 5) D8.out.t3 rfl; have q6 := eblk_cell (j := 6) D8.out.t3 rfl; have qf := fun j => eblk_free (j := j) D8.out.t3
  go_wp2_with (fail)
  have D9 := Lib.hid (D8.out.put 3 (.int .u32 sz) #[.int .i64 0, .int .u32 off, .int .u32 at_, .int .u32 sz, .int .u32 0, .int .i64 0, .int .u32 0] rfl)
  have D10 := Lib.hid (D9.out.put 4 (.int .u32 room) #[.int .i64 0, .int .u32 off, .int .u32 at_, .int .u32 sz, .int .u32 room, .int .i64 0, .int .u32 0] rfl)
  clear q0 q1 q2 q3 q4 q5 q6 qf
  have W7 := reader_word.calls b s6 _ D10.out.rd.cell (by omega)
  cases h7 : rdNum 4 s6 with
  | error c =>
    rw [h7] at W7
    refine W7.mono ?_
    rintro e w7 ⟨rfl, z, R1⟩
    have e : rdSeg s = .error c := by simp only [rdSeg, h1, h2, h3, h4, h5, h6, h7]
    exact ⟨rfl, by rw [e]; exact ⟨rfl, z, (D10.out.step R1).rd⟩⟩
  | ok p =>
  obtain ⟨f, s7⟩ := p
  have z7 := rdNum_size h7
  rw [h7] at W7
  refine W7.mono ?_
  rintro e w7 ⟨rfl, R1⟩
  have D11 := Lib.hid (D10.out.step R1)
  clear R1 W7
  go_wp2_with (fail)
  have W8 := reader_word.calls b s7 _ D11.out.rd.cell (by omega)
  cases h8 : rdNum 4 s7 with
  | error c =>
    rw [h8] at W8
    refine W8.mono ?_
    rintro e w8 ⟨rfl, z, R1⟩
    have e : rdSeg s = .error c := by simp only [rdSeg, h1, h2, h3, h4, h5, h6, h7, h8]
    exact ⟨rfl, by rw [e]; exact ⟨rfl, z, (D11.out.step R1).rd⟩⟩
  | ok p =>
  obtain ⟨al, s8⟩ := p
  have z8 := rdNum_size h8
  rw [h8] at W8
  refine W8.mono ?_
  rintro e w8 ⟨rfl, R1⟩
  have D12 := Lib.hid (D11.out.step R1)
  clear R1 W8
  have q0 := eblk_cell (j := 0) D12.out.t3 rfl; have q1 := eblk_cell (j := 1) D12.out.t3 rfl; have q2 := eblk_cell (j := 2) D12.out.t3 rfl; have q3 := eblk_cell (j := 3) D12.out.t3 rfl; have q4 := eblk_cell (j := 4) D12.out.t3 rfl; have q5 := eblk_cell (j := 5) D12.out.t3 rfl; have q6 := eblk_cell (j := 6) D12.out.t3 rfl; have qf := fun j => eblk_free (j := j) D12.out.t3
  by_cases e1 : ¬ again = at_
  · have b1 : (again == at_) = false := beq_eq_false_iff_ne.2 e1
    go_wp2_with (fail)
    have D13 := Lib.hid (D12.out.put 6 (.int .u32 al) #[.int .i64 0, .int .u32 off, .int .u32 at_, .int .u32 sz, .int .u32 room, .int .i64 0, .int .u32 al] rfl)
    refine (MU.out _ _).mono ?_
    rintro e w9 ⟨rfl, rfl⟩
    have e : rdSeg s = .error 103 := by simp only [rdSeg, h1, h2, h3, h4, h5, h6, h7, h8]; rw [if_neg (by omega)]
    exact ⟨rfl, by rw [e]; exact ⟨rfl, s8, D13.out.rd⟩⟩
  replace e1 : again = at_ := by omega
  have b1 : (again == at_) = true := beq_iff_eq.2 e1
  by_cases e2 : ¬ f < 8
  · have b2 : decide (f < 8) = false := decide_eq_false e2
    go_wp2_with (fail)
    have D13 := Lib.hid (D12.out.put 6 (.int .u32 al) #[.int .i64 0, .int .u32 off, .int .u32 at_, .int .u32 sz, .int .u32 room, .int .i64 0, .int .u32 al] rfl)
    refine (MU.out _ _).mono ?_
    rintro e w9 ⟨rfl, rfl⟩
    have e : rdSeg s = .error 103 := by simp only [rdSeg, h1, h2, h3, h4, h5, h6, h7, h8]; rw [if_neg (by omega)]
    exact ⟨rfl, by rw [e]; exact ⟨rfl, s8, D13.out.rd⟩⟩
  replace e2 : f < 8 := by omega
  have b2 : decide (f < 8) = true := decide_eq_true e2
  by_cases e3 : ¬ k < 4
  · have b3 : decide (k < 4) = false := decide_eq_false e3
    go_wp2_with (fail)
    have D13 := Lib.hid (D12.out.put 6 (.int .u32 al) #[.int .i64 0, .int .u32 off, .int .u32 at_, .int .u32 sz, .int .u32 room, .int .i64 0, .int .u32 al] rfl)
    refine (MU.out _ _).mono ?_
    rintro e w9 ⟨rfl, rfl⟩
    have e : rdSeg s = .error 103 := by simp only [rdSeg, h1, h2, h3, h4, h5, h6, h7, h8]; rw [if_neg (by omega)]
    exact ⟨rfl, by rw [e]; exact ⟨rfl, s8, D13.out.rd⟩⟩
  replace e3 : k < 4 := by omega
  have b3 : decide (k < 4) = true := decide_eq_true e3
  have es : rdSeg s = .ok (⟨wrap64 k, off, at_, sz, room, protsOf f, al⟩, s8) := by simp only [rdSeg, h1, h2, h3, h4, h5, h6, h7, h8]; rw [if_pos ⟨e1, e2, e3⟩]
  have ES := Lib.hid es
  clear es e1 e2 e3 h1 h2 h3 h4 h5 h6 h7 h8 z1 z2 z3 z4 z5 z6 z7 z8
  go_wp2_with (fail)
  have D13 := Lib.hid (D12.out.put 6 (.int .u32 al) #[.int .i64 0, .int .u32 off, .int .u32 at_, .int .u32 sz, .int .u32 room, .int .i64 0, .int .u32 al] rfl)
  clear q0 q1 q2 q3 q4 q5 q6 qf
  refine (MU.out _ _).mono ?_
  rintro e w9 ⟨rfl, rfl⟩
  have q0 := eblk_cell (j := 0) D13.out.t3 rfl; have q1 := eblk_cell (j := 1) D13.out.t3 rfl; have q2 := eblk_cell (j := 2) D13.out.t3 rfl; have q3 := eblk_cell (j := 3) D13.out.t3 rfl; have q4 := eblk_cell (j := 4) D13.out.t3 rfl; have q5 := eblk_cell (j := 5) D13.out.t3 rfl; have q6 := eblk_cell (j := 6) D13.out.t3 rfl; have qf := fun j => eblk_free (j := j) D13.out.t3
  have p0 := fun j => eblk_free (j := j) D13.out.t2; have p1 := eblk_cell (j := 0) D13.out.t2 rfl; have p2 := eblk_cell (j := 1) D13.out.t2 rfl; have p3 := eblk_cell (j := 2) D13.out.t2 rfl; have p4 := eblk_cell (j := 3) D13.out.t2 rfl; have p5 := eblk_cell (j := 4) D13.out.t2 rfl; have p6 := eblk_cell (j := 5) D13.out.t2 rfl; have p7 := eblk_cell (j := 6) D13.out.t2 rfl
  go_wp2_with (go_at_call 11; refine (PR.out _ _).mono ?_; rintro e w10 ⟨rfl, ⟨nd, rfl⟩⟩)
  have E1 := Lib.hid (D13.out.step (Rd.refl D13.out.rd.cell |>.drewN nd))
  have E2 := Lib.hid (E1.out.put 0 (.int .i64 (wrap64 k)) #[.int .i64 (wrap64 k), .int .u32 off, .int .u32 at_, .int .u32 sz, .int .u32 room, .int .i64 0, .int .u32 al] rfl)
  have E3 := Lib.hid (E2.out.put 5 (.int .i64 (protsOf f)) #[.int .i64 (wrap64 k), .int .u32 off, .int .u32 at_, .int .u32 sz, .int .u32 room, .int .i64 (protsOf f), .int .u32 al] rfl)
  refine bodyPost_ret (results_cell_row rfl _ _ w.heap.size 39 #[.int .i64 (wrap64 k), .int .u32 off, .int .u32 at_, .int .u32 sz, .int .u32 room, .int .i64 (protsOf f), .int .u32 al] (0, 0) _ rfl ?_ Try.underlying39 rfl (by kernel_rfl)) rfl ?_
  · refine blk_put (cs := #[.int .i64 (wrap64 k), .int .u32 off, .int .u32 at_, .int .u32 sz, .int .u32 room, .int .i64 (protsOf f), .int .u32 0]) ?_ 6 _ rfl
    refine blk_put (cs := #[.int .i64 (wrap64 k), .int .u32 off, .int .u32 at_, .int .u32 sz, .int .u32 room, .int .i64 0, .int .u32 0]) ?_ 5 _ rfl
    refine blk_put (cs := #[.int .i64 (wrap64 k), .int .u32 off, .int .u32 at_, .int .u32 sz, .int .u32 0, .int .i64 0, .int .u32 0]) ?_ 4 _ rfl
    refine blk_put (cs := #[.int .i64 (wrap64 k), .int .u32 off, .int .u32 at_, .int .u32 0, .int .u32 0, .int .i64 0, .int .u32 0]) ?_ 3 _ rfl
    refine blk_put (cs := #[.int .i64 (wrap64 k), .int .u32 off, .int .u32 0, .int .u32 0, .int .u32 0, .int .i64 0, .int .u32 0]) ?_ 2 _ rfl
    refine blk_put (cs := #[.int .i64 (wrap64 k), .int .u32 0, .int .u32 0, .int .u32 0, .int .u32 0, .int .i64 0, .int .u32 0]) ?_ 1 _ rfl
    refine blk_put (cs := #[.int .i64 0, .int .u32 0, .int .u32 0, .int .u32 0, .int .u32 0, .int .i64 0, .int .u32 0]) ?_ 0 _ rfl
    exact E3.out.t2
  · show RdPost _ _ _ (rdSeg s) _ _
    rw [ES.out]
    exact ⟨rfl, (Rd.setNew (Rd.setNew (Rd.setNew (Rd.setNew (Rd.setNew (Rd.setNew (Rd.setNew E3.out.rd E3.out.lt (Nat.le_refl _) 0 _) E3.out.lt (Nat.le_refl _) 1 _) E3.out.lt (Nat.le_refl _) 2 _) E3.out.lt (Nat.le_refl _) 3 _) E3.out.lt (Nat.le_refl _) 4 _) E3.out.lt (Nat.le_refl _) 5 _) E3.out.lt (Nat.le_refl _) 6 _)⟩
end Go.Proofs.Ytonoabknmmecnaa.F
end
