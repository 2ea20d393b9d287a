import Derived.Below
import Derived.Deep.Draws
import Derived.Deep.AppendLies
import Derived.Maps.AppendAt
import Derived.OwnWalk
import Derived.Laws.BytesArg
import Derived.Laws.MakeOwn
import Derived.Laws.OwnMore
import Derived.Deep.OwnRows
import Derived.Tactics
import Derived.Lib.ConvBytes
import Derived.Laws.Slices
import Derived.WalkKit
import Derived.KernelRfl
import Derived.RowKit3
import Derived.Deep.LoopGhost
import Derived.Deep.QuietTactic
import Derived.BigQuiet
import Derived.WideLaws
import Derived.Deep.DeepCutAuto
import Derived.Deep.CutBlock
import Derived.Deep.RegionHeld3
import Derived.Laws.Rows
import Derived.Lib.AppendStr
import Derived.ArgAppend
import Derived.Laws.IdiomCopy
import Derived.RowKit
import Derived.OrdersHeld
import Derived.Laws.BitsLemmas
import Derived.Laws.StructEq
import Derived.Shelf.Strings.Builder1
import Derived.Shelf.Strings.BuilderF
import Derived.Shelf.Strings.BuilderK
import Derived.RangeFuncNested
import Derived.RangeFuncBound
import Derived.RangeFuncCalls
import Derived.RangeFuncLeaves
import Derived.RangeFuncWrites
import Derived.Shelf.Abstract
import Derived.Shelf.RegionOpen
import Derived.OwnWalkIn
import Derived.TacticsInMore
import Derived.LoopNIn
import Derived.LoopIn
import Derived.Lib.Hide
import Derived.WalkLawsBesides
import Derived.WalkSmall
import Derived.Laws.ResultCell
import Derived.RangeFuncRecord
import Derived.ProofKit
import Derived.Deep.RegionWith
import Derived.Test.YtonoabknmmecnaaZF0
import Derived.Test.YtonoabknmmecnaaYA4
import Derived.Test.YtonoabknmmecnaaYA5HElf2
import Derived.Test.YtonoabknmmecnaaYA6HElf3
section
namespace Go.Proofs.Ytonoabknmmecnaa.F
open Go.RowKit Go.Shelf Go.Proofs.YtonoabknmmecnaaW.PrintWords Go.Proofs.YtonoabknmmecnaaW.PrintLast Go.Proofs.YtonoabknmmecnaaW.PrintMore
set_option linter.unusedVariables false
set_option linter.unusedSimpArgs false
def rdSegs : Nat → ByteArray → Except Int (List S39 × ByteArray)
  | 0, s => .ok ([], s)
  | n + 1, s => (match rdSeg s with | .error c => .error c | .ok (x, s1) => (match rdSegs n s1 with | .error c => .error c | .ok (l, s2) => .ok (x :: l, s2)))
theorem rdSegs_err {m : Nat} {s : ByteArray} {c : Int} (hm : 0 < m) (h : rdSeg s = .error c) : rdSegs m s = .error c := by
  cases m with
  | zero => omega
  | succ m => simp only [rdSegs, h]
theorem rdSegs_ok {m : Nat} {s s1 : ByteArray} {x : S39} (hm : 0 < m) (h : rdSeg s = .ok (x, s1)) : rdSegs m s = (match rdSegs (m - 1) s1 with | .error c => .error c | .ok (l, s2) => .ok (x :: l, s2)) := by
  cases m with
  | zero => omega
  | succ m => simp only [rdSegs, h]; rfl
theorem rdSeg_size {s s1 : ByteArray} {x : S39} (h : rdSeg s = .ok (x, s1)) : s1.size ≤ s.size := by
  unfold rdSeg at h
  cases h1 : rdNum 4 s with
  | error c => rw [h1] at h; cases h
  | ok p =>
  obtain ⟨a1, t1⟩ := p
  rw [h1] at h
  dsimp only at h
  have z1 := rdNum_size h1
  cases h2 : rdNum 4 t1 with
  | error c => rw [h2] at h; cases h
  | ok p =>
  obtain ⟨a2, t2⟩ := p
  rw [h2] at h
  dsimp only at h
  have z2 := rdNum_size h2
  cases h3 : rdNum 4 t2 with
  | error c => rw [h3] at h; cases h
  | ok p =>
  obtain ⟨a3, t3⟩ := p
  rw [h3] at h
  dsimp only at h
  have z3 := rdNum_size h3
  cases h4 : rdNum 4 t3 with
  | error c => rw [h4] at h; cases h
  | ok p =>
  obtain ⟨a4, t4⟩ := p
  rw [h4] at h
  dsimp only at h
  have z4 := rdNum_size h4
  cases h5 : rdNum 4 t4 with
  | error c => rw [h5] at h; cases h
  | ok p =>
  obtain ⟨a5, t5⟩ := p
  rw [h5] at h
  dsimp only at h
  have z5 := rdNum_size h5
  cases h6 : rdNum 4 t5 with
  | error c => rw [h6] at h; cases h
  | ok p =>
  obtain ⟨a6, t6⟩ := p
  rw [h6] at h
  dsimp only at h
  have z6 := rdNum_size h6
  cases h7 : rdNum 4 t6 with
  | error c => rw [h7] at h; cases h
  | ok p =>
  obtain ⟨a7, t7⟩ := p
  rw [h7] at h
  dsimp only at h
  have z7 := rdNum_size h7
  cases h8 : rdNum 4 t7 with
  | error c => rw [h8] at h; cases h
  | ok p =>
  obtain ⟨a8, t8⟩ := p
  rw [h8] at h
  dsimp only at h
  have z8 := rdNum_size h8
  split at h
  · obtain ⟨_, rfl⟩ := Prod.mk.inj (Except.ok.inj h)
    omega
  · cases h
def rdBody (size : Int) (sh : Bool) (entry : Int) (n : Int) (s : ByteArray) : Except Int ((Bool × Int × List S39) × ByteArray) :=
  if s.size < n.toNat * 32 then .error 101 else (match rdSegs n.toNat s with | .error c => .error c | .ok (l, s1) => if l.any unfit = true then .error 103 else if l.all (fun x => decide (wrap64 (wrap64 x.f1 + wrap64 x.f3) ≤ size)) = true then .ok ((sh, entry, l), s1) else .error 104)
def rdHeader (size : Int) (s : ByteArray) : Except Int ((Bool × Int × List S39) × ByteArray) :=
  (match rdNum 4 s with | .error c => .error c | .ok (kind, s1) => if ¬ (kind = 131080 ∨ kind = 196616) then .error 103 else (match rdIs [1] s1 with | .error c => .error c | .ok (_, s2) => (match rdNum 4 s2 with | .error c => .error c | .ok (entry, s3) => (match rdIs [52, 0, 1879052288, 3407904] s3 with | .error c => .error c | .ok (_, s4) => (match rdNum 2 s4 with | .error c => .error c | .ok (n, s5) => (match rdNum 2 s5 with | .error c => .error c | .ok (h, s6) => if ¬ h = 0 then .error 103 else (match rdNum 4 s6 with | .error c => .error c | .ok (z, s7) => if ¬ z = 0 then .error 103 else if ¬ n ≤ 16 then .error 103 else rdBody size (kind / 65536 == 3) entry n s7)))))))
structure HdrW (b : Nat) (w W : World) (s : ByteArray) (cs : Array Value) : Prop where
  rd : Rd b w W s
  t4 : W.heap[w.heap.size]? = some (.cells #[.bool false, .int .u32 0, .slice none 0 0] 26 (0, 0))
  t5 : W.heap[w.heap.size + 1]? = some (.cells cs 26 (0, 0))
  lt : b < w.heap.size
theorem HdrW.first {b : Nat} {w : World} {s : ByteArray} (hc : w.heap[b]? = some (rblk s)) : HdrW b w ((w.alloc (.cells #[.bool false, .int .u32 0, .slice none 0 0] 26)).alloc (.cells #[.bool false, .int .u32 0, .slice none 0 0] 26)) s #[.bool false, .int .u32 0, .slice none 0 0] := by
  have s1 : (w.alloc (.cells #[.bool false, .int .u32 0, .slice none 0 0] 26)).heap.size = w.heap.size + 1 := World.size_alloc _ _
  refine ⟨Rd.of_below hc (((Below.refl _ w).alloc (Nat.le_refl _) _).alloc (by omega) _), ?_, ?_, eblk_lt hc⟩
  · exact (Below.heap_alloc _ _ _ (by omega)).trans (World.alloc_heap_new w _)
  · rw [← s1]
    exact World.alloc_heap_new _ _
theorem HdrW.step {b : Nat} {w W W' : World} {s s' : ByteArray} {cs : Array Value} (h : HdrW b w W s cs) (hr : Rd b W W' s') : HdrW b w W' s' cs :=
  ⟨h.rd.trans hr, (hr.keep _ (eblk_lt h.t4) (by have := h.lt; omega)).trans h.t4, (hr.keep _ (eblk_lt h.t5) (by have := h.lt; omega)).trans h.t5, h.lt⟩
theorem HdrW.below {b : Nat} {w W W' : World} {s : ByteArray} {cs : Array Value} (h : HdrW b w W s cs) (hb : Below W.heap.size W W') : HdrW b w W' s cs := h.step (Rd.of_below h.rd.cell hb)
theorem HdrW.put {b : Nat} {w W : World} {s : ByteArray} {cs : Array Value} (h : HdrW b w W s cs) (j : Nat) (v : Value) (cs' : Array Value) (e : cs.setIfInBounds j v = cs') : HdrW b w (W.setCell ⟨w.heap.size + 1, j, none⟩ v) s cs' := by
  have hl := h.lt
  have hk : ∀ k, k ≠ w.heap.size + 1 → (W.setCell ⟨w.heap.size + 1, j, none⟩ v).heap[k]? = W.heap[k]? := fun k hk => Below.heap_setCell W ⟨w.heap.size + 1, j, none⟩ v k hk
  refine ⟨⟨h.rd.os, h.rd.tape, h.rd.output, by simpa [World.setCell] using h.rd.size, (hk b (by omega)).trans h.rd.cell, fun k hlt hb => (hk k (by omega)).trans (h.rd.keep k hlt hb)⟩, (hk _ (by omega)).trans h.t4, ?_, hl⟩
  exact blk_put h.t5 j v e
theorem HdrW.grown {b : Nat} {w W w1 : World} {s : ByteArray} {cs : Array Value} {row : Option Nat} (h : HdrW b w W s cs) (hb : Below w.heap.size W w1) (hg : W.grownBy w1 row) (hr : ∀ k, row = some k → w.heap.size + 1 < k) : HdrW b w w1 s cs := by
  have hne : ∀ k, k ≤ w.heap.size + 1 → some k ≠ row := fun k hk e => by have := hr k e.symm; omega
  have hl := h.lt
  exact ⟨⟨hb.os.trans h.rd.os, hb.tape.trans h.rd.tape, hb.output.trans h.rd.output, Nat.le_trans h.rd.size hb.size, (hg.block b (eblk_lt h.rd.cell) (hne b (by omega))).trans h.rd.cell, fun k hk hkb => (hb.block k hk).trans (h.rd.keep k hk hkb)⟩, (hg.block _ (eblk_lt h.t4) (hne _ (by omega))).trans h.t4, (hg.block _ (eblk_lt h.t5) (hne _ (by omega))).trans h.t5, hl⟩
theorem is_new (b g n : Nat) (l : List Int) (cells : Array Value) (s : ByteArray) (W : World) (hc : W.heap[b]? = some (rblk s)) (hg : W.heap.size = g) (hn : l.length = n) (hcl : (l.map (Value.int .u32)).toArray = cells) (hl : l.length < 1000000) (hs : s.size < 9223372036854775807) :
    Calls Try.prog 37 #[.pointer (some ⟨b, 0, none⟩), .slice (some ⟨g, 0, none⟩) n n] (W.alloc (.cells cells 22)) (RdPost b W (fun _ : Unit => .tuple #[]) (rdIs l s)) := by
  subst hg hn hcl
  have hb : Below W.heap.size W (W.alloc (.cells (l.map (Value.int .u32)).toArray 22)) := (Below.refl _ W).alloc (Nat.le_refl _) _
  have r0 := Rd.of_below hc hb
  refine (reader_is.calls b W.heap.size l s _ r0.cell (World.alloc_heap_new W _) (by have := eblk_lt hc; omega) hl hs).mono ?_
  intro e w' h
  cases hr : rdIs l s with
  | error c =>
    rw [hr] at h
    obtain ⟨h1, z, h2⟩ := h
    exact ⟨h1, z, r0.trans h2⟩
  | ok p =>
    obtain ⟨u, s'⟩ := p
    rw [hr] at h
    exact ⟨h.1, r0.trans h.2⟩
theorem rdIs_size : ∀ {l : List Int} {s s' : ByteArray} {u : Unit}, rdIs l s = .ok (u, s') → s'.size ≤ s.size
  | [], s, s', u, h => by
    obtain ⟨_, rfl⟩ := Prod.mk.inj (Except.ok.inj h)
    exact Nat.le_refl _
  | v :: l, s, s', u, h => by
    rw [rdIs_cons] at h
    cases hn : rdNum 4 s with
    | error c => rw [hn] at h; cases h
    | ok p =>
      obtain ⟨x, s1⟩ := p
      rw [hn] at h
      dsimp only at h
      split at h
      · exact Nat.le_trans (rdIs_size h) (rdNum_size hn)
      · cases h
theorem w64_id' {n : Int} (h0 : -9223372036854775808 ≤ n) (h1 : n ≤ 9223372036854775807) : wrap64 n = n := by unfold wrap64; omega
theorem rdNum_range {n : Nat} {s s' : ByteArray} {v : Int} (h : rdNum n s = .ok (v, s')) : 0 ≤ v ∧ v ≤ 4294967295 := by
  unfold rdNum at h
  split at h
  · obtain ⟨rfl, _⟩ := Prod.mk.inj (Except.ok.inj h)
    omega
  · cases h
def inRange (size : Int) (x : S39) : Bool := decide (wrap64 (wrap64 x.f1 + wrap64 x.f3) ≤ size)
def HdPost (b : Nat) (w : World) (r : Except Int ((Bool × Int × List S39) × ByteArray)) : Ending → World → Prop := fun e w' =>
  match r with
  | .ok (x, s') => ∃ v : Value, e = .returned (.agg #[.bool x.1, .int .u32 x.2.1, v]) ∧ Kd.R k39 39 w' w.heap.size (fun k => w.heap.size ≤ k) v x.2.2 ∧ Rd b w w' s'
  | .error c => e = .panicked (thr c) ∧ ∃ s', Rd b w w' s'
set_option maxHeartbeats 2000000 in
set_option maxRecDepth 100000 in
theorem reader_header.calls (b : Nat) (size : Int) (s : ByteArray) (w : World) (hc : w.heap[b]? = some (rblk s)) (hs : s.size < 1000000000000000) :
    Calls Try.prog 21 #[.pointer (some ⟨b, 0, none⟩), .int .i64 size] w (HdPost b w (rdHeader size s)) := by
  have D0 := Lib.hid (HdrW.first hc)
  have hu := Try.underlying26
  have MU := Lib.hid elf_must.calls
  clear hc
  go_enter Try.func21, Try.ntmps21
  go_wp2_with (fail)
  have W1 := reader_word.calls b s _ D0.out.rd.cell (by omega)
  cases h1 : rdNum 4 s with
  | error c =>
    rw [h1] at W1
    refine W1.mono ?_
    rintro e w1 ⟨rfl, z, R1⟩
    have e : rdHeader size s = .error c := by simp only [rdHeader, h1]
    exact ⟨rfl, by rw [e]; exact ⟨rfl, z, (D0.out.step R1).rd⟩⟩
  | ok p =>
  obtain ⟨kind, s1⟩ := p
  have z1 := rdNum_size h1
  rw [h1] at W1
  refine W1.mono ?_
  rintro e w1 ⟨rfl, R1⟩
  have D1 := Lib.hid (D0.out.step R1)
  clear R1 W1
  by_cases g1 : ¬ (kind = 131080 ∨ kind = 196616)
  · have b1 : (kind == 131080) = false := beq_eq_false_iff_ne.2 (by omega)
    have b2 : (kind == 196616) = false := beq_eq_false_iff_ne.2 (by omega)
    go_wp2_with (fail)
    refine (MU.out _ 103 _).mono ?_
    rintro e w9 ⟨rfl, rfl⟩
    have e : rdHeader size s = .error 103 := by simp only [rdHeader, h1]; rw [if_pos g1]
    exact ⟨rfl, by rw [e]; exact ⟨rfl, s1, D1.out.rd⟩⟩
  have hk : kind = 131080 ∨ kind = 196616 := by omega
  clear g1
  rcases hk with rfl | rfl
  · skip
    have q0 := eblk_cell (j := 0) D1.out.t5 rfl; have q1 := eblk_cell (j := 1) D1.out.t5 rfl; have q2 := eblk_cell (j := 2) D1.out.t5 rfl; have qf := fun j => eblk_free (j := j) D1.out.t5; have rc := eblk_cell (j := 0) D1.out.rd.cell rfl
    go_wp2_with (fail)
    refine (MU.out _ 103 _).mono ?_
    rintro e w9 ⟨rfl, rfl⟩
    go_wp2_with (fail)
    have D2 := Lib.hid (D1.out.put 0 (.bool false) #[.bool false, .int .u32 0, .slice none 0 0] rfl)
    clear q0 q1 q2 qf rc
    have W2 := is_new b w9.heap.size 1 [1] #[.int .u32 1] s1 _ D2.out.rd.cell (by simp [World.setCell]) rfl rfl (by decide) (by omega)
    cases h2 : rdIs [1] s1 with
    | error c =>
      rw [h2] at W2
      refine W2.mono ?_
      rintro e w2 ⟨rfl, z, R1⟩
      have e : rdHeader size s = .error c := by simp [rdHeader, h1, h2]
      exact ⟨rfl, by rw [e]; exact ⟨rfl, z, (D2.out.step R1).rd⟩⟩
    | ok p =>
    obtain ⟨_, s2⟩ := p
    have z2 := rdIs_size h2
    rw [h2] at W2
    refine W2.mono ?_
    rintro e w2 ⟨rfl, R1⟩
    have D3 := Lib.hid (D2.out.step R1)
    clear R1 W2
    go_wp2_with (fail)
    have W3 := reader_word.calls b s2 _ D3.out.rd.cell (by omega)
    cases h3 : rdNum 4 s2 with
    | error c =>
      rw [h3] at W3
      refine W3.mono ?_
      rintro e w3 ⟨rfl, z, R1⟩
      have e : rdHeader size s = .error c := by simp [rdHeader, h1, h2, h3]
      exact ⟨rfl, by rw [e]; exact ⟨rfl, z, (D3.out.step R1).rd⟩⟩
    | ok p =>
    obtain ⟨entry, s3⟩ := p
    have z3 := rdNum_size h3
    rw [h3] at W3
    refine W3.mono ?_
    rintro e w3 ⟨rfl, R1⟩
    have D4 := Lib.hid (D3.out.step R1)
    clear R1 W3
    have q0 := eblk_cell (j := 0) D4.out.t5 rfl; have q1 := eblk_cell (j := 1) D4.out.t5 rfl; have q2 := eblk_cell (j := 2) D4.out.t5 rfl; have qf := fun j => eblk_free (j := j) D4.out.t5; have rc := eblk_cell (j := 0) D4.out.rd.cell rfl
    go_wp2_with (fail)
    have D5 := Lib.hid (D4.out.put 1 (.int .u32 entry) #[.bool false, .int .u32 entry, .slice none 0 0] rfl)
    clear q0 q1 q2 qf rc
    have W4 := is_new b w3.heap.size 4 [52, 0, 1879052288, 3407904] #[.int .u32 52, .int .u32 0, .int .u32 1879052288, .int .u32 3407904] s3 _ D5.out.rd.cell (by simp [World.setCell]) rfl rfl (by decide) (by omega)
    cases h4 : rdIs [52, 0, 1879052288, 3407904] s3 with
    | error c =>
      rw [h4] at W4
      refine W4.mono ?_
      rintro e w4 ⟨rfl, z, R1⟩
      have e : rdHeader size s = .error c := by simp [rdHeader, h1, h2, h3, h4]
      exact ⟨rfl, by rw [e]; exact ⟨rfl, z, (D5.out.step R1).rd⟩⟩
    | ok p =>
    obtain ⟨_, s4⟩ := p
    have z4 := rdIs_size h4
    rw [h4] at W4
    refine W4.mono ?_
    rintro e w4 ⟨rfl, R1⟩
    have D6 := Lib.hid (D5.out.step R1)
    clear R1 W4
    go_wp2_with (fail)
    have W5 := reader_half.calls b s4 _ D6.out.rd.cell (by omega)
    cases h5 : rdNum 2 s4 with
    | error c =>
      rw [h5] at W5
      refine W5.mono ?_
      rintro e w5 ⟨rfl, z, R1⟩
      have e : rdHeader size s = .error c := by simp [rdHeader, h1, h2, h3, h4, h5]
      exact ⟨rfl, by rw [e]; exact ⟨rfl, z, (D6.out.step R1).rd⟩⟩
    | ok p =>
    obtain ⟨n, s5⟩ := p
    have z5 := rdNum_size h5
    rw [h5] at W5
    refine W5.mono ?_
    rintro e w5 ⟨rfl, R1⟩
    have D7 := Lib.hid (D6.out.step R1)
    clear R1 W5
    go_wp2_with (fail)
    have W6 := reader_half.calls b s5 _ D7.out.rd.cell (by omega)
    cases h6 : rdNum 2 s5 with
    | error c =>
      rw [h6] at W6
      refine W6.mono ?_
      rintro e w6 ⟨rfl, z, R1⟩
      have e : rdHeader size s = .error c := by simp [rdHeader, h1, h2, h3, h4, h5, h6]
      exact ⟨rfl, by rw [e]; exact ⟨rfl, z, (D7.out.step R1).rd⟩⟩
    | ok p =>
    obtain ⟨hf, s6⟩ := p
    have z6 := rdNum_size h6
    rw [h6] at W6
    refine W6.mono ?_
    rintro e w6 ⟨rfl, R1⟩
    have D8 := Lib.hid (D7.out.step R1)
    clear R1 W6
    by_cases g1 : ¬ hf = 0
    · have b1 : (hf == 0) = false := beq_eq_false_iff_ne.2 g1
      go_wp2_with (fail)
      refine (MU.out _ 103 _).mono ?_
      rintro e w9 ⟨rfl, rfl⟩
      have e : rdHeader size s = .error 103 := by simp [rdHeader, h1, h2, h3, h4, h5, h6, g1]
      exact ⟨rfl, by rw [e]; exact ⟨rfl, s6, D8.out.rd⟩⟩
    have b1 : (hf == 0) = true := beq_iff_eq.2 (by omega)
    replace g1 : hf = 0 := by omega
    subst g1
    clear b1
    go_wp2_with (fail)
    have W7 := reader_word.calls b s6 _ D8.out.rd.cell (by omega)
    cases h7 : rdNum 4 s6 with
    | error c =>
      rw [h7] at W7
      refine W7.mono ?_
      rintro e w7 ⟨rfl, z, R1⟩
      have e : rdHeader size s = .error c := by simp [rdHeader, h1, h2, h3, h4, h5, h6, h7]
      exact ⟨rfl, by rw [e]; exact ⟨rfl, z, (D8.out.step R1).rd⟩⟩
    | ok p =>
    obtain ⟨z, s7⟩ := p
    have z7 := rdNum_size h7
    rw [h7] at W7
    refine W7.mono ?_
    rintro e w7 ⟨rfl, R1⟩
    have D9 := Lib.hid (D8.out.step R1)
    clear R1 W7
    by_cases g1 : ¬ z = 0
    · have b1 : (z == 0) = false := beq_eq_false_iff_ne.2 g1
      go_wp2_with (fail)
      refine (MU.out _ 103 _).mono ?_
      rintro e w9 ⟨rfl, rfl⟩
      have e : rdHeader size s = .error 103 := by simp [rdHeader, h1, h2, h3, h4, h5, h6, h7, g1]
      exact ⟨rfl, by rw [e]; exact ⟨rfl, s7, D9.out.rd⟩⟩
    replace g1 : z = 0 := by omega
    subst g1
    by_cases g2 : ¬ n ≤ 16
    · have b2 : decide (n ≤ 16) = false := decide_eq_false g2
      go_wp2_with (fail)
      refine (MU.out _ 103 _).mono ?_
      rintro e w9 ⟨rfl, rfl⟩
      have e : rdHeader size s = .error 103 := by simp [rdHeader, h1, h2, h3, h4, h5, h6, h7, g2]
      exact ⟨rfl, by rw [e]; exact ⟨rfl, s7, D9.out.rd⟩⟩
    replace g2 : n ≤ 16 := by omega
    have b2 : decide (n ≤ 16) = true := decide_eq_true g2
    go_wp2_with (fail)
    refine (MU.out _ 103 _).mono ?_
    rintro e w9 ⟨rfl, rfl⟩
    have EH : rdHeader size s = rdBody size false entry n s7 := by simp [rdHeader, h1, h2, h3, h4, h5, h6, h7, g2]
    have q0 := eblk_cell (j := 0) D9.out.t5 rfl; have q1 := eblk_cell (j := 1) D9.out.t5 rfl; have q2 := eblk_cell (j := 2) D9.out.t5 rfl; have qf := fun j => eblk_free (j := j) D9.out.t5; have rc := eblk_cell (j := 0) D9.out.rd.cell rfl
    have nr := rdNum_range h5
    have hw1 : wrap64 n = n := w64_id' (by omega) (by omega)
    have hw2 : wrap64 (n * 32) = n * 32 := w64_id' (by omega) (by omega)
    have EH' := Lib.hid EH
    have hz7 : s7.size ≤ s.size := by omega
    obtain ⟨N, hN⟩ : ∃ N : Nat, n.toNat = N := ⟨_, rfl⟩
    have hN16 : N ≤ 16 := by omega
    have HN := Lib.hid (show n.toNat = N ∧ n = (N : Int) from ⟨hN, by omega⟩)
    clear hN
    clear EH h1 h2 h3 h4 h5 h6 h7 g2 z1 z2 z3 z4 z5 z6
    by_cases g3 : (s7.size : Int) < n * 32
    · have b3 : decide (n * 32 ≤ (s7.size : Int)) = false := decide_eq_false (by omega)
      go_wp2_with (fail)
      refine (MU.out _ 101 _).mono ?_
      rintro e w10 ⟨rfl, rfl⟩
      have e : rdHeader size s = .error 101 := by rw [EH'.out]; unfold rdBody; rw [if_pos (by omega)]
      exact ⟨rfl, by rw [e]; exact ⟨rfl, s7, D9.out.rd⟩⟩
    have b3 : decide (n * 32 ≤ (s7.size : Int)) = true := decide_eq_true (by omega)
    go_wp2_with (fail)
    refine (MU.out _ 101 _).mono ?_
    rintro e w10 ⟨rfl, rfl⟩
    have EB : rdHeader size s = (match rdSegs n.toNat s7 with | .error c => .error c | .ok (l, s1) => if l.any unfit = true then .error 103 else if l.all (fun x => decide (wrap64 (wrap64 x.f1 + wrap64 x.f3) ≤ size)) = true then .ok ((false, entry, l), s1) else .error 104) := by rw [EH'.out]; unfold rdBody; rw [if_neg (by omega)]
    clear q0 q1 q2 qf rc
    rw [HN.out.1] at EB
    have EB' := Lib.hid EB
    clear EB EH' b3 b2 hw2
    go_wp2
    go_loopw [59] (fun t wr => ∃ (k : Nat) (s' : ByteArray) (l : List S39) (v : Value), t = .int .u32 k ∧ k ≤ N ∧ l.length = k ∧ s'.size ≤ s.size ∧ rdSegs N s7 = (match rdSegs (N - k) s' with | .error c => .error c | .ok (l2, s2) => .ok (l ++ l2, s2)) ∧ HdrW b w wr s' #[.bool false, .int .u32 entry, v] ∧ Kd.R k39 39 wr w.heap.size (fun q => w.heap.size + 1 < q) v l) (fun t _ => N - (intOf t).toNat)
    case atStart => exact ⟨0, s7, [], .slice none 0 0, rfl, Nat.zero_le _, rfl, by omega, by rw [Nat.sub_zero]; cases rdSegs N s7 with | error c => rfl | ok p => rfl, D9.out, Kd.R_nil _ _ _ _ _⟩
    case round =>
      obtain ⟨k, s', l, v, rfl, hk, hkl, hsz, hjoin, HW, HR⟩ := hrel
      by_cases hlt : k < N
      · have b0 : decide ((k : Int) < n) = true := decide_eq_true (by have := HN.out.2; omega)
        have q0 := eblk_cell (j := 2) HW.t5 rfl; have qf := fun j => eblk_free (j := j) HW.t5
        have HW' := Lib.hid HW
        have HR' := Lib.hid HR
        have HJ := Lib.hid hjoin
        clear HW HR hjoin
        go_wp2
        have HD := Lib.hid (HW'.out.below ((Below.refl _ wr).drew))
        have RD := Lib.hid (Kd.R_below HR'.out ((Below.refl _ wr).drew))
        clear q0 qf
        have q0 := eblk_cell (j := 2) HD.out.t5 rfl; have qf := fun j => eblk_free (j := j) HD.out.t5
        have SG := reader_seg.calls b s' wr.drew HD.out.rd.cell (by omega)
        cases hsg : rdSeg s' with
        | error c =>
          rw [hsg] at SG
          refine wp_region_any (by kernel_rfl) ?_
          try (change wpAny _ _ _ _ _ _ _ (World.drew _))
          refine wpAny_take (i := 0) (v := ?_) rfl (by kernel_rfl) (by kernel_rfl) (by kernel_rfl) (fun _ _ _ h => h) (Or.inl ⟨by rfl, ?_⟩) ?_
          rotate_left
          · intro w'
            go_simp
            with_reducible rfl
          refine wpAny_take (i := 2) (v := ?_) rfl (by kernel_rfl) (by kernel_rfl) (by kernel_rfl) (fun _ _ _ h => h) (Or.inl ⟨by rfl, ?_⟩) ?_
          rotate_left
          · intro w'
            go_simp
            with_reducible rfl
          refine wpAny_ready (rs := [1, 3]) (by kernel_rfl) (by simp) ?_
          have eH : rdHeader size s = .error c := by rw [EB'.out, HJ.out, rdSegs_err (by omega) hsg]
          have EH2 := Lib.hid eH
          clear eH hsg
          refine AllReady.cons rfl (fun K hK => ?_) ?_
          · go_simp
            refine hK _ _ ?_
            clear hK K
            refine wpAny_ready (rs := [3]) (by kernel_rfl) (by simp) ?_
            refine AllReady.cons rfl (fun K hK => ?_) AllReady.nil
            go_simp
            go_wp2_with (go_at_call 39; refine SG.mono ?_; rintro e w11 ⟨rfl, z, R1⟩)
            exact ⟨rfl, by rw [EH2.out]; exact ⟨rfl, z, (HD.out.step R1).rd⟩⟩
          · refine AllReady.cons rfl (fun K hK => ?_) AllReady.nil
            go_simp
            go_wp2_with (go_at_call 39; refine SG.mono ?_; rintro e w11 ⟨rfl, z, R1⟩)
            exact ⟨rfl, by rw [EH2.out]; exact ⟨rfl, z, (HD.out.step R1).rd⟩⟩
        | ok p =>
          obtain ⟨x, s2⟩ := p
          rw [hsg] at SG
          have eJ := HJ.out
          rw [rdSegs_ok (by omega) hsg] at eJ
          have HJ2 := Lib.hid eJ
          have hs2 := rdSeg_size hsg
          clear eJ hsg
          refine wp_region_any (by kernel_rfl) ?_
          try (change wpAny _ _ _ _ _ _ _ (World.drew _))
          refine wpAny_take (i := 0) (v := ?_) rfl (by kernel_rfl) (by kernel_rfl) (by kernel_rfl) (fun _ _ _ h => h) (Or.inl ⟨by rfl, ?_⟩) ?_
          rotate_left
          · intro w'
            go_simp
            with_reducible rfl
          refine wpAny_take (i := 2) (v := ?_) rfl (by kernel_rfl) (by kernel_rfl) (by kernel_rfl) (fun _ _ _ h => h) (Or.inl ⟨by rfl, ?_⟩) ?_
          rotate_left
          · intro w'
            go_simp
            with_reducible rfl
          refine wpAny_ready (rs := [1, 3]) (by kernel_rfl) (by simp) ?_
          refine AllReady.cons rfl (fun K hK => ?_) ?_
          · go_simp
            refine hK _ _ ?_
            clear hK K
            refine wpAny_ready (rs := [3]) (by kernel_rfl) (by simp) ?_
            refine AllReady.cons rfl (fun K hK => ?_) AllReady.nil
            go_simp
            go_wp2_with (go_at_call 39; refine SG.mono ?_; rintro e w11 ⟨rfl, R1⟩)
            have H2 := Lib.hid (HD.out.step R1)
            have K2 := Lib.hid (Kd.R_step (w1 := w11) RD.out (fun q hq hlt => R1.keep q hlt (by have := HD.out.lt; omega)))
            clear R1
            refine wpAny_ready (rs := [4]) (by kernel_rfl) (by simp) ?_
            refine AllReady.cons rfl (fun K hK => ?_) AllReady.nil
            go_simp
            refine hK _ _ ?_
            clear hK K
            refine wpAny_ready (rs := [5]) (by kernel_rfl) (by simp) ?_
            refine AllReady.cons rfl (fun K hK => ?_) AllReady.nil
            refine Kd.R_append_step k39 (w0 := w11) w.heap.size (by rfl) (.tmp 62) (.tmp 65) 24 39 (.agg #[.int .i64 0, .int .u32 0, .int .u32 0, .int .u32 0, .int .u32 0, .int .i64 0, .int .u32 0]) 40 rfl Try.underlying24 info39 rfl (by decide) (by omega) v l x [.int .i64 x.f0, .int .u32 x.f1, .int .u32 x.f2, .int .u32 x.f3, .int .u32 x.f4, .int .i64 x.f5, .int .u32 x.f6] (fun q => w.heap.size + 1 < q) (fun _ => False) rfl rfl ?aP (fun _ hk => hk.elim) ?aF ?aO ?aB ?aS ?aL ?_
            case aP => exact k39_mkM _ _ _ x
            case aF => intro q hq; have := eblk_lt H2.out.t5; omega
            case aO => exact K2.out
            case aB => exact Below.refl _ _
            case aS => have := eblk_lt H2.out.t4; omega
            case aL => omega
            intro v1 w12 hR1 hB1 hG1 hat
            obtain ⟨Av, cv, hv1⟩ := Kd.R_slice hR1
            have hvl : v1 = .slice Av (l ++ [x]).length cv := hv1
            clear hv1
            obtain ⟨ln, hln⟩ : ∃ ln, (l ++ [x]).length = ln := ⟨_, rfl⟩
            rw [hln] at hvl
            subst hvl
            clear hln
            have H3 := Lib.hid (H2.out.grown hB1 hG1 (fun q hq => K2.out.1 q hq))
            have R3 := Lib.hid hR1
            clear hR1 hB1 hG1 hat
            have q0 := eblk_cell (j := 2) H3.out.t5 rfl; have qf := fun j => eblk_free (j := j) H3.out.t5
            refine hK _ _ ?_
            clear hK K
            refine wpAny_ready (rs := [6]) (by kernel_rfl) (by simp) ?_
            refine AllReady.cons rfl (fun K hK => ?_) AllReady.nil
            go_simp
            refine hK _ _ ?_
            clear hK K
            refine wpAny_ready (rs := [7]) (by kernel_rfl) (by simp) ?_
            refine AllReady.cons rfl (fun K hK => ?_) AllReady.nil
            go_simp
            refine hK _ _ ?_
            clear hK K
            refine wpAny_done (by kernel_rfl) ?_ _
            have H4 := Lib.hid (H3.out.put 2 (.slice Av ln cv) #[.bool false, .int .u32 entry, .slice Av ln cv] rfl)
            have R4 := Lib.hid (Kd.R_step (w1 := w12.setCell ⟨w.heap.size + 1, 2, none⟩ (.slice Av ln cv)) R3.out (fun q hq _ => Below.heap_setCell w12 ⟨w.heap.size + 1, 2, none⟩ (.slice Av ln cv) q (by show q ≠ w.heap.size + 1; omega)))
            clear q0 qf
            go_wp2
            refine ⟨⟨k + 1, s2, l ++ [x], .slice Av ln cv, by go_num, hlt, by simp [hkl], by omega, ?_, H4.out, R4.out⟩, by simp [intOf]; omega⟩
            rw [HJ2.out, show N - k - 1 = N - (k + 1) from by omega]
            cases rdSegs (N - (k + 1)) s2 with
            | error c => rfl
            | ok p => simp
          · refine AllReady.cons rfl (fun K hK => ?_) AllReady.nil
            go_simp
            go_wp2_with (go_at_call 39; refine SG.mono ?_; rintro e w11 ⟨rfl, R1⟩)
            have H2 := Lib.hid (HD.out.step R1)
            have K2 := Lib.hid (Kd.R_step (w1 := w11) RD.out (fun q hq hlt => R1.keep q hlt (by have := HD.out.lt; omega)))
            clear R1
            clear q0 qf
            refine wpAny_ready (rs := [1, 4]) (by kernel_rfl) (by simp) ?_
            refine AllReady.cons rfl (fun K hK => ?_) ?_
            · have q0 := eblk_cell (j := 2) H2.out.t5 rfl
              go_simp
              refine hK _ _ ?_
              clear hK K q0
              refine wpAny_ready (rs := [4]) (by kernel_rfl) (by simp) ?_
              refine AllReady.cons rfl (fun K hK => ?_) AllReady.nil
              go_simp
              refine hK _ _ ?_
              clear hK K
              refine wpAny_ready (rs := [5]) (by kernel_rfl) (by simp) ?_
              refine AllReady.cons rfl (fun K hK => ?_) AllReady.nil
              refine Kd.R_append_step k39 (w0 := w11) w.heap.size (by rfl) (.tmp 62) (.tmp 65) 24 39 (.agg #[.int .i64 0, .int .u32 0, .int .u32 0, .int .u32 0, .int .u32 0, .int .i64 0, .int .u32 0]) 40 rfl Try.underlying24 info39 rfl (by decide) (by omega) v l x [.int .i64 x.f0, .int .u32 x.f1, .int .u32 x.f2, .int .u32 x.f3, .int .u32 x.f4, .int .i64 x.f5, .int .u32 x.f6] (fun q => w.heap.size + 1 < q) (fun _ => False) rfl rfl ?aP (fun _ hk => hk.elim) ?aF ?aO ?aB ?aS ?aL ?_
              case aP => exact k39_mkM _ _ _ x
              case aF => intro q hq; have := eblk_lt H2.out.t5; omega
              case aO => exact K2.out
              case aB => exact Below.refl _ _
              case aS => have := eblk_lt H2.out.t4; omega
              case aL => omega
              intro v1 w12 hR1 hB1 hG1 hat
              obtain ⟨Av, cv, hv1⟩ := Kd.R_slice hR1
              have hvl : v1 = .slice Av (l ++ [x]).length cv := hv1
              clear hv1
              obtain ⟨ln, hln⟩ : ∃ ln, (l ++ [x]).length = ln := ⟨_, rfl⟩
              rw [hln] at hvl
              subst hvl
              clear hln
              have H3 := Lib.hid (H2.out.grown hB1 hG1 (fun q hq => K2.out.1 q hq))
              have R3 := Lib.hid hR1
              clear hR1 hB1 hG1 hat
              have q0 := eblk_cell (j := 2) H3.out.t5 rfl; have qf := fun j => eblk_free (j := j) H3.out.t5
              refine hK _ _ ?_
              clear hK K
              refine wpAny_ready (rs := [6]) (by kernel_rfl) (by simp) ?_
              refine AllReady.cons rfl (fun K hK => ?_) AllReady.nil
              go_simp
              refine hK _ _ ?_
              clear hK K
              refine wpAny_ready (rs := [7]) (by kernel_rfl) (by simp) ?_
              refine AllReady.cons rfl (fun K hK => ?_) AllReady.nil
              go_simp
              refine hK _ _ ?_
              clear hK K
              refine wpAny_done (by kernel_rfl) ?_ _
              have H4 := Lib.hid (H3.out.put 2 (.slice Av ln cv) #[.bool false, .int .u32 entry, .slice Av ln cv] rfl)
              have R4 := Lib.hid (Kd.R_step (w1 := w12.setCell ⟨w.heap.size + 1, 2, none⟩ (.slice Av ln cv)) R3.out (fun q hq _ => Below.heap_setCell w12 ⟨w.heap.size + 1, 2, none⟩ (.slice Av ln cv) q (by show q ≠ w.heap.size + 1; omega)))
              clear q0 qf
              go_wp2
              refine ⟨⟨k + 1, s2, l ++ [x], .slice Av ln cv, by go_num, hlt, by simp [hkl], by omega, ?_, H4.out, R4.out⟩, by simp [intOf]; omega⟩
              rw [HJ2.out, show N - k - 1 = N - (k + 1) from by omega]
              cases rdSegs (N - (k + 1)) s2 with
              | error c => rfl
              | ok p => simp
            · refine AllReady.cons rfl (fun K hK => ?_) AllReady.nil
              go_simp
              refine hK _ _ ?_
              clear hK K
              have q0 := eblk_cell (j := 2) (H2.out.below ((Below.refl _ w11).alloc (Nat.le_refl _) (.cells #[.int .i64 x.f0, .int .u32 x.f1, .int .u32 x.f2, .int .u32 x.f3, .int .u32 x.f4, .int .i64 x.f5, .int .u32 x.f6] 39))).t5 rfl
              refine wpAny_ready (rs := [1]) (by kernel_rfl) (by simp) ?_
              refine AllReady.cons rfl (fun K hK => ?_) AllReady.nil
              go_simp
              refine hK _ _ ?_
              clear hK K q0
              refine wpAny_ready (rs := [5]) (by kernel_rfl) (by simp) ?_
              refine AllReady.cons rfl (fun K hK => ?_) AllReady.nil
              refine Kd.R_append_step k39 (w0 := w11) w.heap.size (by rfl) (.tmp 62) (.tmp 65) 24 39 (.agg #[.int .i64 0, .int .u32 0, .int .u32 0, .int .u32 0, .int .u32 0, .int .i64 0, .int .u32 0]) 40 rfl Try.underlying24 info39 rfl (by decide) (by omega) v l x [.int .i64 x.f0, .int .u32 x.f1, .int .u32 x.f2, .int .u32 x.f3, .int .u32 x.f4, .int .i64 x.f5, .int .u32 x.f6] (fun q => w.heap.size + 1 < q) (fun _ => False) rfl rfl ?aP (fun _ hk => hk.elim) ?aF ?aO ?aB ?aS ?aL ?_
              case aP => exact k39_mkM _ _ _ x
              case aF => intro q hq; have := eblk_lt H2.out.t5; omega
              case aO => exact K2.out
              case aB => exact Below.refl _ _
              case aS => have := eblk_lt H2.out.t4; omega
              case aL => omega
              intro v1 w12 hR1 hB1 hG1 hat
              obtain ⟨Av, cv, hv1⟩ := Kd.R_slice hR1
              have hvl : v1 = .slice Av (l ++ [x]).length cv := hv1
              clear hv1
              obtain ⟨ln, hln⟩ : ∃ ln, (l ++ [x]).length = ln := ⟨_, rfl⟩
              rw [hln] at hvl
              subst hvl
              clear hln
              have H3 := Lib.hid (H2.out.grown hB1 hG1 (fun q hq => K2.out.1 q hq))
              have R3 := Lib.hid hR1
              clear hR1 hB1 hG1 hat
              have q0 := eblk_cell (j := 2) H3.out.t5 rfl; have qf := fun j => eblk_free (j := j) H3.out.t5
              refine hK _ _ ?_
              clear hK K
              refine wpAny_ready (rs := [6]) (by kernel_rfl) (by simp) ?_
              refine AllReady.cons rfl (fun K hK => ?_) AllReady.nil
              go_simp
              refine hK _ _ ?_
              clear hK K
              refine wpAny_ready (rs := [7]) (by kernel_rfl) (by simp) ?_
              refine AllReady.cons rfl (fun K hK => ?_) AllReady.nil
              go_simp
              refine hK _ _ ?_
              clear hK K
              refine wpAny_done (by kernel_rfl) ?_ _
              have H4 := Lib.hid (H3.out.put 2 (.slice Av ln cv) #[.bool false, .int .u32 entry, .slice Av ln cv] rfl)
              have R4 := Lib.hid (Kd.R_step (w1 := w12.setCell ⟨w.heap.size + 1, 2, none⟩ (.slice Av ln cv)) R3.out (fun q hq _ => Below.heap_setCell w12 ⟨w.heap.size + 1, 2, none⟩ (.slice Av ln cv) q (by show q ≠ w.heap.size + 1; omega)))
              clear q0 qf
              go_wp2
              refine ⟨⟨k + 1, s2, l ++ [x], .slice Av ln cv, by go_num, hlt, by simp [hkl], by omega, ?_, H4.out, R4.out⟩, by simp [intOf]; omega⟩
              rw [HJ2.out, show N - k - 1 = N - (k + 1) from by omega]
              cases rdSegs (N - (k + 1)) s2 with
              | error c => rfl
              | ok p => simp
      · have e4 : k = N := by omega
        subst e4
        subst hkl
        have hN0 := HN.out.2
        have b0 : decide (((l.length : Nat) : Int) < n) = false := decide_eq_false (by omega)
        have eL : rdSegs l.length s7 = .ok (l, s') := by rw [hjoin, Nat.sub_self]; simp [rdSegs]
        obtain ⟨A, c, rfl, hlc, hC⟩ := Kd.R_reads HR
        have eR : rdHeader size s = (if l.any unfit = true then .error 103 else if l.all (fun x => decide (wrap64 (wrap64 x.f1 + wrap64 x.f3) ≤ size)) = true then .ok ((false, entry, l), s') else .error 104) := by rw [EB'.out, eL]
        have ER := Lib.hid eR
        clear eR eL hjoin EB' HN hN0
        have q0 := eblk_cell (j := 0) HW.t5 rfl; have q1 := eblk_cell (j := 1) HW.t5 rfl; have q2 := eblk_cell (j := 2) HW.t5 rfl
        have HF : elf_Fit.f false entry l = some (!(l.any unfit)) := by unfold elf_Fit.f; rw [if_pos (by omega)]
        have FT := Lib.hid (elf_Fit.calls false entry A c l _ wr hC hlc HF)
        have HW' := Lib.hid HW
        have HR' := Lib.hid HR
        clear HW HR hC HF
        cases hany : l.any unfit
        · rw [hany] at FT ER
          rw [if_neg (by decide)] at ER
          go_wp2_with (go_at_call 15; (with_reducible refine FT.out.mono ?_); rintro e w20 ⟨rfl, hb⟩)
          go_wp2_with (fail)
          refine (MU.out _ 103 _).mono ?_
          rintro e w21 ⟨rfl, rfl⟩
          have H5 := Lib.hid (HW'.out.below hb)
          have K5 := Lib.hid (Kd.R_below HR'.out hb)
          have EOK := Lib.hid (fun (h : ∀ (j : Nat) (hj : j < l.length), inRange size l[j] = true) => ER.out.trans (if_pos (List.all_eq_true.2 (fun x hx => by obtain ⟨j, hj, rfl⟩ := List.getElem_of_mem hx; exact h j hj))))
          have EBAD := Lib.hid (fun (j : Nat) (hj : j < l.length) (h : inRange size l[j] = false) => ER.out.trans (if_neg (fun ha => by have := List.all_eq_true.1 ha l[j] (List.getElem_mem hj); rw [show decide (wrap64 (wrap64 l[j].f1 + wrap64 l[j].f3) ≤ size) = false from h] at this; exact absurd this (by decide))))
          clear hb FT HW' HR' ER q0 q1 q2
          have q0 := eblk_cell (j := 0) H5.out.t5 rfl; have q1 := eblk_cell (j := 1) H5.out.t5 rfl; have q2 := eblk_cell (j := 2) H5.out.t5 rfl
          go_wp2
          clear q0 q1 q2
          go_loopw [75] (fun t wr => ∃ k : Nat, t = .int .i64 k ∧ k ≤ l.length ∧ (∀ j (hj : j < l.length), j < k → inRange size l[j] = true) ∧ HdrW b w wr s' #[.bool false, .int .u32 entry, .slice A l.length c] ∧ Kd.R k39 39 wr w.heap.size (fun q => w.heap.size + 1 < q) (.slice A l.length c) l) (fun t _ => l.length - (intOf t).toNat)
          case atStart => exact ⟨0, rfl, Nat.zero_le _, fun j _ hj => by omega, H5.out, K5.out⟩
          case round =>
            obtain ⟨k, rfl, hk, hn, hW, hR⟩ := hrel
            by_cases hlt : k < l.length
            · obtain ⟨Ax, cx, hx0, _, hCx⟩ := Kd.R_reads hR
              obtain ⟨rfl, rfl⟩ : Ax = A ∧ cx = c := by
                injection hx0 with h1 h2 h3
                exact ⟨h1.symm, h3.symm⟩
              obtain ⟨ad, rfl, c0, c1, c2, c3, c4, c5, c6⟩ := at_T39 hCx (k : Int) (by omega) (by omega)
              have hx : rd_T39 l (k : Int) = l[k] := by
                unfold rd_T39
                simp [hlt]
              rw [hx, Int.toNat_natCast] at c0 c1 c2 c3 c4 c5 c6
              have HW6 := Lib.hid hW
              have HR6 := Lib.hid hR
              have hn' := Lib.hid hn
              have EB2 := Lib.hid (EBAD.out k hlt)
              have EO2 := Lib.hid EOK.out
              clear hn hx hx0 hCx hW hR EOK EBAD H5 K5
              cases hb : inRange size l[k]
              · have hb' : decide (wrap64 (wrap64 l[k].f1 + wrap64 l[k].f3) ≤ size) = false := hb
                go_wp2_with (fail)
                refine (MU.out _ 104 _).mono ?_
                rintro e w22 ⟨rfl, rfl⟩
                exact ⟨rfl, by rw [EB2.out hb]; exact ⟨rfl, s', (HW6.out.below ((Below.refl _ wr).alloc (Nat.le_refl _) _)).rd⟩⟩
              · have hb' : decide (wrap64 (wrap64 l[k].f1 + wrap64 l[k].f3) ≤ size) = true := hb
                go_wp2_with (fail)
                refine (MU.out _ 104 _).mono ?_
                rintro e w22 ⟨rfl, rfl⟩
                have hBl : Below wr.heap.size wr (wr.alloc (.cells #[.int .i64 l[k].f0, .int .u32 l[k].f1, .int .u32 l[k].f2, .int .u32 l[k].f3, .int .u32 l[k].f4, .int .i64 l[k].f5, .int .u32 l[k].f6] 39)) := (Below.refl _ wr).alloc (Nat.le_refl _) _
                have HW7 := Lib.hid (HW6.out.below hBl)
                have HR7 := Lib.hid (Kd.R_below HR6.out hBl)
                clear hBl
                go_wp2
                refine ⟨⟨k + 1, by go_num, hlt, fun j hj hjk => ?_, HW7.out, HR7.out⟩, by simp [intOf]; omega⟩
                rcases Nat.lt_or_ge j k with h1 | h1
                · exact hn'.out j hj h1
                · obtain rfl : j = k := by omega
                  exact hb
            · have e4 : k = l.length := by omega
              subst e4
              have E9 := Lib.hid (EOK.out (fun j hj => hn j hj hj))
              have b0 : decide (((l.length : Nat) : Int) < ((l.length : Nat) : Int)) = false := decide_eq_false (by omega)
              have HW6 := Lib.hid hW
              have HR6 := Lib.hid hR
              have q0 := eblk_cell (j := 0) hW.t5 rfl; have q1 := eblk_cell (j := 1) hW.t5 rfl; have q2 := eblk_cell (j := 2) hW.t5 rfl; have p0 := eblk_cell (j := 0) hW.t4 rfl; have p1 := eblk_cell (j := 1) hW.t4 rfl; have p2 := eblk_cell (j := 2) hW.t4 rfl; have qf := fun j => eblk_free (j := j) hW.t4
              clear hn EOK EBAD H5 K5 hW hR
              go_wp2
              clear q0 q1 q2 p0 p1 p2 qf
              obtain ⟨W', hW'⟩ : ∃ W', W' = ((wr.setCell ⟨w.heap.size, 0, none⟩ (.bool false)).setCell ⟨w.heap.size, 1, none⟩ (.int .u32 entry)).setCell ⟨w.heap.size, 2, none⟩ (.slice A l.length c) := ⟨_, rfl⟩
              rw [← hW']
              have hB4 : W'.heap[w.heap.size]? = some (.cells #[.bool false, .int .u32 entry, .slice A l.length c] 26 (0, 0)) := by
                rw [hW']
                exact blk_put (blk_put (blk_put HW6.out.t4 0 (.bool false) rfl) 1 (.int .u32 entry) rfl) 2 _ rfl
              have hRd : Rd b w W' s' := by
                rw [hW']
                exact ((HW6.out.rd.setNew HW6.out.lt (Nat.le_refl _) 0 _).setNew HW6.out.lt (Nat.le_refl _) 1 _).setNew HW6.out.lt (Nat.le_refl _) 2 _
              have hKR : Kd.R k39 39 W' w.heap.size (fun k => w.heap.size ≤ k) (.slice A l.length c) l := by
                refine Kd.R_mono (Kd.R_step (w1 := W') HR6.out (fun q hq hlt => ?_)) (fun q hq => by omega)
                rw [hW']
                rw [Below.heap_setCell _ ⟨w.heap.size, 2, none⟩ _ q (by show q ≠ w.heap.size; omega), Below.heap_setCell _ ⟨w.heap.size, 1, none⟩ _ q (by show q ≠ w.heap.size; omega), Below.heap_setCell _ ⟨w.heap.size, 0, none⟩ _ q (by show q ≠ w.heap.size; omega)]
              refine bodyPost_ret (results_cell_row rfl _ _ w.heap.size 26 #[.bool false, .int .u32 entry, .slice A l.length c] (0, 0) _ rfl hB4 Try.underlying26 rfl (by kernel_rfl)) rfl ?_
              rw [E9.out]
              exact ⟨_, rfl, hKR, hRd⟩
        · rw [hany] at FT ER
          rw [if_pos rfl] at ER
          go_wp2_with (go_at_call 15; (with_reducible refine FT.out.mono ?_); rintro e w20 ⟨rfl, hb⟩)
          go_wp2_with (fail)
          refine (MU.out _ 103 _).mono ?_
          rintro e w21 ⟨rfl, rfl⟩
          exact ⟨rfl, by rw [ER.out]; exact ⟨rfl, s', (HW'.out.below hb).rd⟩⟩
  · skip
    have q0 := eblk_cell (j := 0) D1.out.t5 rfl; have q1 := eblk_cell (j := 1) D1.out.t5 rfl; have q2 := eblk_cell (j := 2) D1.out.t5 rfl; have qf := fun j => eblk_free (j := j) D1.out.t5; have rc := eblk_cell (j := 0) D1.out.rd.cell rfl
    go_wp2_with (fail)
    refine (MU.out _ 103 _).mono ?_
    rintro e w9 ⟨rfl, rfl⟩
    go_wp2_with (fail)
    have D2 := Lib.hid (D1.out.put 0 (.bool true) #[.bool true, .int .u32 0, .slice none 0 0] rfl)
    clear q0 q1 q2 qf rc
    have W2 := is_new b w9.heap.size 1 [1] #[.int .u32 1] s1 _ D2.out.rd.cell (by simp [World.setCell]) rfl rfl (by decide) (by omega)
    cases h2 : rdIs [1] s1 with
    | error c =>
      rw [h2] at W2
      refine W2.mono ?_
      rintro e w2 ⟨rfl, z, R1⟩
      have e : rdHeader size s = .error c := by simp [rdHeader, h1, h2]
      exact ⟨rfl, by rw [e]; exact ⟨rfl, z, (D2.out.step R1).rd⟩⟩
    | ok p =>
    obtain ⟨_, s2⟩ := p
    have z2 := rdIs_size h2
    rw [h2] at W2
    refine W2.mono ?_
    rintro e w2 ⟨rfl, R1⟩
    have D3 := Lib.hid (D2.out.step R1)
    clear R1 W2
    go_wp2_with (fail)
    have W3 := reader_word.calls b s2 _ D3.out.rd.cell (by omega)
    cases h3 : rdNum 4 s2 with
    | error c =>
      rw [h3] at W3
      refine W3.mono ?_
      rintro e w3 ⟨rfl, z, R1⟩
      have e : rdHeader size s = .error c := by simp [rdHeader, h1, h2, h3]
      exact ⟨rfl, by rw [e]; exact ⟨rfl, z, (D3.out.step R1).rd⟩⟩
    | ok p =>
    obtain ⟨entry, s3⟩ := p
    have z3 := rdNum_size h3
    rw [h3] at W3
    refine W3.mono ?_
    rintro e w3 ⟨rfl, R1⟩
    have D4 := Lib.hid (D3.out.step R1)
    clear R1 W3
    have q0 := eblk_cell (j := 0) D4.out.t5 rfl; have q1 := eblk_cell (j := 1) D4.out.t5 rfl; have q2 := eblk_cell (j := 2) D4.out.t5 rfl; have qf := fun j => eblk_free (j := j) D4.out.t5; have rc := eblk_cell (j := 0) D4.out.rd.cell rfl
    go_wp2_with (fail)
    have D5 := Lib.hid (D4.out.put 1 (.int .u32 entry) #[.bool true, .int .u32 entry, .slice none 0 0] rfl)
    clear q0 q1 q2 qf rc
    have W4 := is_new b w3.heap.size 4 [52, 0, 1879052288, 3407904] #[.int .u32 52, .int .u32 0, .int .u32 1879052288, .int .u32 3407904] s3 _ D5.out.rd.cell (by simp [World.setCell]) rfl rfl (by decide) (by omega)
    cases h4 : rdIs [52, 0, 1879052288, 3407904] s3 with
    | error c =>
      rw [h4] at W4
      refine W4.mono ?_
      rintro e w4 ⟨rfl, z, R1⟩
      have e : rdHeader size s = .error c := by simp [rdHeader, h1, h2, h3, h4]
      exact ⟨rfl, by rw [e]; exact ⟨rfl, z, (D5.out.step R1).rd⟩⟩
    | ok p =>
    obtain ⟨_, s4⟩ := p
    have z4 := rdIs_size h4
    rw [h4] at W4
    refine W4.mono ?_
    rintro e w4 ⟨rfl, R1⟩
    have D6 := Lib.hid (D5.out.step R1)
    clear R1 W4
    go_wp2_with (fail)
    have W5 := reader_half.calls b s4 _ D6.out.rd.cell (by omega)
    cases h5 : rdNum 2 s4 with
    | error c =>
      rw [h5] at W5
      refine W5.mono ?_
      rintro e w5 ⟨rfl, z, R1⟩
      have e : rdHeader size s = .error c := by simp [rdHeader, h1, h2, h3, h4, h5]
      exact ⟨rfl, by rw [e]; exact ⟨rfl, z, (D6.out.step R1).rd⟩⟩
    | ok p =>
    obtain ⟨n, s5⟩ := p
    have z5 := rdNum_size h5
    rw [h5] at W5
    refine W5.mono ?_
    rintro e w5 ⟨rfl, R1⟩
    have D7 := Lib.hid (D6.out.step R1)
    clear R1 W5
    go_wp2_with (fail)
    have W6 := reader_half.calls b s5 _ D7.out.rd.cell (by omega)
    cases h6 : rdNum 2 s5 with
    | error c =>
      rw [h6] at W6
      refine W6.mono ?_
      rintro e w6 ⟨rfl, z, R1⟩
      have e : rdHeader size s = .error c := by simp [rdHeader, h1, h2, h3, h4, h5, h6]
      exact ⟨rfl, by rw [e]; exact ⟨rfl, z, (D7.out.step R1).rd⟩⟩
    | ok p =>
    obtain ⟨hf, s6⟩ := p
    have z6 := rdNum_size h6
    rw [h6] at W6
    refine W6.mono ?_
    rintro e w6 ⟨rfl, R1⟩
    have D8 := Lib.hid (D7.out.step R1)
    clear R1 W6
    by_cases g1 : ¬ hf = 0
    · have b1 : (hf == 0) = false := beq_eq_false_iff_ne.2 g1
      go_wp2_with (fail)
      refine (MU.out _ 103 _).mono ?_
      rintro e w9 ⟨rfl, rfl⟩
      have e : rdHeader size s = .error 103 := by simp [rdHeader, h1, h2, h3, h4, h5, h6, g1]
      exact ⟨rfl, by rw [e]; exact ⟨rfl, s6, D8.out.rd⟩⟩
    have b1 : (hf == 0) = true := beq_iff_eq.2 (by omega)
    replace g1 : hf = 0 := by omega
    subst g1
    clear b1
    go_wp2_with (fail)
    have W7 := reader_word.calls b s6 _ D8.out.rd.cell (by omega)
    cases h7 : rdNum 4 s6 with
    | error c =>
      rw [h7] at W7
      refine W7.mono ?_
      rintro e w7 ⟨rfl, z, R1⟩
      have e : rdHeader size s = .error c := by simp [rdHeader, h1, h2, h3, h4, h5, h6, h7]
      exact ⟨rfl, by rw [e]; exact ⟨rfl, z, (D8.out.step R1).rd⟩⟩
    | ok p =>
    obtain ⟨z, s7⟩ := p
    have z7 := rdNum_size h7
    rw [h7] at W7
    refine W7.mono ?_
    rintro e w7 ⟨rfl, R1⟩
    have D9 := Lib.hid (D8.out.step R1)
    clear R1 W7
    by_cases g1 : ¬ z = 0
    · have b1 : (z == 0) = false := beq_eq_false_iff_ne.2 g1
      go_wp2_with (fail)
      refine (MU.out _ 103 _).mono ?_
      rintro e w9 ⟨rfl, rfl⟩
      have e : rdHeader size s = .error 103 := by simp [rdHeader, h1, h2, h3, h4, h5, h6, h7, g1]
      exact ⟨rfl, by rw [e]; exact ⟨rfl, s7, D9.out.rd⟩⟩
    replace g1 : z = 0 := by omega
    subst g1
    by_cases g2 : ¬ n ≤ 16
    · have b2 : decide (n ≤ 16) = false := decide_eq_false g2
      go_wp2_with (fail)
      refine (MU.out _ 103 _).mono ?_
      rintro e w9 ⟨rfl, rfl⟩
      have e : rdHeader size s = .error 103 := by simp [rdHeader, h1, h2, h3, h4, h5, h6, h7, g2]
      exact ⟨rfl, by rw [e]; exact ⟨rfl, s7, D9.out.rd⟩⟩
    replace g2 : n ≤ 16 := by omega
    have b2 : decide (n ≤ 16) = true := decide_eq_true g2
    go_wp2_with (fail)
    refine (MU.out _ 103 _).mono ?_
    rintro e w9 ⟨rfl, rfl⟩
    have EH : rdHeader size s = rdBody size true entry n s7 := by simp [rdHeader, h1, h2, h3, h4, h5, h6, h7, g2]
    have q0 := eblk_cell (j := 0) D9.out.t5 rfl; have q1 := eblk_cell (j := 1) D9.out.t5 rfl; have q2 := eblk_cell (j := 2) D9.out.t5 rfl; have qf := fun j => eblk_free (j := j) D9.out.t5; have rc := eblk_cell (j := 0) D9.out.rd.cell rfl
    have nr := rdNum_range h5
    have hw1 : wrap64 n = n := w64_id' (by omega) (by omega)
    have hw2 : wrap64 (n * 32) = n * 32 := w64_id' (by omega) (by omega)
    have EH' := Lib.hid EH
    have hz7 : s7.size ≤ s.size := by omega
    obtain ⟨N, hN⟩ : ∃ N : Nat, n.toNat = N := ⟨_, rfl⟩
    have hN16 : N ≤ 16 := by omega
    have HN := Lib.hid (show n.toNat = N ∧ n = (N : Int) from ⟨hN, by omega⟩)
    clear hN
    clear EH h1 h2 h3 h4 h5 h6 h7 g2 z1 z2 z3 z4 z5 z6
    by_cases g3 : (s7.size : Int) < n * 32
    · have b3 : decide (n * 32 ≤ (s7.size : Int)) = false := decide_eq_false (by omega)
      go_wp2_with (fail)
      refine (MU.out _ 101 _).mono ?_
      rintro e w10 ⟨rfl, rfl⟩
      have e : rdHeader size s = .error 101 := by rw [EH'.out]; unfold rdBody; rw [if_pos (by omega)]
      exact ⟨rfl, by rw [e]; exact ⟨rfl, s7, D9.out.rd⟩⟩
    have b3 : decide (n * 32 ≤ (s7.size : Int)) = true := decide_eq_true (by omega)
    go_wp2_with (fail)
    refine (MU.out _ 101 _).mono ?_
    rintro e w10 ⟨rfl, rfl⟩
    have EB : rdHeader size s = (match rdSegs n.toNat s7 with | .error c => .error c | .ok (l, s1) => if l.any unfit = true then .error 103 else if l.all (fun x => decide (wrap64 (wrap64 x.f1 + wrap64 x.f3) ≤ size)) = true then .ok ((true, entry, l), s1) else .error 104) := by rw [EH'.out]; unfold rdBody; rw [if_neg (by omega)]
    clear q0 q1 q2 qf rc
    rw [HN.out.1] at EB
    have EB' := Lib.hid EB
    clear EB EH' b3 b2 hw2
    go_wp2
    go_loopw [59] (fun t wr => ∃ (k : Nat) (s' : ByteArray) (l : List S39) (v : Value), t = .int .u32 k ∧ k ≤ N ∧ l.length = k ∧ s'.size ≤ s.size ∧ rdSegs N s7 = (match rdSegs (N - k) s' with | .error c => .error c | .ok (l2, s2) => .ok (l ++ l2, s2)) ∧ HdrW b w wr s' #[.bool true, .int .u32 entry, v] ∧ Kd.R k39 39 wr w.heap.size (fun q => w.heap.size + 1 < q) v l) (fun t _ => N - (intOf t).toNat)
    case atStart => exact ⟨0, s7, [], .slice none 0 0, rfl, Nat.zero_le _, rfl, by omega, by rw [Nat.sub_zero]; cases rdSegs N s7 with | error c => rfl | ok p => rfl, D9.out, Kd.R_nil _ _ _ _ _⟩
    case round =>
      obtain ⟨k, s', l, v, rfl, hk, hkl, hsz, hjoin, HW, HR⟩ := hrel
      by_cases hlt : k < N
      · have b0 : decide ((k : Int) < n) = true := decide_eq_true (by have := HN.out.2; omega)
        have q0 := eblk_cell (j := 2) HW.t5 rfl; have qf := fun j => eblk_free (j := j) HW.t5
        have HW' := Lib.hid HW
        have HR' := Lib.hid HR
        have HJ := Lib.hid hjoin
        clear HW HR hjoin
        go_wp2
        have HD := Lib.hid (HW'.out.below ((Below.refl _ wr).drew))
        have RD := Lib.hid (Kd.R_below HR'.out ((Below.refl _ wr).drew))
        clear q0 qf
        have q0 := eblk_cell (j := 2) HD.out.t5 rfl; have qf := fun j => eblk_free (j := j) HD.out.t5
        have SG := reader_seg.calls b s' wr.drew HD.out.rd.cell (by omega)
        cases hsg : rdSeg s' with
        | error c =>
          rw [hsg] at SG
          refine wp_region_any (by kernel_rfl) ?_
          try (change wpAny _ _ _ _ _ _ _ (World.drew _))
          refine wpAny_take (i := 0) (v := ?_) rfl (by kernel_rfl) (by kernel_rfl) (by kernel_rfl) (fun _ _ _ h => h) (Or.inl ⟨by rfl, ?_⟩) ?_
          rotate_left
          · intro w'
            go_simp
            with_reducible rfl
          refine wpAny_take (i := 2) (v := ?_) rfl (by kernel_rfl) (by kernel_rfl) (by kernel_rfl) (fun _ _ _ h => h) (Or.inl ⟨by rfl, ?_⟩) ?_
          rotate_left
          · intro w'
            go_simp
            with_reducible rfl
          refine wpAny_ready (rs := [1, 3]) (by kernel_rfl) (by simp) ?_
          have eH : rdHeader size s = .error c := by rw [EB'.out, HJ.out, rdSegs_err (by omega) hsg]
          have EH2 := Lib.hid eH
          clear eH hsg
          refine AllReady.cons rfl (fun K hK => ?_) ?_
          · go_simp
            refine hK _ _ ?_
            clear hK K
            refine wpAny_ready (rs := [3]) (by kernel_rfl) (by simp) ?_
            refine AllReady.cons rfl (fun K hK => ?_) AllReady.nil
            go_simp
            go_wp2_with (go_at_call 39; refine SG.mono ?_; rintro e w11 ⟨rfl, z, R1⟩)
            exact ⟨rfl, by rw [EH2.out]; exact ⟨rfl, z, (HD.out.step R1).rd⟩⟩
          · refine AllReady.cons rfl (fun K hK => ?_) AllReady.nil
            go_simp
            go_wp2_with (go_at_call 39; refine SG.mono ?_; rintro e w11 ⟨rfl, z, R1⟩)
            exact ⟨rfl, by rw [EH2.out]; exact ⟨rfl, z, (HD.out.step R1).rd⟩⟩
        | ok p =>
          obtain ⟨x, s2⟩ := p
          rw [hsg] at SG
          have eJ := HJ.out
          rw [rdSegs_ok (by omega) hsg] at eJ
          have HJ2 := Lib.hid eJ
          have hs2 := rdSeg_size hsg
          clear eJ hsg
          refine wp_region_any (by kernel_rfl) ?_
          try (change wpAny _ _ _ _ _ _ _ (World.drew _))
          refine wpAny_take (i := 0) (v := ?_) rfl (by kernel_rfl) (by kernel_rfl) (by kernel_rfl) (fun _ _ _ h => h) (Or.inl ⟨by rfl, ?_⟩) ?_
          rotate_left
          · intro w'
            go_simp
            with_reducible rfl
          refine wpAny_take (i := 2) (v := ?_) rfl (by kernel_rfl) (by kernel_rfl) (by kernel_rfl) (fun _ _ _ h => h) (Or.inl ⟨by rfl, ?_⟩) ?_
          rotate_left
          · intro w'
            go_simp
            with_reducible rfl
          refine wpAny_ready (rs := [1, 3]) (by kernel_rfl) (by simp) ?_
          refine AllReady.cons rfl (fun K hK => ?_) ?_
          · go_simp
            refine hK _ _ ?_
            clear hK K
            refine wpAny_ready (rs := [3]) (by kernel_rfl) (by simp) ?_
            refine AllReady.cons rfl (fun K hK => ?_) AllReady.nil
            go_simp
            go_wp2_with (go_at_call 39; refine SG.mono ?_; rintro e w11 ⟨rfl, R1⟩)
            have H2 := Lib.hid (HD.out.step R1)
            have K2 := Lib.hid (Kd.R_step (w1 := w11) RD.out (fun q hq hlt => R1.keep q hlt (by have := HD.out.lt; omega)))
            clear R1
            refine wpAny_ready (rs := [4]) (by kernel_rfl) (by simp) ?_
            refine AllReady.cons rfl (fun K hK => ?_) AllReady.nil
            go_simp
            refine hK _ _ ?_
            clear hK K
            refine wpAny_ready (rs := [5]) (by kernel_rfl) (by simp) ?_
            refine AllReady.cons rfl (fun K hK => ?_) AllReady.nil
            refine Kd.R_append_step k39 (w0 := w11) w.heap.size (by rfl) (.tmp 62) (.tmp 65) 24 39 (.agg #[.int .i64 0, .int .u32 0, .int .u32 0, .int .u32 0, .int .u32 0, .int .i64 0, .int .u32 0]) 40 rfl Try.underlying24 info39 rfl (by decide) (by omega) v l x [.int .i64 x.f0, .int .u32 x.f1, .int .u32 x.f2, .int .u32 x.f3, .int .u32 x.f4, .int .i64 x.f5, .int .u32 x.f6] (fun q => w.heap.size + 1 < q) (fun _ => False) rfl rfl ?aP (fun _ hk => hk.elim) ?aF ?aO ?aB ?aS ?aL ?_
            case aP => exact k39_mkM _ _ _ x
            case aF => intro q hq; have := eblk_lt H2.out.t5; omega
            case aO => exact K2.out
            case aB => exact Below.refl _ _
            case aS => have := eblk_lt H2.out.t4; omega
            case aL => omega
            intro v1 w12 hR1 hB1 hG1 hat
            obtain ⟨Av, cv, hv1⟩ := Kd.R_slice hR1
            have hvl : v1 = .slice Av (l ++ [x]).length cv := hv1
            clear hv1
            obtain ⟨ln, hln⟩ : ∃ ln, (l ++ [x]).length = ln := ⟨_, rfl⟩
            rw [hln] at hvl
            subst hvl
            clear hln
            have H3 := Lib.hid (H2.out.grown hB1 hG1 (fun q hq => K2.out.1 q hq))
            have R3 := Lib.hid hR1
            clear hR1 hB1 hG1 hat
            have q0 := eblk_cell (j := 2) H3.out.t5 rfl; have qf := fun j => eblk_free (j := j) H3.out.t5
            refine hK _ _ ?_
            clear hK K
            refine wpAny_ready (rs := [6]) (by kernel_rfl) (by simp) ?_
            refine AllReady.cons rfl (fun K hK => ?_) AllReady.nil
            go_simp
            refine hK _ _ ?_
            clear hK K
            refine wpAny_ready (rs := [7]) (by kernel_rfl) (by simp) ?_
            refine AllReady.cons rfl (fun K hK => ?_) AllReady.nil
            go_simp
            refine hK _ _ ?_
            clear hK K
            refine wpAny_done (by kernel_rfl) ?_ _
            have H4 := Lib.hid (H3.out.put 2 (.slice Av ln cv) #[.bool true, .int .u32 entry, .slice Av ln cv] rfl)
            have R4 := Lib.hid (Kd.R_step (w1 := w12.setCell ⟨w.heap.size + 1, 2, none⟩ (.slice Av ln cv)) R3.out (fun q hq _ => Below.heap_setCell w12 ⟨w.heap.size + 1, 2, none⟩ (.slice Av ln cv) q (by show q ≠ w.heap.size + 1; omega)))
            clear q0 qf
            go_wp2
            refine ⟨⟨k + 1, s2, l ++ [x], .slice Av ln cv, by go_num, hlt, by simp [hkl], by omega, ?_, H4.out, R4.out⟩, by simp [intOf]; omega⟩
            rw [HJ2.out, show N - k - 1 = N - (k + 1) from by omega]
            cases rdSegs (N - (k + 1)) s2 with
            | error c => rfl
            | ok p => simp
          · refine AllReady.cons rfl (fun K hK => ?_) AllReady.nil
            go_simp
            go_wp2_with (go_at_call 39; refine SG.mono ?_; rintro e w11 ⟨rfl, R1⟩)
            have H2 := Lib.hid (HD.out.step R1)
            have K2 := Lib.hid (Kd.R_step (w1 := w11) RD.out (fun q hq hlt => R1.keep q hlt (by have := HD.out.lt; omega)))
            clear R1
            clear q0 qf
            refine wpAny_ready (rs := [1, 4]) (by kernel_rfl) (by simp) ?_
            refine AllReady.cons rfl (fun K hK => ?_) ?_
            · have q0 := eblk_cell (j := 2) H2.out.t5 rfl
              go_simp
              refine hK _ _ ?_
              clear hK K q0
              refine wpAny_ready (rs := [4]) (by kernel_rfl) (by simp) ?_
              refine AllReady.cons rfl (fun K hK => ?_) AllReady.nil
              go_simp
              refine hK _ _ ?_
              clear hK K
              refine wpAny_ready (rs := [5]) (by kernel_rfl) (by simp) ?_
              refine AllReady.cons rfl (fun K hK => ?_) AllReady.nil
              refine Kd.R_append_step k39 (w0 := w11) w.heap.size (by rfl) (.tmp 62) (.tmp 65) 24 39 (.agg #[.int .i64 0, .int .u32 0, .int .u32 0, .int .u32 0, .int .u32 0, .int .i64 0, .int .u32 0]) 40 rfl Try.underlying24 info39 rfl (by decide) (by omega) v l x [.int .i64 x.f0, .int .u32 x.f1, .int .u32 x.f2, .int .u32 x.f3, .int .u32 x.f4, .int .i64 x.f5, .int .u32 x.f6] (fun q => w.heap.size + 1 < q) (fun _ => False) rfl rfl ?aP (fun _ hk => hk.elim) ?aF ?aO ?aB ?aS ?aL ?_
              case aP => exact k39_mkM _ _ _ x
              case aF => intro q hq; have := eblk_lt H2.out.t5; omega
              case aO => exact K2.out
              case aB => exact Below.refl _ _
              case aS => have := eblk_lt H2.out.t4; omega
              case aL => omega
              intro v1 w12 hR1 hB1 hG1 hat
              obtain ⟨Av, cv, hv1⟩ := Kd.R_slice hR1
              have hvl : v1 = .slice Av (l ++ [x]).length cv := hv1
              clear hv1
              obtain ⟨ln, hln⟩ : ∃ ln, (l ++ [x]).length = ln := ⟨_, rfl⟩
              rw [hln] at hvl
              subst hvl
              clear hln
              have H3 := Lib.hid (H2.out.grown hB1 hG1 (fun q hq => K2.out.1 q hq))
              have R3 := Lib.hid hR1
              clear hR1 hB1 hG1 hat
              have q0 := eblk_cell (j := 2) H3.out.t5 rfl; have qf := fun j => eblk_free (j := j) H3.out.t5
              refine hK _ _ ?_
              clear hK K
              refine wpAny_ready (rs := [6]) (by kernel_rfl) (by simp) ?_
              refine AllReady.cons rfl (fun K hK => ?_) AllReady.nil
              go_simp
              refine hK _ _ ?_
              clear hK K
              refine wpAny_ready (rs := [7]) (by kernel_rfl) (by simp) ?_
              refine AllReady.cons rfl (fun K hK => ?_) AllReady.nil
              go_simp
              refine hK _ _ ?_
              clear hK K
              refine wpAny_done (by kernel_rfl) ?_ _
              have H4 := Lib.hid (H3.out.put 2 (.slice Av ln cv) #[.bool true, .int .u32 entry, .slice Av ln cv] rfl)
              have R4 := Lib.hid (Kd.R_step (w1 := w12.setCell ⟨w.heap.size + 1, 2, none⟩ (.slice Av ln cv)) R3.out (fun q hq _ => Below.heap_setCell w12 ⟨w.heap.size + 1, 2, none⟩ (.slice Av ln cv) q (by show q ≠ w.heap.size + 1; omega)))
              clear q0 qf
              go_wp2
              refine ⟨⟨k + 1, s2, l ++ [x], .slice Av ln cv, by go_num, hlt, by simp [hkl], by omega, ?_, H4.out, R4.out⟩, by simp [intOf]; omega⟩
              rw [HJ2.out, show N - k - 1 = N - (k + 1) from by omega]
              cases rdSegs (N - (k + 1)) s2 with
              | error c => rfl
              | ok p => simp
            · refine AllReady.cons rfl (fun K hK => ?_) AllReady.nil
              go_simp
              refine hK _ _ ?_
              clear hK K
              have q0 := eblk_cell (j := 2) (H2.out.below ((Below.refl _ w11).alloc (Nat.le_refl _) (.cells #[.int .i64 x.f0, .int .u32 x.f1, .int .u32 x.f2, .int .u32 x.f3, .int .u32 x.f4, .int .i64 x.f5, .int .u32 x.f6] 39))).t5 rfl
              refine wpAny_ready (rs := [1]) (by kernel_rfl) (by simp) ?_
              refine AllReady.cons rfl (fun K hK => ?_) AllReady.nil
              go_simp
              refine hK _ _ ?_
              clear hK K q0
              refine wpAny_ready (rs := [5]) (by kernel_rfl) (by simp) ?_
              refine AllReady.cons rfl (fun K hK => ?_) AllReady.nil
              refine Kd.R_append_step k39 (w0 := w11) w.heap.size (by rfl) (.tmp 62) (.tmp 65) 24 39 (.agg #[.int .i64 0, .int .u32 0, .int .u32 0, .int .u32 0, .int .u32 0, .int .i64 0, .int .u32 0]) 40 rfl Try.underlying24 info39 rfl (by decide) (by omega) v l x [.int .i64 x.f0, .int .u32 x.f1, .int .u32 x.f2, .int .u32 x.f3, .int .u32 x.f4, .int .i64 x.f5, .int .u32 x.f6] (fun q => w.heap.size + 1 < q) (fun _ => False) rfl rfl ?aP (fun _ hk => hk.elim) ?aF ?aO ?aB ?aS ?aL ?_
              case aP => exact k39_mkM _ _ _ x
              case aF => intro q hq; have := eblk_lt H2.out.t5; omega
              case aO => exact K2.out
              case aB => exact Below.refl _ _
              case aS => have := eblk_lt H2.out.t4; omega
              case aL => omega
              intro v1 w12 hR1 hB1 hG1 hat
              obtain ⟨Av, cv, hv1⟩ := Kd.R_slice hR1
              have hvl : v1 = .slice Av (l ++ [x]).length cv := hv1
              clear hv1
              obtain ⟨ln, hln⟩ : ∃ ln, (l ++ [x]).length = ln := ⟨_, rfl⟩
              rw [hln] at hvl
              subst hvl
              clear hln
              have H3 := Lib.hid (H2.out.grown hB1 hG1 (fun q hq => K2.out.1 q hq))
              have R3 := Lib.hid hR1
              clear hR1 hB1 hG1 hat
              have q0 := eblk_cell (j := 2) H3.out.t5 rfl; have qf := fun j => eblk_free (j := j) H3.out.t5
              refine hK _ _ ?_
              clear hK K
              refine wpAny_ready (rs := [6]) (by kernel_rfl) (by simp) ?_
              refine AllReady.cons rfl (fun K hK => ?_) AllReady.nil
              go_simp
              refine hK _ _ ?_
              clear hK K
              refine wpAny_ready (rs := [7]) (by kernel_rfl) (by simp) ?_
              refine AllReady.cons rfl (fun K hK => ?_) AllReady.nil
              go_simp
              refine hK _ _ ?_
              clear hK K
              refine wpAny_done (by kernel_rfl) ?_ _
              have H4 := Lib.hid (H3.out.put 2 (.slice Av ln cv) #[.bool true, .int .u32 entry, .slice Av ln cv] rfl)
              have R4 := Lib.hid (Kd.R_step (w1 := w12.setCell ⟨w.heap.size + 1, 2, none⟩ (.slice Av ln cv)) R3.out (fun q hq _ => Below.heap_setCell w12 ⟨w.heap.size + 1, 2, none⟩ (.slice Av ln cv) q (by show q ≠ w.heap.size + 1; omega)))
              clear q0 qf
              go_wp2
              refine ⟨⟨k + 1, s2, l ++ [x], .slice Av ln cv, by go_num, hlt, by simp [hkl], by omega, ?_, H4.out, R4.out⟩, by simp [intOf]; omega⟩
              rw [HJ2.out, show N - k - 1 = N - (k + 1) from by omega]
              cases rdSegs (N - (k + 1)) s2 with
              | error c => rfl
              | ok p => simp
      · have e4 : k = N := by omega
        subst e4
        subst hkl
        have hN0 := HN.out.2
        have b0 : decide (((l.length : Nat) : Int) < n) = false := decide_eq_false (by omega)
        have eL : rdSegs l.length s7 = .ok (l, s') := by rw [hjoin, Nat.sub_self]; simp [rdSegs]
        obtain ⟨A, c, rfl, hlc, hC⟩ := Kd.R_reads HR
        have eR : rdHeader size s = (if l.any unfit = true then .error 103 else if l.all (fun x => decide (wrap64 (wrap64 x.f1 + wrap64 x.f3) ≤ size)) = true then .ok ((true, entry, l), s') else .error 104) := by rw [EB'.out, eL]
        have ER := Lib.hid eR
        clear eR eL hjoin EB' HN hN0
        have q0 := eblk_cell (j := 0) HW.t5 rfl; have q1 := eblk_cell (j := 1) HW.t5 rfl; have q2 := eblk_cell (j := 2) HW.t5 rfl
        have HF : elf_Fit.f true entry l = some (!(l.any unfit)) := by unfold elf_Fit.f; rw [if_pos (by omega)]
        have FT := Lib.hid (elf_Fit.calls true entry A c l _ wr hC hlc HF)
        have HW' := Lib.hid HW
        have HR' := Lib.hid HR
        clear HW HR hC HF
        cases hany : l.any unfit
        · rw [hany] at FT ER
          rw [if_neg (by decide)] at ER
          go_wp2_with (go_at_call 15; (with_reducible refine FT.out.mono ?_); rintro e w20 ⟨rfl, hb⟩)
          go_wp2_with (fail)
          refine (MU.out _ 103 _).mono ?_
          rintro e w21 ⟨rfl, rfl⟩
          have H5 := Lib.hid (HW'.out.below hb)
          have K5 := Lib.hid (Kd.R_below HR'.out hb)
          have EOK := Lib.hid (fun (h : ∀ (j : Nat) (hj : j < l.length), inRange size l[j] = true) => ER.out.trans (if_pos (List.all_eq_true.2 (fun x hx => by obtain ⟨j, hj, rfl⟩ := List.getElem_of_mem hx; exact h j hj))))
          have EBAD := Lib.hid (fun (j : Nat) (hj : j < l.length) (h : inRange size l[j] = false) => ER.out.trans (if_neg (fun ha => by have := List.all_eq_true.1 ha l[j] (List.getElem_mem hj); rw [show decide (wrap64 (wrap64 l[j].f1 + wrap64 l[j].f3) ≤ size) = false from h] at this; exact absurd this (by decide))))
          clear hb FT HW' HR' ER q0 q1 q2
          have q0 := eblk_cell (j := 0) H5.out.t5 rfl; have q1 := eblk_cell (j := 1) H5.out.t5 rfl; have q2 := eblk_cell (j := 2) H5.out.t5 rfl
          go_wp2
          clear q0 q1 q2
          go_loopw [75] (fun t wr => ∃ k : Nat, t = .int .i64 k ∧ k ≤ l.length ∧ (∀ j (hj : j < l.length), j < k → inRange size l[j] = true) ∧ HdrW b w wr s' #[.bool true, .int .u32 entry, .slice A l.length c] ∧ Kd.R k39 39 wr w.heap.size (fun q => w.heap.size + 1 < q) (.slice A l.length c) l) (fun t _ => l.length - (intOf t).toNat)
          case atStart => exact ⟨0, rfl, Nat.zero_le _, fun j _ hj => by omega, H5.out, K5.out⟩
          case round =>
            obtain ⟨k, rfl, hk, hn, hW, hR⟩ := hrel
            by_cases hlt : k < l.length
            · obtain ⟨Ax, cx, hx0, _, hCx⟩ := Kd.R_reads hR
              obtain ⟨rfl, rfl⟩ : Ax = A ∧ cx = c := by
                injection hx0 with h1 h2 h3
                exact ⟨h1.symm, h3.symm⟩
              obtain ⟨ad, rfl, c0, c1, c2, c3, c4, c5, c6⟩ := at_T39 hCx (k : Int) (by omega) (by omega)
              have hx : rd_T39 l (k : Int) = l[k] := by
                unfold rd_T39
                simp [hlt]
              rw [hx, Int.toNat_natCast] at c0 c1 c2 c3 c4 c5 c6
              have HW6 := Lib.hid hW
              have HR6 := Lib.hid hR
              have hn' := Lib.hid hn
              have EB2 := Lib.hid (EBAD.out k hlt)
              have EO2 := Lib.hid EOK.out
              clear hn hx hx0 hCx hW hR EOK EBAD H5 K5
              cases hb : inRange size l[k]
              · have hb' : decide (wrap64 (wrap64 l[k].f1 + wrap64 l[k].f3) ≤ size) = false := hb
                go_wp2_with (fail)
                refine (MU.out _ 104 _).mono ?_
                rintro e w22 ⟨rfl, rfl⟩
                exact ⟨rfl, by rw [EB2.out hb]; exact ⟨rfl, s', (HW6.out.below ((Below.refl _ wr).alloc (Nat.le_refl _) _)).rd⟩⟩
              · have hb' : decide (wrap64 (wrap64 l[k].f1 + wrap64 l[k].f3) ≤ size) = true := hb
                go_wp2_with (fail)
                refine (MU.out _ 104 _).mono ?_
                rintro e w22 ⟨rfl, rfl⟩
                have hBl : Below wr.heap.size wr (wr.alloc (.cells #[.int .i64 l[k].f0, .int .u32 l[k].f1, .int .u32 l[k].f2, .int .u32 l[k].f3, .int .u32 l[k].f4, .int .i64 l[k].f5, .int .u32 l[k].f6] 39)) := (Below.refl _ wr).alloc (Nat.le_refl _) _
                have HW7 := Lib.hid (HW6.out.below hBl)
                have HR7 := Lib.hid (Kd.R_below HR6.out hBl)
                clear hBl
                go_wp2
                refine ⟨⟨k + 1, by go_num, hlt, fun j hj hjk => ?_, HW7.out, HR7.out⟩, by simp [intOf]; omega⟩
                rcases Nat.lt_or_ge j k with h1 | h1
                · exact hn'.out j hj h1
                · obtain rfl : j = k := by omega
                  exact hb
            · have e4 : k = l.length := by omega
              subst e4
              have E9 := Lib.hid (EOK.out (fun j hj => hn j hj hj))
              have b0 : decide (((l.length : Nat) : Int) < ((l.length : Nat) : Int)) = false := decide_eq_false (by omega)
              have HW6 := Lib.hid hW
              have HR6 := Lib.hid hR
              have q0 := eblk_cell (j := 0) hW.t5 rfl; have q1 := eblk_cell (j := 1) hW.t5 rfl; have q2 := eblk_cell (j := 2) hW.t5 rfl; have p0 := eblk_cell (j := 0) hW.t4 rfl; have p1 := eblk_cell (j := 1) hW.t4 rfl; have p2 := eblk_cell (j := 2) hW.t4 rfl; have qf := fun j => eblk_free (j := j) hW.t4
              clear hn EOK EBAD H5 K5 hW hR
              go_wp2
              clear q0 q1 q2 p0 p1 p2 qf
              obtain ⟨W', hW'⟩ : ∃ W', W' = ((wr.setCell ⟨w.heap.size, 0, none⟩ (.bool true)).setCell ⟨w.heap.size, 1, none⟩ (.int .u32 entry)).setCell ⟨w.heap.size, 2, none⟩ (.slice A l.length c) := ⟨_, rfl⟩
              rw [← hW']
              have hB4 : W'.heap[w.heap.size]? = some (.cells #[.bool true, .int .u32 entry, .slice A l.length c] 26 (0, 0)) := by
                rw [hW']
                exact blk_put (blk_put (blk_put HW6.out.t4 0 (.bool true) rfl) 1 (.int .u32 entry) rfl) 2 _ rfl
              have hRd : Rd b w W' s' := by
                rw [hW']
                exact ((HW6.out.rd.setNew HW6.out.lt (Nat.le_refl _) 0 _).setNew HW6.out.lt (Nat.le_refl _) 1 _).setNew HW6.out.lt (Nat.le_refl _) 2 _
              have hKR : Kd.R k39 39 W' w.heap.size (fun k => w.heap.size ≤ k) (.slice A l.length c) l := by
                refine Kd.R_mono (Kd.R_step (w1 := W') HR6.out (fun q hq hlt => ?_)) (fun q hq => by omega)
                rw [hW']
                rw [Below.heap_setCell _ ⟨w.heap.size, 2, none⟩ _ q (by show q ≠ w.heap.size; omega), Below.heap_setCell _ ⟨w.heap.size, 1, none⟩ _ q (by show q ≠ w.heap.size; omega), Below.heap_setCell _ ⟨w.heap.size, 0, none⟩ _ q (by show q ≠ w.heap.size; omega)]
              refine bodyPost_ret (results_cell_row rfl _ _ w.heap.size 26 #[.bool true, .int .u32 entry, .slice A l.length c] (0, 0) _ rfl hB4 Try.underlying26 rfl (by kernel_rfl)) rfl ?_
              rw [E9.out]
              exact ⟨_, rfl, hKR, hRd⟩
        · rw [hany] at FT ER
          rw [if_pos rfl] at ER
          go_wp2_with (go_at_call 15; (with_reducible refine FT.out.mono ?_); rintro e w20 ⟨rfl, hb⟩)
          go_wp2_with (fail)
          refine (MU.out _ 103 _).mono ?_
          rintro e w21 ⟨rfl, rfl⟩
          exact ⟨rfl, by rw [ER.out]; exact ⟨rfl, s', (HW'.out.below hb).rd⟩⟩
end Go.Proofs.Ytonoabknmmecnaa.F
end
