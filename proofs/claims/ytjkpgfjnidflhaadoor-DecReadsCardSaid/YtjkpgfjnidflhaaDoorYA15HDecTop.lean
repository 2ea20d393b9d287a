import Derived.Below
import Derived.Deep.Draws
import Derived.Deep.AppendLies
import Derived.Maps.AppendAt
import Derived.OwnWalk
import Derived.Laws.BytesArg
import Derived.Laws.MakeOwn
import Derived.Laws.OwnMore
import Derived.Deep.OwnRows
import Derived.Tactics
import Derived.Lib.ConvBytes
import Derived.Laws.Slices
import Derived.WalkKit
import Derived.KernelRfl
import Derived.RowKit3
import Derived.Deep.LoopGhost
import Derived.Deep.QuietTactic
import Derived.BigQuiet
import Derived.WideLaws
import Derived.Deep.DeepCutAuto
import Derived.Deep.CutBlock
import Derived.Deep.RegionHeld3
import Derived.Laws.Rows
import Derived.Lib.AppendStr
import Derived.ArgAppend
import Derived.Laws.IdiomCopy
import Derived.RowKit
import Derived.OrdersHeld
import Derived.Laws.BitsLemmas
import Derived.Laws.StructEq
import Derived.ProofKit
import Derived.Lib.Hide
import Derived.Maps.OwnOps
import Derived.RangeFuncRecord
import Derived.Shelf.LaysM
import Derived.Shelf.Strings.Replace
import Derived.Lib.LaidTab
import Derived.Shelf.Abstract
import Derived.OwnWalkIn
import Derived.WalkSmall
import Derived.Laws.ResultCell
import Derived.Shelf.RegionOpen
import Derived.Deep.RegionWith
import Derived.Test.YtjkpgfjnidflhaaDoorZF0
import Derived.Test.YtjkpgfjnidflhaaDoorYA3
import Derived.Test.YtjkpgfjnidflhaaDoorYA5HDecTake
import Derived.Test.YtjkpgfjnidflhaaDoorYA7HDecLay
import Derived.Test.YtjkpgfjnidflhaaDoorYA8HDecForms
import Derived.Test.YtjkpgfjnidflhaaDoorYA10HDecFind
import Derived.Test.YtjkpgfjnidflhaaDoorYA14HDecNamed
section
namespace Go.Proofs.YtjkpgfjnidflhaaDoor.F
open Go.RowKit Go.Shelf Go.Proofs.YtjkpgfjnidflhaaDoorW.PrintWords Go.Proofs.YtjkpgfjnidflhaaDoorW.PrintLast Go.Proofs.YtjkpgfjnidflhaaDoorW.PrintMore
set_option linter.unusedVariables false
set_option linter.unusedSimpArgs false
theorem found_mem {α : Type} (p : α → Bool) (z : α) : ∀ (l : List α), (foundOf p z l).2 = true → (foundOf p z l).1 ∈ l ∧ p (foundOf p z l).1 = true
  | [], h => by cases h
  | x :: l, h => by
    unfold foundOf at h ⊢
    by_cases hp : p x = true
    · rw [if_pos hp]
      exact ⟨List.mem_cons_self, hp⟩
    · rw [if_neg hp] at h ⊢
      exact ⟨List.mem_cons_of_mem _ (found_mem p z l h).1, (found_mem p z l h).2⟩
-- HAND fn=ferry/dec.named ; rounds=0 ; making=1 ; laid=1
def dec_named.f (a0 : ByteArray) : Option (ByteArray × Int × Int × ByteArray × Bool) := some ((foundOf (named_p a0) z38 decRows).1.f0, (foundOf (named_p a0) z38 decRows).1.f1, (foundOf (named_p a0) z38 decRows).1.f2, (foundOf (named_p a0) z38 decRows).1.f3, (foundOf (named_p a0) z38 decRows).2)
set_option maxHeartbeats 4000000 in
set_option maxRecDepth 100000 in
theorem dec_named.calls (a0 : ByteArray) (r1 : ByteArray) (r2 : Int) (r3 : Int) (r4 : ByteArray) (r5 : Bool) (w : World) (hL : Laid w) (h : dec_named.f a0 = some (r1, r2, r3, r4, r5)) :
    Calls Tryd.prog 23 #[.string a0] w fun ex w' => ex = .returned (.tuple #[.agg #[.string r1, .int .u32 r2, .int .u32 r3, .string r4], .bool r5]) ∧ Below w.heap.size w w' := by
  unfold dec_named.f at h
  obtain ⟨⟨x, b⟩, hx⟩ : ∃ y, foundOf (named_p a0) z38 decRows = y := ⟨_, rfl⟩
  rw [hx] at h
  simp only [Option.some.injEq, Prod.mk.injEq] at h
  obtain ⟨rfl, rfl, rfl, rfl, rfl⟩ := h
  have FD := Lib.hid (fun pe w hL hp hpb => named_find.calls pe a0 w hL hp hpb x b hx)
  have T2 := Lib.hid (two_blocks w (.cells #[.string a0] 9) (.cells #[.string ⟨#[]⟩, .int .u32 0, .int .u32 0, .string ⟨#[]⟩] 38))
  have HL := Lib.hid (Laid.below hL T2.out.2.2.2)
  have p0 := Lib.hid (dblk_cell (j := 0) (v := .string a0) T2.out.1 rfl)
  clear hx hL
  go_enter Tryd.func23, Tryd.ntmps23
  go_wp2_with (go_at_call 15; (with_reducible refine (FD.out ⟨w.heap.size, 0, none⟩ _ HL.out p0.out (by rw [T2.out.2.2.1]; simp; omega)).mono ?_); rintro ex w1 ⟨rfl, hb1⟩; have B1 := Lib.hid (T2.out.2.2.2.trans (hb1.mono (by rw [T2.out.2.2.1]; omega))); have g1 := (hb1.block _ (by rw [T2.out.2.2.1]; omega)).trans T2.out.2.1; have q0 := dblk_cell (j := 0) (v := .string ⟨#[]⟩) g1 rfl; have u0 := dblk_free (j := 0) g1; have q1 := dblk_cell (j := 1) (v := .int .u32 0) g1 rfl; have u1 := dblk_free (j := 1) g1; have q2 := dblk_cell (j := 2) (v := .int .u32 0) g1 rfl; have u2 := dblk_free (j := 2) g1; have q3 := dblk_cell (j := 3) (v := .string ⟨#[]⟩) g1 rfl; have u3 := dblk_free (j := 3) g1; have G1 := Lib.hid g1; clear g1 hb1)
  refine bodyPost_ret (dres_ct rfl _ _ (w.heap.size + 1) 38 #[.string x.f0, .int .u32 x.f1, .int .u32 x.f2, .string x.f3] (0, 0) _ rfl ?_ Tryd.underlying38 rfl (by kernel_rfl) _ rfl) rfl ?_
  · refine blk_put (cs := #[.string x.f0, .int .u32 x.f1, .int .u32 x.f2, .string ⟨#[]⟩]) ?_ 3 _ rfl
    refine blk_put (cs := #[.string x.f0, .int .u32 x.f1, .int .u32 0, .string ⟨#[]⟩]) ?_ 2 _ rfl
    refine blk_put (cs := #[.string x.f0, .int .u32 0, .int .u32 0, .string ⟨#[]⟩]) ?_ 1 _ rfl
    refine blk_put (cs := #[.string ⟨#[]⟩, .int .u32 0, .int .u32 0, .string ⟨#[]⟩]) ?_ 0 _ rfl
    exact G1.out
  · exact ⟨rfl, (Below.setCell (p := ⟨w.heap.size + 1, 3, none⟩) (Below.setCell (p := ⟨w.heap.size + 1, 2, none⟩) (Below.setCell (p := ⟨w.heap.size + 1, 1, none⟩) (Below.setCell (p := ⟨w.heap.size + 1, 0, none⟩) B1.out (Nat.le_succ _) _) (Nat.le_succ _) _) (Nat.le_succ _) _) (Nat.le_succ _) _)⟩
-- HAND fn=ferry/dec.Decode ; rounds=0 ; making=1 ; laid=1
def decNums (a0 : Int) : Nums := if (foundOf (decode_p a0) z38 decRows).2 then takeAll (infoAt (foundOf (decode_p a0) z38 decRows).1) a0 else nums0
def dec_Decode.f (a0 : Int) : Option (ByteArray × Int × Int × Int × Int × Int × Bool) := some ((foundOf (decode_p a0) z38 decRows).1.f0, (decNums a0).s, (decNums a0).t, (decNums a0).d, (decNums a0).a, (decNums a0).i, (foundOf (decode_p a0) z38 decRows).2)
theorem found_zero {α : Type} (p : α → Bool) (z : α) : ∀ (l : List α), (foundOf p z l).2 = false → (foundOf p z l).1 = z
  | [], _ => rfl
  | x :: l, h => by
    unfold foundOf at h ⊢
    by_cases hp : p x = true
    · rw [if_pos hp] at h
      cases h
    · rw [if_neg hp] at h ⊢
      exact found_zero p z l h
set_option maxHeartbeats 8000000 in
set_option maxRecDepth 100000 in
theorem decode_walk (a0 : Int) (x : S38) (b : Bool) (n : Nums) (w : World) (hL : Laid w) (hx : foundOf (decode_p a0) z38 decRows = (x, b)) (hn : n = if b then takeAll (infoAt x) a0 else nums0) :
    Calls Tryd.prog 8 #[.int .u32 a0] w fun ex w' => ex = .returned (.tuple #[.agg #[.string x.f0, .int .i64 n.s, .int .i64 n.t, .int .i64 n.d, .int .i64 n.a, .int .u32 n.i], .bool b]) ∧ Below w.heap.size w w' := by
  have FD := Lib.hid (fun pe w hL hp hpb => decode_find.calls pe a0 w hL hp hpb x b hx)
  have T2 := Lib.hid (two_blocks w (.cells #[.int .u32 a0] 22) (.cells #[.string ⟨#[]⟩, .int .i64 0, .int .i64 0, .int .i64 0, .int .i64 0, .int .u32 0] 24))
  have HL0 := Lib.hid hL
  have HL := Lib.hid (Laid.below hL T2.out.2.2.2)
  have p0 := Lib.hid (dblk_cell (j := 0) (v := .int .u32 a0) T2.out.1 rfl)
  have hm := found_mem (decode_p a0) z38 decRows
  have hz := found_zero (decode_p a0) z38 decRows
  rw [hx] at hm hz
  clear hx hL
  cases b
  · have hz' := hz rfl
    dsimp only at hz'
    subst hz'
    rw [if_neg (by decide)] at hn
    subst hn
    clear hm hz
    go_enter Tryd.func8, Tryd.ntmps8
    go_wp2_with (go_at_call 15; (with_reducible refine (FD.out ⟨w.heap.size, 0, none⟩ _ HL.out p0.out (by rw [T2.out.2.2.1]; simp; omega)).mono ?_); rintro ex w1 ⟨rfl, hb1⟩; have B1 := Lib.hid (T2.out.2.2.2.trans (hb1.mono (by rw [T2.out.2.2.1]; omega))); have g1 := (hb1.block _ (by rw [T2.out.2.2.1]; omega)).trans T2.out.2.1; have A1 := (Below.refl _ w1).alloc (Nat.le_refl _) (.cells #[.string (z38 : S38).f0, .int .u32 (z38 : S38).f1, .int .u32 (z38 : S38).f2, .string (z38 : S38).f3] 38); have g2 := (A1.block _ (dblk_lt g1)).trans g1; have BB := Lib.hid (B1.out.trans (A1.mono B1.out.size)); have q0 := dblk_cell (j := 0) (v := .string ⟨#[]⟩) g2 rfl; have u0 := dblk_free (j := 0) g2; have q1 := dblk_cell (j := 1) (v := .int .i64 0) g2 rfl; have u1 := dblk_free (j := 1) g2; have q2 := dblk_cell (j := 2) (v := .int .i64 0) g2 rfl; have u2 := dblk_free (j := 2) g2; have q3 := dblk_cell (j := 3) (v := .int .i64 0) g2 rfl; have u3 := dblk_free (j := 3) g2; have q4 := dblk_cell (j := 4) (v := .int .i64 0) g2 rfl; have u4 := dblk_free (j := 4) g2; have q5 := dblk_cell (j := 5) (v := .int .u32 0) g2 rfl; have u5 := dblk_free (j := 5) g2; have G2 := Lib.hid g2; clear g1 g2 hb1 A1)
    refine bodyPost_ret (dres_ct rfl _ _ (w.heap.size + 1) 24 #[.string ⟨#[]⟩, .int .i64 0, .int .i64 0, .int .i64 0, .int .i64 0, .int .u32 0] (0, 0) _ rfl ?_ Tryd.underlying24 rfl (by kernel_rfl) _ rfl) rfl ?_
    · refine blk_put (cs := #[.string ⟨#[]⟩, .int .i64 0, .int .i64 0, .int .i64 0, .int .i64 0, .int .u32 0]) ?_ 5 _ rfl
      refine blk_put (cs := #[.string ⟨#[]⟩, .int .i64 0, .int .i64 0, .int .i64 0, .int .i64 0, .int .u32 0]) ?_ 4 _ rfl
      refine blk_put (cs := #[.string ⟨#[]⟩, .int .i64 0, .int .i64 0, .int .i64 0, .int .i64 0, .int .u32 0]) ?_ 3 _ rfl
      refine blk_put (cs := #[.string ⟨#[]⟩, .int .i64 0, .int .i64 0, .int .i64 0, .int .i64 0, .int .u32 0]) ?_ 2 _ rfl
      refine blk_put (cs := #[.string ⟨#[]⟩, .int .i64 0, .int .i64 0, .int .i64 0, .int .i64 0, .int .u32 0]) ?_ 1 _ rfl
      refine blk_put (cs := #[.string ⟨#[]⟩, .int .i64 0, .int .i64 0, .int .i64 0, .int .i64 0, .int .u32 0]) ?_ 0 _ rfl
      exact G2.out
    · exact ⟨rfl, (Below.setCell (p := ⟨w.heap.size + 1, 5, none⟩) (Below.setCell (p := ⟨w.heap.size + 1, 4, none⟩) (Below.setCell (p := ⟨w.heap.size + 1, 3, none⟩) (Below.setCell (p := ⟨w.heap.size + 1, 2, none⟩) (Below.setCell (p := ⟨w.heap.size + 1, 1, none⟩) (Below.setCell (p := ⟨w.heap.size + 1, 0, none⟩) BB.out (Nat.le_succ _) _) (Nat.le_succ _) _) (Nat.le_succ _) _) (Nat.le_succ _) _) (Nat.le_succ _) _) (Nat.le_succ _) _)⟩
  · have hq := info_at x (hm rfl).1
    rw [if_pos rfl] at hn
    have TK := Lib.hid (fun w hL => take_calls x.f0 x.f3 x.f1 x.f2 a0 (infoAt x) hq w hL)
    rw [← hn] at TK
    clear hm hz hq hn
    go_enter Tryd.func8, Tryd.ntmps8
    go_wp2_with (first
      | (go_at_call 15; (with_reducible refine (FD.out ⟨w.heap.size, 0, none⟩ _ HL.out p0.out (by rw [T2.out.2.2.1]; simp; omega)).mono ?_); rintro ex w1 ⟨rfl, hb1⟩; have B1 := Lib.hid (T2.out.2.2.2.trans (hb1.mono (by rw [T2.out.2.2.1]; omega))); have g1 := (hb1.block _ (by rw [T2.out.2.2.1]; omega)).trans T2.out.2.1; have p1 := (hb1.block _ (by rw [T2.out.2.2.1]; omega)).trans T2.out.1; have A1 := (Below.refl _ w1).alloc (Nat.le_refl _) (.cells #[.string x.f0, .int .u32 x.f1, .int .u32 x.f2, .string x.f3] 38); have r2 := World.alloc_heap_new w1 (.cells #[.string x.f0, .int .u32 x.f1, .int .u32 x.f2, .string x.f3] 38); have g2 := Lib.hid ((A1.block _ (dblk_lt g1)).trans g1); have p2 := dblk_cell (j := 0) (v := .int .u32 a0) ((A1.block _ (dblk_lt p1)).trans p1) rfl; have BB := Lib.hid (B1.out.trans (A1.mono B1.out.size)); have r20 := dblk_cell (j := 0) (v := .string x.f0) r2 rfl; have r21 := dblk_cell (j := 1) (v := .int .u32 x.f1) r2 rfl; have r22 := dblk_cell (j := 2) (v := .int .u32 x.f2) r2 rfl; have r23 := dblk_cell (j := 3) (v := .string x.f3) r2 rfl; clear g1 p1 hb1 A1 r2)
      | (go_at_call 17; (with_reducible refine (TK.out _ (Laid.below HL0.out BB.out)).mono ?_); rintro ex w3 ⟨rfl, hb3⟩; have B3 := Lib.hid (BB.out.trans (hb3.mono BB.out.size)); have g3 := (hb3.block _ (dblk_lt g2.out)).trans g2.out; have q0 := dblk_cell (j := 0) (v := .string ⟨#[]⟩) g3 rfl; have u0 := dblk_free (j := 0) g3; have q1 := dblk_cell (j := 1) (v := .int .i64 0) g3 rfl; have u1 := dblk_free (j := 1) g3; have q2 := dblk_cell (j := 2) (v := .int .i64 0) g3 rfl; have u2 := dblk_free (j := 2) g3; have q3 := dblk_cell (j := 3) (v := .int .i64 0) g3 rfl; have u3 := dblk_free (j := 3) g3; have q4 := dblk_cell (j := 4) (v := .int .i64 0) g3 rfl; have u4 := dblk_free (j := 4) g3; have q5 := dblk_cell (j := 5) (v := .int .u32 0) g3 rfl; have u5 := dblk_free (j := 5) g3; have G3 := Lib.hid g3; clear g3 hb3))
    refine bodyPost_ret (dres_ct rfl _ _ (w.heap.size + 1) 24 #[.string x.f0, .int .i64 n.s, .int .i64 n.t, .int .i64 n.d, .int .i64 n.a, .int .u32 n.i] (0, 0) _ rfl ?_ Tryd.underlying24 rfl (by kernel_rfl) _ rfl) rfl ?_
    · refine blk_put (cs := #[.string x.f0, .int .i64 n.s, .int .i64 n.t, .int .i64 n.d, .int .i64 n.a, .int .u32 0]) ?_ 5 _ rfl
      refine blk_put (cs := #[.string x.f0, .int .i64 n.s, .int .i64 n.t, .int .i64 n.d, .int .i64 0, .int .u32 0]) ?_ 4 _ rfl
      refine blk_put (cs := #[.string x.f0, .int .i64 n.s, .int .i64 n.t, .int .i64 0, .int .i64 0, .int .u32 0]) ?_ 3 _ rfl
      refine blk_put (cs := #[.string x.f0, .int .i64 n.s, .int .i64 0, .int .i64 0, .int .i64 0, .int .u32 0]) ?_ 2 _ rfl
      refine blk_put (cs := #[.string x.f0, .int .i64 0, .int .i64 0, .int .i64 0, .int .i64 0, .int .u32 0]) ?_ 1 _ rfl
      refine blk_put (cs := #[.string ⟨#[]⟩, .int .i64 0, .int .i64 0, .int .i64 0, .int .i64 0, .int .u32 0]) ?_ 0 _ rfl
      exact G3.out
    · exact ⟨rfl, (Below.setCell (p := ⟨w.heap.size + 1, 5, none⟩) (Below.setCell (p := ⟨w.heap.size + 1, 4, none⟩) (Below.setCell (p := ⟨w.heap.size + 1, 3, none⟩) (Below.setCell (p := ⟨w.heap.size + 1, 2, none⟩) (Below.setCell (p := ⟨w.heap.size + 1, 1, none⟩) (Below.setCell (p := ⟨w.heap.size + 1, 0, none⟩) B3.out (Nat.le_succ _) _) (Nat.le_succ _) _) (Nat.le_succ _) _) (Nat.le_succ _) _) (Nat.le_succ _) _) (Nat.le_succ _) _)⟩
theorem dec_Decode.calls (a0 : Int) (r1 : ByteArray) (r2 : Int) (r3 : Int) (r4 : Int) (r5 : Int) (r6 : Int) (r7 : Bool) (w : World) (hL : Laid w) (h : dec_Decode.f a0 = some (r1, r2, r3, r4, r5, r6, r7)) :
    Calls Tryd.prog 8 #[.int .u32 a0] w fun ex w' => ex = .returned (.tuple #[.agg #[.string r1, .int .i64 r2, .int .i64 r3, .int .i64 r4, .int .i64 r5, .int .u32 r6], .bool r7]) ∧ Below w.heap.size w w' := by
  unfold dec_Decode.f at h
  simp only [Option.some.injEq, Prod.mk.injEq] at h
  obtain ⟨rfl, rfl, rfl, rfl, rfl, rfl, rfl⟩ := h
  exact decode_walk a0 _ _ (decNums a0) w hL rfl rfl
end Go.Proofs.YtjkpgfjnidflhaaDoor.F
end
