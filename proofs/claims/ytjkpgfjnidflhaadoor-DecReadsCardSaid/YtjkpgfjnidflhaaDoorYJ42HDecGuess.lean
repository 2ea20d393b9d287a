import Derived.Below
import Derived.Deep.Draws
import Derived.Deep.AppendLies
import Derived.Maps.AppendAt
import Derived.OwnWalk
import Derived.Laws.BytesArg
import Derived.Laws.MakeOwn
import Derived.Laws.OwnMore
import Derived.Deep.OwnRows
import Derived.Tactics
import Derived.Lib.ConvBytes
import Derived.Laws.Slices
import Derived.WalkKit
import Derived.KernelRfl
import Derived.RowKit3
import Derived.Deep.LoopGhost
import Derived.Deep.QuietTactic
import Derived.BigQuiet
import Derived.WideLaws
import Derived.Deep.DeepCutAuto
import Derived.Deep.CutBlock
import Derived.Deep.RegionHeld3
import Derived.Laws.Rows
import Derived.Lib.AppendStr
import Derived.ArgAppend
import Derived.Laws.IdiomCopy
import Derived.RowKit
import Derived.OrdersHeld
import Derived.Laws.BitsLemmas
import Derived.Laws.StructEq
import Derived.ProofKit
import Derived.OwnWalkIn
import Derived.WalkSmall
import Derived.Laws.ResultCell
import Derived.RangeFuncRecord
import Derived.Lib.Hide
import Derived.Deep.RegionWith
import Derived.Test.YtjkpgfjnidflhaaDoorZF0
import Derived.Test.YtjkpgfjnidflhaaDoorYC20
import Derived.Test.YtjkpgfjnidflhaaDoorYH31FFerryref07Special
import Derived.Test.YtjkpgfjnidflhaaDoorYH32
import Derived.Test.YtjkpgfjnidflhaaDoorYH33HDecRef
section
namespace Go.Proofs.YtjkpgfjnidflhaaDoor.F
open Go.RowKit Go.Proofs.YtjkpgfjnidflhaaDoorW.PrintWords Go.Proofs.YtjkpgfjnidflhaaDoorW.PrintLast Go.Proofs.YtjkpgfjnidflhaaDoorW.PrintMore
attribute [local go_sem] field47_3
set_option linter.unusedVariables false
set_option linter.unusedSimpArgs false
def gFld (h : Bool) (w0 d : Int) : Int := if h then wrap64 (bits .and .u32 (w0 / d) 31) else 0
def gImm (wd w0 : Int) : Int := if wd = 16 then bits .and .u32 w0 65535 else if wd = 20 then bits .and .u32 (w0 / 64) 1048575 else if wd = 26 then bits .and .u32 w0 67108863 else 0
theorem gFld_t (w0 d : Int) : gFld true w0 d = wrap64 (bits .and .u32 (w0 / d) 31) := by
  unfold gFld
  rw [if_pos rfl]
theorem gFld_f (w0 d : Int) : gFld false w0 d = 0 := by
  unfold gFld
  rw [if_neg (by decide)]
theorem gImm_16 (w0 : Int) : gImm 16 w0 = bits .and .u32 w0 65535 := by
  unfold gImm
  rw [if_pos rfl]
theorem gImm_20 (w0 : Int) : gImm 20 w0 = bits .and .u32 (w0 / 64) 1048575 := by
  unfold gImm
  rw [if_neg (by decide), if_pos rfl]
theorem gImm_26 (w0 : Int) : gImm 26 w0 = bits .and .u32 w0 67108863 := by
  unfold gImm
  rw [if_neg (by decide), if_neg (by decide), if_pos rfl]
theorem gImm_0 (w0 : Int) : gImm 0 w0 = 0 := by
  unfold gImm
  rw [if_neg (by decide), if_neg (by decide), if_neg (by decide)]
def comboList : List ((Bool × Bool × Bool × Bool) × Int) := [((false, true, true, true), 0), ((true, true, true, false), 0), ((true, false, false, false), 0), ((true, false, true, false), 0), ((false, false, false, false), 20), ((false, false, true, false), 0), ((true, true, false, false), 0), ((true, false, false, false), 16), ((false, false, false, false), 26), ((true, true, false, false), 16), ((false, true, false, false), 16), ((true, true, true, true), 0), ((false, true, true, false), 0), ((false, false, false, false), 0)]
theorem combos_all : regTable.all (fun r => comboList.contains r.2) = true := by decide +kernel
theorem two_new (w : World) (a b : Obj) : ((w.alloc a).alloc b).heap[w.heap.size + 1]? = some b := by
  have s1 : (w.alloc a).heap.size = w.heap.size + 1 := World.size_alloc _ _
  rw [← s1]; exact World.alloc_heap_new _ _
theorem rblk_free {W : World} {b j : Nat} {cs : Array Value} {t : TypeId} (h : W.heap[b]? = some (.cells cs t (0, 0))) : W.frozen? ⟨b, j, none⟩ = false := by
  unfold World.frozen?
  rw [show W.heap[(Addr.mk b j none).block]? = _ from h]
  simp
set_option maxHeartbeats 8000000 in
set_option maxRecDepth 100000 in
theorem guess_0 (nm : ByteArray) (w0 : Int) (op sub sa : Int) (form : ByteArray) (w : World) (hreg : ∀ w, Calls Tryd.prog 33 #[.string form] w fun e w' => e = .returned (.agg #[.bool false, .bool true, .bool true, .bool true]) ∧ Below w.heap.size w w') (hwd : ferryref07_wide.f form = some 0) (hsp : ferryref07_special.f nm = some (op, sub, sa, form)) :
    Calls Tryd.prog 22 #[.string nm, .int .u32 w0] w fun e w' => e = .returned (.agg #[.string nm, .int .i64 0, .int .i64 (wrap64 (bits .and .u32 (w0 / 65536) 31)), .int .i64 (wrap64 (bits .and .u32 (w0 / 2048) 31)), .int .i64 (wrap64 (bits .and .u32 (w0 / 64) 31)), .int .u32 0]) ∧ Below w.heap.size w w' := by
  have RG := Lib.hid hreg
  have WD := Lib.hid (fun w => ferryref07_wide.calls form 0 w hwd)
  have SP := Lib.hid (fun w => ferryref07_special.calls nm op sub sa form w hsp)
  have hb0 : Below w.heap.size w (w.alloc (.cells #[.string ⟨#[]⟩, .int .i64 0, .int .i64 0, .int .i64 0, .int .i64 0, .int .u32 0] 24)) := (Below.refl _ w).alloc (Nat.le_refl _) _
  have B0 := Lib.hid hb0
  have R0 := Lib.hid (World.alloc_heap_new w (.cells #[.string ⟨#[]⟩, .int .i64 0, .int .i64 0, .int .i64 0, .int .i64 0, .int .u32 0] 24))
  have S0 := Lib.hid (World.size_alloc w (.cells #[.string ⟨#[]⟩, .int .i64 0, .int .i64 0, .int .i64 0, .int .i64 0, .int .u32 0] 24))
  clear hreg hwd hsp hb0
  · go_enter Tryd.func22, Tryd.ntmps22
    go_wp2_with (first
      | (go_at_call 21; (with_reducible refine (SP.out _).mono ?_); rintro ex w1 ⟨rfl, hb1⟩; have B1 := Lib.hid (B0.out.trans (hb1.mono (by rw [S0.out]; omega))); have R1 := Lib.hid ((hb1.block _ (by rw [S0.out]; omega)).trans R0.out); clear hb1)
      | (go_at_call 33; (with_reducible refine (RG.out _).mono ?_); rintro ex w2 ⟨rfl, hb2⟩; have B2 := Lib.hid (B1.out.trans (hb2.mono B1.out.size)); have R2 := Lib.hid ((hb2.block _ (blk_lt2 R1.out)).trans R1.out); clear hb2)
      | (go_at_call 34; (with_reducible refine (WD.out _).mono ?_); rintro ex w6 ⟨rfl, ⟨nd, rfl⟩⟩; have BB5 := Lib.hid (show Below w.heap.size w ((w2.alloc (.cells #[.bool false, .bool true, .bool true, .bool true] 64)).alloc (.cells #[.string nm, .int .i64 0, .int .i64 (wrap64 (bits .and .u32 (w0 / 65536) 31)), .int .i64 (wrap64 (bits .and .u32 (w0 / 2048) 31)), .int .i64 (wrap64 (bits .and .u32 (w0 / 64) 31)), .int .u32 0] 24)) from (B2.out.alloc B2.out.size _).alloc (by simp; exact Nat.le_trans B2.out.size (Nat.le_succ _)) _); have I5 : (((w2.alloc (.cells #[.bool false, .bool true, .bool true, .bool true] 64)).alloc (.cells #[.string nm, .int .i64 0, .int .i64 (wrap64 (bits .and .u32 (w0 / 65536) 31)), .int .i64 (wrap64 (bits .and .u32 (w0 / 2048) 31)), .int .i64 (wrap64 (bits .and .u32 (w0 / 64) 31)), .int .u32 0] 24)).drewN nd).heap[w2.heap.size + 1]? = _ := two_new w2 (.cells #[.bool false, .bool true, .bool true, .bool true] 64) (.cells #[.string nm, .int .i64 0, .int .i64 (wrap64 (bits .and .u32 (w0 / 65536) 31)), .int .i64 (wrap64 (bits .and .u32 (w0 / 2048) 31)), .int .i64 (wrap64 (bits .and .u32 (w0 / 64) 31)), .int .u32 0] 24); have R5 : (((w2.alloc (.cells #[.bool false, .bool true, .bool true, .bool true] 64)).alloc (.cells #[.string nm, .int .i64 0, .int .i64 (wrap64 (bits .and .u32 (w0 / 65536) 31)), .int .i64 (wrap64 (bits .and .u32 (w0 / 2048) 31)), .int .i64 (wrap64 (bits .and .u32 (w0 / 64) 31)), .int .u32 0] 24)).drewN nd).heap[w.heap.size]? = _ := ((((Below.refl _ w2).alloc (Nat.le_refl _) (.cells #[.bool false, .bool true, .bool true, .bool true] 64)).alloc (by simp) (.cells #[.string nm, .int .i64 0, .int .i64 (wrap64 (bits .and .u32 (w0 / 65536) 31)), .int .i64 (wrap64 (bits .and .u32 (w0 / 2048) 31)), .int .i64 (wrap64 (bits .and .u32 (w0 / 64) 31)), .int .u32 0] 24)).block _ (blk_lt2 R2.out)).trans R2.out; have lt2 := blk_lt2 R2.out; have i0 := rblk_cell (j := 0) (v := .string nm) I5 rfl; have i1 := rblk_cell (j := 1) (v := .int .i64 0) I5 rfl; have i2 := rblk_cell (j := 2) (v := .int .i64 (wrap64 (bits .and .u32 (w0 / 65536) 31))) I5 rfl; have i3 := rblk_cell (j := 3) (v := .int .i64 (wrap64 (bits .and .u32 (w0 / 2048) 31))) I5 rfl; have i4 := rblk_cell (j := 4) (v := .int .i64 (wrap64 (bits .and .u32 (w0 / 64) 31))) I5 rfl; have i5 := rblk_cell (j := 5) (v := .int .u32 0) I5 rfl; have x5 := rblk_free (j := 5) I5; have q0 := rblk_cell (j := 0) (v := .string ⟨#[]⟩) R5 rfl; have u0 := rblk_free (j := 0) R5; have q1 := rblk_cell (j := 1) (v := .int .i64 0) R5 rfl; have u1 := rblk_free (j := 1) R5; have q2 := rblk_cell (j := 2) (v := .int .i64 0) R5 rfl; have u2 := rblk_free (j := 2) R5; have q3 := rblk_cell (j := 3) (v := .int .i64 0) R5 rfl; have u3 := rblk_free (j := 3) R5; have q4 := rblk_cell (j := 4) (v := .int .i64 0) R5 rfl; have u4 := rblk_free (j := 4) R5; have q5 := rblk_cell (j := 5) (v := .int .u32 0) R5 rfl; have u5 := rblk_free (j := 5) R5; have RR5 := Lib.hid R5; clear I5 R5))
    refine bodyPost_ret (results_cell_row rfl _ _ w.heap.size 24 #[.string nm, .int .i64 0, .int .i64 (wrap64 (bits .and .u32 (w0 / 65536) 31)), .int .i64 (wrap64 (bits .and .u32 (w0 / 2048) 31)), .int .i64 (wrap64 (bits .and .u32 (w0 / 64) 31)), .int .u32 0] (0, 0) _ rfl ?_ Tryd.underlying24 rfl (by kernel_rfl)) rfl ?_
    · refine blk_put (cs := #[.string nm, .int .i64 0, .int .i64 (wrap64 (bits .and .u32 (w0 / 65536) 31)), .int .i64 (wrap64 (bits .and .u32 (w0 / 2048) 31)), .int .i64 (wrap64 (bits .and .u32 (w0 / 64) 31)), .int .u32 0]) ?_ 5 _ rfl
      refine blk_put (cs := #[.string nm, .int .i64 0, .int .i64 (wrap64 (bits .and .u32 (w0 / 65536) 31)), .int .i64 (wrap64 (bits .and .u32 (w0 / 2048) 31)), .int .i64 0, .int .u32 0]) ?_ 4 _ rfl
      refine blk_put (cs := #[.string nm, .int .i64 0, .int .i64 (wrap64 (bits .and .u32 (w0 / 65536) 31)), .int .i64 0, .int .i64 0, .int .u32 0]) ?_ 3 _ rfl
      refine blk_put (cs := #[.string nm, .int .i64 0, .int .i64 0, .int .i64 0, .int .i64 0, .int .u32 0]) ?_ 2 _ rfl
      refine blk_put (cs := #[.string nm, .int .i64 0, .int .i64 0, .int .i64 0, .int .i64 0, .int .u32 0]) ?_ 1 _ rfl
      refine blk_put (cs := #[.string ⟨#[]⟩, .int .i64 0, .int .i64 0, .int .i64 0, .int .i64 0, .int .u32 0]) ?_ 0 _ rfl
      skip
      exact RR5.out
    · exact ⟨rfl, (Below.setCell (p := ⟨w.heap.size, 5, none⟩) (Below.setCell (p := ⟨w.heap.size, 4, none⟩) (Below.setCell (p := ⟨w.heap.size, 3, none⟩) (Below.setCell (p := ⟨w.heap.size, 2, none⟩) (Below.setCell (p := ⟨w.heap.size, 1, none⟩) (Below.setCell (p := ⟨w.heap.size, 0, none⟩) (pw_below_drewN BB5.out nd) (Nat.le_refl _) _) (Nat.le_refl _) _) (Nat.le_refl _) _) (Nat.le_refl _) _) (Nat.le_refl _) _) (Nat.le_refl _) _)⟩
set_option maxHeartbeats 8000000 in
set_option maxRecDepth 100000 in
theorem guess_1 (nm : ByteArray) (w0 : Int) (op sub sa : Int) (form : ByteArray) (w : World) (hreg : ∀ w, Calls Tryd.prog 33 #[.string form] w fun e w' => e = .returned (.agg #[.bool true, .bool true, .bool true, .bool false]) ∧ Below w.heap.size w w') (hwd : ferryref07_wide.f form = some 0) (hsp : ferryref07_special.f nm = some (op, sub, sa, form)) :
    Calls Tryd.prog 22 #[.string nm, .int .u32 w0] w fun e w' => e = .returned (.agg #[.string nm, .int .i64 (wrap64 (bits .and .u32 (w0 / 2097152) 31)), .int .i64 (wrap64 (bits .and .u32 (w0 / 65536) 31)), .int .i64 (wrap64 (bits .and .u32 (w0 / 2048) 31)), .int .i64 0, .int .u32 0]) ∧ Below w.heap.size w w' := by
  have RG := Lib.hid hreg
  have WD := Lib.hid (fun w => ferryref07_wide.calls form 0 w hwd)
  have SP := Lib.hid (fun w => ferryref07_special.calls nm op sub sa form w hsp)
  have hb0 : Below w.heap.size w (w.alloc (.cells #[.string ⟨#[]⟩, .int .i64 0, .int .i64 0, .int .i64 0, .int .i64 0, .int .u32 0] 24)) := (Below.refl _ w).alloc (Nat.le_refl _) _
  have B0 := Lib.hid hb0
  have R0 := Lib.hid (World.alloc_heap_new w (.cells #[.string ⟨#[]⟩, .int .i64 0, .int .i64 0, .int .i64 0, .int .i64 0, .int .u32 0] 24))
  have S0 := Lib.hid (World.size_alloc w (.cells #[.string ⟨#[]⟩, .int .i64 0, .int .i64 0, .int .i64 0, .int .i64 0, .int .u32 0] 24))
  clear hreg hwd hsp hb0
  · go_enter Tryd.func22, Tryd.ntmps22
    go_wp2_with (first
      | (go_at_call 21; (with_reducible refine (SP.out _).mono ?_); rintro ex w1 ⟨rfl, hb1⟩; have B1 := Lib.hid (B0.out.trans (hb1.mono (by rw [S0.out]; omega))); have R1 := Lib.hid ((hb1.block _ (by rw [S0.out]; omega)).trans R0.out); clear hb1)
      | (go_at_call 33; (with_reducible refine (RG.out _).mono ?_); rintro ex w2 ⟨rfl, hb2⟩; have B2 := Lib.hid (B1.out.trans (hb2.mono B1.out.size)); have R2 := Lib.hid ((hb2.block _ (blk_lt2 R1.out)).trans R1.out); clear hb2)
      | (go_at_call 34; (with_reducible refine (WD.out _).mono ?_); rintro ex w6 ⟨rfl, ⟨nd, rfl⟩⟩; have BB5 := Lib.hid (show Below w.heap.size w ((w2.alloc (.cells #[.bool true, .bool true, .bool true, .bool false] 64)).alloc (.cells #[.string nm, .int .i64 (wrap64 (bits .and .u32 (w0 / 2097152) 31)), .int .i64 (wrap64 (bits .and .u32 (w0 / 65536) 31)), .int .i64 (wrap64 (bits .and .u32 (w0 / 2048) 31)), .int .i64 0, .int .u32 0] 24)) from (B2.out.alloc B2.out.size _).alloc (by simp; exact Nat.le_trans B2.out.size (Nat.le_succ _)) _); have I5 : (((w2.alloc (.cells #[.bool true, .bool true, .bool true, .bool false] 64)).alloc (.cells #[.string nm, .int .i64 (wrap64 (bits .and .u32 (w0 / 2097152) 31)), .int .i64 (wrap64 (bits .and .u32 (w0 / 65536) 31)), .int .i64 (wrap64 (bits .and .u32 (w0 / 2048) 31)), .int .i64 0, .int .u32 0] 24)).drewN nd).heap[w2.heap.size + 1]? = _ := two_new w2 (.cells #[.bool true, .bool true, .bool true, .bool false] 64) (.cells #[.string nm, .int .i64 (wrap64 (bits .and .u32 (w0 / 2097152) 31)), .int .i64 (wrap64 (bits .and .u32 (w0 / 65536) 31)), .int .i64 (wrap64 (bits .and .u32 (w0 / 2048) 31)), .int .i64 0, .int .u32 0] 24); have R5 : (((w2.alloc (.cells #[.bool true, .bool true, .bool true, .bool false] 64)).alloc (.cells #[.string nm, .int .i64 (wrap64 (bits .and .u32 (w0 / 2097152) 31)), .int .i64 (wrap64 (bits .and .u32 (w0 / 65536) 31)), .int .i64 (wrap64 (bits .and .u32 (w0 / 2048) 31)), .int .i64 0, .int .u32 0] 24)).drewN nd).heap[w.heap.size]? = _ := ((((Below.refl _ w2).alloc (Nat.le_refl _) (.cells #[.bool true, .bool true, .bool true, .bool false] 64)).alloc (by simp) (.cells #[.string nm, .int .i64 (wrap64 (bits .and .u32 (w0 / 2097152) 31)), .int .i64 (wrap64 (bits .and .u32 (w0 / 65536) 31)), .int .i64 (wrap64 (bits .and .u32 (w0 / 2048) 31)), .int .i64 0, .int .u32 0] 24)).block _ (blk_lt2 R2.out)).trans R2.out; have lt2 := blk_lt2 R2.out; have i0 := rblk_cell (j := 0) (v := .string nm) I5 rfl; have i1 := rblk_cell (j := 1) (v := .int .i64 (wrap64 (bits .and .u32 (w0 / 2097152) 31))) I5 rfl; have i2 := rblk_cell (j := 2) (v := .int .i64 (wrap64 (bits .and .u32 (w0 / 65536) 31))) I5 rfl; have i3 := rblk_cell (j := 3) (v := .int .i64 (wrap64 (bits .and .u32 (w0 / 2048) 31))) I5 rfl; have i4 := rblk_cell (j := 4) (v := .int .i64 0) I5 rfl; have i5 := rblk_cell (j := 5) (v := .int .u32 0) I5 rfl; have x5 := rblk_free (j := 5) I5; have q0 := rblk_cell (j := 0) (v := .string ⟨#[]⟩) R5 rfl; have u0 := rblk_free (j := 0) R5; have q1 := rblk_cell (j := 1) (v := .int .i64 0) R5 rfl; have u1 := rblk_free (j := 1) R5; have q2 := rblk_cell (j := 2) (v := .int .i64 0) R5 rfl; have u2 := rblk_free (j := 2) R5; have q3 := rblk_cell (j := 3) (v := .int .i64 0) R5 rfl; have u3 := rblk_free (j := 3) R5; have q4 := rblk_cell (j := 4) (v := .int .i64 0) R5 rfl; have u4 := rblk_free (j := 4) R5; have q5 := rblk_cell (j := 5) (v := .int .u32 0) R5 rfl; have u5 := rblk_free (j := 5) R5; have RR5 := Lib.hid R5; clear I5 R5))
    refine bodyPost_ret (results_cell_row rfl _ _ w.heap.size 24 #[.string nm, .int .i64 (wrap64 (bits .and .u32 (w0 / 2097152) 31)), .int .i64 (wrap64 (bits .and .u32 (w0 / 65536) 31)), .int .i64 (wrap64 (bits .and .u32 (w0 / 2048) 31)), .int .i64 0, .int .u32 0] (0, 0) _ rfl ?_ Tryd.underlying24 rfl (by kernel_rfl)) rfl ?_
    · refine blk_put (cs := #[.string nm, .int .i64 (wrap64 (bits .and .u32 (w0 / 2097152) 31)), .int .i64 (wrap64 (bits .and .u32 (w0 / 65536) 31)), .int .i64 (wrap64 (bits .and .u32 (w0 / 2048) 31)), .int .i64 0, .int .u32 0]) ?_ 5 _ rfl
      refine blk_put (cs := #[.string nm, .int .i64 (wrap64 (bits .and .u32 (w0 / 2097152) 31)), .int .i64 (wrap64 (bits .and .u32 (w0 / 65536) 31)), .int .i64 (wrap64 (bits .and .u32 (w0 / 2048) 31)), .int .i64 0, .int .u32 0]) ?_ 4 _ rfl
      refine blk_put (cs := #[.string nm, .int .i64 (wrap64 (bits .and .u32 (w0 / 2097152) 31)), .int .i64 (wrap64 (bits .and .u32 (w0 / 65536) 31)), .int .i64 0, .int .i64 0, .int .u32 0]) ?_ 3 _ rfl
      refine blk_put (cs := #[.string nm, .int .i64 (wrap64 (bits .and .u32 (w0 / 2097152) 31)), .int .i64 0, .int .i64 0, .int .i64 0, .int .u32 0]) ?_ 2 _ rfl
      refine blk_put (cs := #[.string nm, .int .i64 0, .int .i64 0, .int .i64 0, .int .i64 0, .int .u32 0]) ?_ 1 _ rfl
      refine blk_put (cs := #[.string ⟨#[]⟩, .int .i64 0, .int .i64 0, .int .i64 0, .int .i64 0, .int .u32 0]) ?_ 0 _ rfl
      skip
      exact RR5.out
    · exact ⟨rfl, (Below.setCell (p := ⟨w.heap.size, 5, none⟩) (Below.setCell (p := ⟨w.heap.size, 4, none⟩) (Below.setCell (p := ⟨w.heap.size, 3, none⟩) (Below.setCell (p := ⟨w.heap.size, 2, none⟩) (Below.setCell (p := ⟨w.heap.size, 1, none⟩) (Below.setCell (p := ⟨w.heap.size, 0, none⟩) (pw_below_drewN BB5.out nd) (Nat.le_refl _) _) (Nat.le_refl _) _) (Nat.le_refl _) _) (Nat.le_refl _) _) (Nat.le_refl _) _) (Nat.le_refl _) _)⟩
set_option maxHeartbeats 8000000 in
set_option maxRecDepth 100000 in
theorem guess_2 (nm : ByteArray) (w0 : Int) (op sub sa : Int) (form : ByteArray) (w : World) (hreg : ∀ w, Calls Tryd.prog 33 #[.string form] w fun e w' => e = .returned (.agg #[.bool true, .bool false, .bool false, .bool false]) ∧ Below w.heap.size w w') (hwd : ferryref07_wide.f form = some 0) (hsp : ferryref07_special.f nm = some (op, sub, sa, form)) :
    Calls Tryd.prog 22 #[.string nm, .int .u32 w0] w fun e w' => e = .returned (.agg #[.string nm, .int .i64 (wrap64 (bits .and .u32 (w0 / 2097152) 31)), .int .i64 0, .int .i64 0, .int .i64 0, .int .u32 0]) ∧ Below w.heap.size w w' := by
  have RG := Lib.hid hreg
  have WD := Lib.hid (fun w => ferryref07_wide.calls form 0 w hwd)
  have SP := Lib.hid (fun w => ferryref07_special.calls nm op sub sa form w hsp)
  have hb0 : Below w.heap.size w (w.alloc (.cells #[.string ⟨#[]⟩, .int .i64 0, .int .i64 0, .int .i64 0, .int .i64 0, .int .u32 0] 24)) := (Below.refl _ w).alloc (Nat.le_refl _) _
  have B0 := Lib.hid hb0
  have R0 := Lib.hid (World.alloc_heap_new w (.cells #[.string ⟨#[]⟩, .int .i64 0, .int .i64 0, .int .i64 0, .int .i64 0, .int .u32 0] 24))
  have S0 := Lib.hid (World.size_alloc w (.cells #[.string ⟨#[]⟩, .int .i64 0, .int .i64 0, .int .i64 0, .int .i64 0, .int .u32 0] 24))
  clear hreg hwd hsp hb0
  · go_enter Tryd.func22, Tryd.ntmps22
    go_wp2_with (first
      | (go_at_call 21; (with_reducible refine (SP.out _).mono ?_); rintro ex w1 ⟨rfl, hb1⟩; have B1 := Lib.hid (B0.out.trans (hb1.mono (by rw [S0.out]; omega))); have R1 := Lib.hid ((hb1.block _ (by rw [S0.out]; omega)).trans R0.out); clear hb1)
      | (go_at_call 33; (with_reducible refine (RG.out _).mono ?_); rintro ex w2 ⟨rfl, hb2⟩; have B2 := Lib.hid (B1.out.trans (hb2.mono B1.out.size)); have R2 := Lib.hid ((hb2.block _ (blk_lt2 R1.out)).trans R1.out); clear hb2)
      | (go_at_call 34; (with_reducible refine (WD.out _).mono ?_); rintro ex w6 ⟨rfl, ⟨nd, rfl⟩⟩; have BB5 := Lib.hid (show Below w.heap.size w ((w2.alloc (.cells #[.bool true, .bool false, .bool false, .bool false] 64)).alloc (.cells #[.string nm, .int .i64 (wrap64 (bits .and .u32 (w0 / 2097152) 31)), .int .i64 0, .int .i64 0, .int .i64 0, .int .u32 0] 24)) from (B2.out.alloc B2.out.size _).alloc (by simp; exact Nat.le_trans B2.out.size (Nat.le_succ _)) _); have I5 : (((w2.alloc (.cells #[.bool true, .bool false, .bool false, .bool false] 64)).alloc (.cells #[.string nm, .int .i64 (wrap64 (bits .and .u32 (w0 / 2097152) 31)), .int .i64 0, .int .i64 0, .int .i64 0, .int .u32 0] 24)).drewN nd).heap[w2.heap.size + 1]? = _ := two_new w2 (.cells #[.bool true, .bool false, .bool false, .bool false] 64) (.cells #[.string nm, .int .i64 (wrap64 (bits .and .u32 (w0 / 2097152) 31)), .int .i64 0, .int .i64 0, .int .i64 0, .int .u32 0] 24); have R5 : (((w2.alloc (.cells #[.bool true, .bool false, .bool false, .bool false] 64)).alloc (.cells #[.string nm, .int .i64 (wrap64 (bits .and .u32 (w0 / 2097152) 31)), .int .i64 0, .int .i64 0, .int .i64 0, .int .u32 0] 24)).drewN nd).heap[w.heap.size]? = _ := ((((Below.refl _ w2).alloc (Nat.le_refl _) (.cells #[.bool true, .bool false, .bool false, .bool false] 64)).alloc (by simp) (.cells #[.string nm, .int .i64 (wrap64 (bits .and .u32 (w0 / 2097152) 31)), .int .i64 0, .int .i64 0, .int .i64 0, .int .u32 0] 24)).block _ (blk_lt2 R2.out)).trans R2.out; have lt2 := blk_lt2 R2.out; have i0 := rblk_cell (j := 0) (v := .string nm) I5 rfl; have i1 := rblk_cell (j := 1) (v := .int .i64 (wrap64 (bits .and .u32 (w0 / 2097152) 31))) I5 rfl; have i2 := rblk_cell (j := 2) (v := .int .i64 0) I5 rfl; have i3 := rblk_cell (j := 3) (v := .int .i64 0) I5 rfl; have i4 := rblk_cell (j := 4) (v := .int .i64 0) I5 rfl; have i5 := rblk_cell (j := 5) (v := .int .u32 0) I5 rfl; have x5 := rblk_free (j := 5) I5; have q0 := rblk_cell (j := 0) (v := .string ⟨#[]⟩) R5 rfl; have u0 := rblk_free (j := 0) R5; have q1 := rblk_cell (j := 1) (v := .int .i64 0) R5 rfl; have u1 := rblk_free (j := 1) R5; have q2 := rblk_cell (j := 2) (v := .int .i64 0) R5 rfl; have u2 := rblk_free (j := 2) R5; have q3 := rblk_cell (j := 3) (v := .int .i64 0) R5 rfl; have u3 := rblk_free (j := 3) R5; have q4 := rblk_cell (j := 4) (v := .int .i64 0) R5 rfl; have u4 := rblk_free (j := 4) R5; have q5 := rblk_cell (j := 5) (v := .int .u32 0) R5 rfl; have u5 := rblk_free (j := 5) R5; have RR5 := Lib.hid R5; clear I5 R5))
    refine bodyPost_ret (results_cell_row rfl _ _ w.heap.size 24 #[.string nm, .int .i64 (wrap64 (bits .and .u32 (w0 / 2097152) 31)), .int .i64 0, .int .i64 0, .int .i64 0, .int .u32 0] (0, 0) _ rfl ?_ Tryd.underlying24 rfl (by kernel_rfl)) rfl ?_
    · refine blk_put (cs := #[.string nm, .int .i64 (wrap64 (bits .and .u32 (w0 / 2097152) 31)), .int .i64 0, .int .i64 0, .int .i64 0, .int .u32 0]) ?_ 5 _ rfl
      refine blk_put (cs := #[.string nm, .int .i64 (wrap64 (bits .and .u32 (w0 / 2097152) 31)), .int .i64 0, .int .i64 0, .int .i64 0, .int .u32 0]) ?_ 4 _ rfl
      refine blk_put (cs := #[.string nm, .int .i64 (wrap64 (bits .and .u32 (w0 / 2097152) 31)), .int .i64 0, .int .i64 0, .int .i64 0, .int .u32 0]) ?_ 3 _ rfl
      refine blk_put (cs := #[.string nm, .int .i64 (wrap64 (bits .and .u32 (w0 / 2097152) 31)), .int .i64 0, .int .i64 0, .int .i64 0, .int .u32 0]) ?_ 2 _ rfl
      refine blk_put (cs := #[.string nm, .int .i64 0, .int .i64 0, .int .i64 0, .int .i64 0, .int .u32 0]) ?_ 1 _ rfl
      refine blk_put (cs := #[.string ⟨#[]⟩, .int .i64 0, .int .i64 0, .int .i64 0, .int .i64 0, .int .u32 0]) ?_ 0 _ rfl
      skip
      exact RR5.out
    · exact ⟨rfl, (Below.setCell (p := ⟨w.heap.size, 5, none⟩) (Below.setCell (p := ⟨w.heap.size, 4, none⟩) (Below.setCell (p := ⟨w.heap.size, 3, none⟩) (Below.setCell (p := ⟨w.heap.size, 2, none⟩) (Below.setCell (p := ⟨w.heap.size, 1, none⟩) (Below.setCell (p := ⟨w.heap.size, 0, none⟩) (pw_below_drewN BB5.out nd) (Nat.le_refl _) _) (Nat.le_refl _) _) (Nat.le_refl _) _) (Nat.le_refl _) _) (Nat.le_refl _) _) (Nat.le_refl _) _)⟩
set_option maxHeartbeats 8000000 in
set_option maxRecDepth 100000 in
theorem guess_3 (nm : ByteArray) (w0 : Int) (op sub sa : Int) (form : ByteArray) (w : World) (hreg : ∀ w, Calls Tryd.prog 33 #[.string form] w fun e w' => e = .returned (.agg #[.bool true, .bool false, .bool true, .bool false]) ∧ Below w.heap.size w w') (hwd : ferryref07_wide.f form = some 0) (hsp : ferryref07_special.f nm = some (op, sub, sa, form)) :
    Calls Tryd.prog 22 #[.string nm, .int .u32 w0] w fun e w' => e = .returned (.agg #[.string nm, .int .i64 (wrap64 (bits .and .u32 (w0 / 2097152) 31)), .int .i64 0, .int .i64 (wrap64 (bits .and .u32 (w0 / 2048) 31)), .int .i64 0, .int .u32 0]) ∧ Below w.heap.size w w' := by
  have RG := Lib.hid hreg
  have WD := Lib.hid (fun w => ferryref07_wide.calls form 0 w hwd)
  have SP := Lib.hid (fun w => ferryref07_special.calls nm op sub sa form w hsp)
  have hb0 : Below w.heap.size w (w.alloc (.cells #[.string ⟨#[]⟩, .int .i64 0, .int .i64 0, .int .i64 0, .int .i64 0, .int .u32 0] 24)) := (Below.refl _ w).alloc (Nat.le_refl _) _
  have B0 := Lib.hid hb0
  have R0 := Lib.hid (World.alloc_heap_new w (.cells #[.string ⟨#[]⟩, .int .i64 0, .int .i64 0, .int .i64 0, .int .i64 0, .int .u32 0] 24))
  have S0 := Lib.hid (World.size_alloc w (.cells #[.string ⟨#[]⟩, .int .i64 0, .int .i64 0, .int .i64 0, .int .i64 0, .int .u32 0] 24))
  clear hreg hwd hsp hb0
  · go_enter Tryd.func22, Tryd.ntmps22
    go_wp2_with (first
      | (go_at_call 21; (with_reducible refine (SP.out _).mono ?_); rintro ex w1 ⟨rfl, hb1⟩; have B1 := Lib.hid (B0.out.trans (hb1.mono (by rw [S0.out]; omega))); have R1 := Lib.hid ((hb1.block _ (by rw [S0.out]; omega)).trans R0.out); clear hb1)
      | (go_at_call 33; (with_reducible refine (RG.out _).mono ?_); rintro ex w2 ⟨rfl, hb2⟩; have B2 := Lib.hid (B1.out.trans (hb2.mono B1.out.size)); have R2 := Lib.hid ((hb2.block _ (blk_lt2 R1.out)).trans R1.out); clear hb2)
      | (go_at_call 34; (with_reducible refine (WD.out _).mono ?_); rintro ex w6 ⟨rfl, ⟨nd, rfl⟩⟩; have BB5 := Lib.hid (show Below w.heap.size w ((w2.alloc (.cells #[.bool true, .bool false, .bool true, .bool false] 64)).alloc (.cells #[.string nm, .int .i64 (wrap64 (bits .and .u32 (w0 / 2097152) 31)), .int .i64 0, .int .i64 (wrap64 (bits .and .u32 (w0 / 2048) 31)), .int .i64 0, .int .u32 0] 24)) from (B2.out.alloc B2.out.size _).alloc (by simp; exact Nat.le_trans B2.out.size (Nat.le_succ _)) _); have I5 : (((w2.alloc (.cells #[.bool true, .bool false, .bool true, .bool false] 64)).alloc (.cells #[.string nm, .int .i64 (wrap64 (bits .and .u32 (w0 / 2097152) 31)), .int .i64 0, .int .i64 (wrap64 (bits .and .u32 (w0 / 2048) 31)), .int .i64 0, .int .u32 0] 24)).drewN nd).heap[w2.heap.size + 1]? = _ := two_new w2 (.cells #[.bool true, .bool false, .bool true, .bool false] 64) (.cells #[.string nm, .int .i64 (wrap64 (bits .and .u32 (w0 / 2097152) 31)), .int .i64 0, .int .i64 (wrap64 (bits .and .u32 (w0 / 2048) 31)), .int .i64 0, .int .u32 0] 24); have R5 : (((w2.alloc (.cells #[.bool true, .bool false, .bool true, .bool false] 64)).alloc (.cells #[.string nm, .int .i64 (wrap64 (bits .and .u32 (w0 / 2097152) 31)), .int .i64 0, .int .i64 (wrap64 (bits .and .u32 (w0 / 2048) 31)), .int .i64 0, .int .u32 0] 24)).drewN nd).heap[w.heap.size]? = _ := ((((Below.refl _ w2).alloc (Nat.le_refl _) (.cells #[.bool true, .bool false, .bool true, .bool false] 64)).alloc (by simp) (.cells #[.string nm, .int .i64 (wrap64 (bits .and .u32 (w0 / 2097152) 31)), .int .i64 0, .int .i64 (wrap64 (bits .and .u32 (w0 / 2048) 31)), .int .i64 0, .int .u32 0] 24)).block _ (blk_lt2 R2.out)).trans R2.out; have lt2 := blk_lt2 R2.out; have i0 := rblk_cell (j := 0) (v := .string nm) I5 rfl; have i1 := rblk_cell (j := 1) (v := .int .i64 (wrap64 (bits .and .u32 (w0 / 2097152) 31))) I5 rfl; have i2 := rblk_cell (j := 2) (v := .int .i64 0) I5 rfl; have i3 := rblk_cell (j := 3) (v := .int .i64 (wrap64 (bits .and .u32 (w0 / 2048) 31))) I5 rfl; have i4 := rblk_cell (j := 4) (v := .int .i64 0) I5 rfl; have i5 := rblk_cell (j := 5) (v := .int .u32 0) I5 rfl; have x5 := rblk_free (j := 5) I5; have q0 := rblk_cell (j := 0) (v := .string ⟨#[]⟩) R5 rfl; have u0 := rblk_free (j := 0) R5; have q1 := rblk_cell (j := 1) (v := .int .i64 0) R5 rfl; have u1 := rblk_free (j := 1) R5; have q2 := rblk_cell (j := 2) (v := .int .i64 0) R5 rfl; have u2 := rblk_free (j := 2) R5; have q3 := rblk_cell (j := 3) (v := .int .i64 0) R5 rfl; have u3 := rblk_free (j := 3) R5; have q4 := rblk_cell (j := 4) (v := .int .i64 0) R5 rfl; have u4 := rblk_free (j := 4) R5; have q5 := rblk_cell (j := 5) (v := .int .u32 0) R5 rfl; have u5 := rblk_free (j := 5) R5; have RR5 := Lib.hid R5; clear I5 R5))
    refine bodyPost_ret (results_cell_row rfl _ _ w.heap.size 24 #[.string nm, .int .i64 (wrap64 (bits .and .u32 (w0 / 2097152) 31)), .int .i64 0, .int .i64 (wrap64 (bits .and .u32 (w0 / 2048) 31)), .int .i64 0, .int .u32 0] (0, 0) _ rfl ?_ Tryd.underlying24 rfl (by kernel_rfl)) rfl ?_
    · refine blk_put (cs := #[.string nm, .int .i64 (wrap64 (bits .and .u32 (w0 / 2097152) 31)), .int .i64 0, .int .i64 (wrap64 (bits .and .u32 (w0 / 2048) 31)), .int .i64 0, .int .u32 0]) ?_ 5 _ rfl
      refine blk_put (cs := #[.string nm, .int .i64 (wrap64 (bits .and .u32 (w0 / 2097152) 31)), .int .i64 0, .int .i64 (wrap64 (bits .and .u32 (w0 / 2048) 31)), .int .i64 0, .int .u32 0]) ?_ 4 _ rfl
      refine blk_put (cs := #[.string nm, .int .i64 (wrap64 (bits .and .u32 (w0 / 2097152) 31)), .int .i64 0, .int .i64 0, .int .i64 0, .int .u32 0]) ?_ 3 _ rfl
      refine blk_put (cs := #[.string nm, .int .i64 (wrap64 (bits .and .u32 (w0 / 2097152) 31)), .int .i64 0, .int .i64 0, .int .i64 0, .int .u32 0]) ?_ 2 _ rfl
      refine blk_put (cs := #[.string nm, .int .i64 0, .int .i64 0, .int .i64 0, .int .i64 0, .int .u32 0]) ?_ 1 _ rfl
      refine blk_put (cs := #[.string ⟨#[]⟩, .int .i64 0, .int .i64 0, .int .i64 0, .int .i64 0, .int .u32 0]) ?_ 0 _ rfl
      skip
      exact RR5.out
    · exact ⟨rfl, (Below.setCell (p := ⟨w.heap.size, 5, none⟩) (Below.setCell (p := ⟨w.heap.size, 4, none⟩) (Below.setCell (p := ⟨w.heap.size, 3, none⟩) (Below.setCell (p := ⟨w.heap.size, 2, none⟩) (Below.setCell (p := ⟨w.heap.size, 1, none⟩) (Below.setCell (p := ⟨w.heap.size, 0, none⟩) (pw_below_drewN BB5.out nd) (Nat.le_refl _) _) (Nat.le_refl _) _) (Nat.le_refl _) _) (Nat.le_refl _) _) (Nat.le_refl _) _) (Nat.le_refl _) _)⟩
set_option maxHeartbeats 8000000 in
set_option maxRecDepth 100000 in
theorem guess_4 (nm : ByteArray) (w0 : Int) (op sub sa : Int) (form : ByteArray) (w : World) (hreg : ∀ w, Calls Tryd.prog 33 #[.string form] w fun e w' => e = .returned (.agg #[.bool false, .bool false, .bool false, .bool false]) ∧ Below w.heap.size w w') (hwd : ferryref07_wide.f form = some 20) (hsp : ferryref07_special.f nm = some (op, sub, sa, form)) :
    Calls Tryd.prog 22 #[.string nm, .int .u32 w0] w fun e w' => e = .returned (.agg #[.string nm, .int .i64 0, .int .i64 0, .int .i64 0, .int .i64 0, .int .u32 (bits .and .u32 (w0 / 64) 1048575)]) ∧ Below w.heap.size w w' := by
  have RG := Lib.hid hreg
  have WD := Lib.hid (fun w => ferryref07_wide.calls form 20 w hwd)
  have SP := Lib.hid (fun w => ferryref07_special.calls nm op sub sa form w hsp)
  have hb0 : Below w.heap.size w (w.alloc (.cells #[.string ⟨#[]⟩, .int .i64 0, .int .i64 0, .int .i64 0, .int .i64 0, .int .u32 0] 24)) := (Below.refl _ w).alloc (Nat.le_refl _) _
  have B0 := Lib.hid hb0
  have R0 := Lib.hid (World.alloc_heap_new w (.cells #[.string ⟨#[]⟩, .int .i64 0, .int .i64 0, .int .i64 0, .int .i64 0, .int .u32 0] 24))
  have S0 := Lib.hid (World.size_alloc w (.cells #[.string ⟨#[]⟩, .int .i64 0, .int .i64 0, .int .i64 0, .int .i64 0, .int .u32 0] 24))
  clear hreg hwd hsp hb0
  · go_enter Tryd.func22, Tryd.ntmps22
    go_wp2_with (first
      | (go_at_call 21; (with_reducible refine (SP.out _).mono ?_); rintro ex w1 ⟨rfl, hb1⟩; have B1 := Lib.hid (B0.out.trans (hb1.mono (by rw [S0.out]; omega))); have R1 := Lib.hid ((hb1.block _ (by rw [S0.out]; omega)).trans R0.out); clear hb1)
      | (go_at_call 33; (with_reducible refine (RG.out _).mono ?_); rintro ex w2 ⟨rfl, hb2⟩; have B2 := Lib.hid (B1.out.trans (hb2.mono B1.out.size)); have R2 := Lib.hid ((hb2.block _ (blk_lt2 R1.out)).trans R1.out); clear hb2)
      | (go_at_call 34; (with_reducible refine (WD.out _).mono ?_); rintro ex w6 ⟨rfl, ⟨nd, rfl⟩⟩; have BB5 := Lib.hid (show Below w.heap.size w ((w2.alloc (.cells #[.bool false, .bool false, .bool false, .bool false] 64)).alloc (.cells #[.string nm, .int .i64 0, .int .i64 0, .int .i64 0, .int .i64 0, .int .u32 0] 24)) from (B2.out.alloc B2.out.size _).alloc (by simp; exact Nat.le_trans B2.out.size (Nat.le_succ _)) _); have I5 : (((w2.alloc (.cells #[.bool false, .bool false, .bool false, .bool false] 64)).alloc (.cells #[.string nm, .int .i64 0, .int .i64 0, .int .i64 0, .int .i64 0, .int .u32 0] 24)).drewN nd).heap[w2.heap.size + 1]? = _ := two_new w2 (.cells #[.bool false, .bool false, .bool false, .bool false] 64) (.cells #[.string nm, .int .i64 0, .int .i64 0, .int .i64 0, .int .i64 0, .int .u32 0] 24); have R5 : (((w2.alloc (.cells #[.bool false, .bool false, .bool false, .bool false] 64)).alloc (.cells #[.string nm, .int .i64 0, .int .i64 0, .int .i64 0, .int .i64 0, .int .u32 0] 24)).drewN nd).heap[w.heap.size]? = _ := ((((Below.refl _ w2).alloc (Nat.le_refl _) (.cells #[.bool false, .bool false, .bool false, .bool false] 64)).alloc (by simp) (.cells #[.string nm, .int .i64 0, .int .i64 0, .int .i64 0, .int .i64 0, .int .u32 0] 24)).block _ (blk_lt2 R2.out)).trans R2.out; have lt2 := blk_lt2 R2.out; have i0 := rblk_cell (j := 0) (v := .string nm) I5 rfl; have i1 := rblk_cell (j := 1) (v := .int .i64 0) I5 rfl; have i2 := rblk_cell (j := 2) (v := .int .i64 0) I5 rfl; have i3 := rblk_cell (j := 3) (v := .int .i64 0) I5 rfl; have i4 := rblk_cell (j := 4) (v := .int .i64 0) I5 rfl; have i5 := rblk_cell (j := 5) (v := .int .u32 0) I5 rfl; have x5 := rblk_free (j := 5) I5; have q0 := rblk_cell (j := 0) (v := .string ⟨#[]⟩) R5 rfl; have u0 := rblk_free (j := 0) R5; have q1 := rblk_cell (j := 1) (v := .int .i64 0) R5 rfl; have u1 := rblk_free (j := 1) R5; have q2 := rblk_cell (j := 2) (v := .int .i64 0) R5 rfl; have u2 := rblk_free (j := 2) R5; have q3 := rblk_cell (j := 3) (v := .int .i64 0) R5 rfl; have u3 := rblk_free (j := 3) R5; have q4 := rblk_cell (j := 4) (v := .int .i64 0) R5 rfl; have u4 := rblk_free (j := 4) R5; have q5 := rblk_cell (j := 5) (v := .int .u32 0) R5 rfl; have u5 := rblk_free (j := 5) R5; have RR5 := Lib.hid R5; clear I5 R5))
    refine bodyPost_ret (results_cell_row rfl _ _ w.heap.size 24 #[.string nm, .int .i64 0, .int .i64 0, .int .i64 0, .int .i64 0, .int .u32 (bits .and .u32 (w0 / 64) 1048575)] (0, 0) _ rfl ?_ Tryd.underlying24 rfl (by kernel_rfl)) rfl ?_
    · refine blk_put (cs := #[.string nm, .int .i64 0, .int .i64 0, .int .i64 0, .int .i64 0, .int .u32 0]) ?_ 5 _ rfl
      refine blk_put (cs := #[.string nm, .int .i64 0, .int .i64 0, .int .i64 0, .int .i64 0, .int .u32 0]) ?_ 4 _ rfl
      refine blk_put (cs := #[.string nm, .int .i64 0, .int .i64 0, .int .i64 0, .int .i64 0, .int .u32 0]) ?_ 3 _ rfl
      refine blk_put (cs := #[.string nm, .int .i64 0, .int .i64 0, .int .i64 0, .int .i64 0, .int .u32 0]) ?_ 2 _ rfl
      refine blk_put (cs := #[.string nm, .int .i64 0, .int .i64 0, .int .i64 0, .int .i64 0, .int .u32 0]) ?_ 1 _ rfl
      refine blk_put (cs := #[.string ⟨#[]⟩, .int .i64 0, .int .i64 0, .int .i64 0, .int .i64 0, .int .u32 0]) ?_ 0 _ rfl
      refine (Deep.blk_setCell_other _ _ _ _ (by simp; omega)).trans ?_
      exact RR5.out
    · exact ⟨rfl, (Below.setCell (p := ⟨w.heap.size, 5, none⟩) (Below.setCell (p := ⟨w.heap.size, 4, none⟩) (Below.setCell (p := ⟨w.heap.size, 3, none⟩) (Below.setCell (p := ⟨w.heap.size, 2, none⟩) (Below.setCell (p := ⟨w.heap.size, 1, none⟩) (Below.setCell (p := ⟨w.heap.size, 0, none⟩) (Below.setCell (p := ⟨w2.heap.size + 1, 5, none⟩) (pw_below_drewN BB5.out nd) (Nat.le_trans B2.out.size (Nat.le_succ _)) _) (Nat.le_refl _) _) (Nat.le_refl _) _) (Nat.le_refl _) _) (Nat.le_refl _) _) (Nat.le_refl _) _) (Nat.le_refl _) _)⟩
set_option maxHeartbeats 8000000 in
set_option maxRecDepth 100000 in
theorem guess_5 (nm : ByteArray) (w0 : Int) (op sub sa : Int) (form : ByteArray) (w : World) (hreg : ∀ w, Calls Tryd.prog 33 #[.string form] w fun e w' => e = .returned (.agg #[.bool false, .bool false, .bool true, .bool false]) ∧ Below w.heap.size w w') (hwd : ferryref07_wide.f form = some 0) (hsp : ferryref07_special.f nm = some (op, sub, sa, form)) :
    Calls Tryd.prog 22 #[.string nm, .int .u32 w0] w fun e w' => e = .returned (.agg #[.string nm, .int .i64 0, .int .i64 0, .int .i64 (wrap64 (bits .and .u32 (w0 / 2048) 31)), .int .i64 0, .int .u32 0]) ∧ Below w.heap.size w w' := by
  have RG := Lib.hid hreg
  have WD := Lib.hid (fun w => ferryref07_wide.calls form 0 w hwd)
  have SP := Lib.hid (fun w => ferryref07_special.calls nm op sub sa form w hsp)
  have hb0 : Below w.heap.size w (w.alloc (.cells #[.string ⟨#[]⟩, .int .i64 0, .int .i64 0, .int .i64 0, .int .i64 0, .int .u32 0] 24)) := (Below.refl _ w).alloc (Nat.le_refl _) _
  have B0 := Lib.hid hb0
  have R0 := Lib.hid (World.alloc_heap_new w (.cells #[.string ⟨#[]⟩, .int .i64 0, .int .i64 0, .int .i64 0, .int .i64 0, .int .u32 0] 24))
  have S0 := Lib.hid (World.size_alloc w (.cells #[.string ⟨#[]⟩, .int .i64 0, .int .i64 0, .int .i64 0, .int .i64 0, .int .u32 0] 24))
  clear hreg hwd hsp hb0
  · go_enter Tryd.func22, Tryd.ntmps22
    go_wp2_with (first
      | (go_at_call 21; (with_reducible refine (SP.out _).mono ?_); rintro ex w1 ⟨rfl, hb1⟩; have B1 := Lib.hid (B0.out.trans (hb1.mono (by rw [S0.out]; omega))); have R1 := Lib.hid ((hb1.block _ (by rw [S0.out]; omega)).trans R0.out); clear hb1)
      | (go_at_call 33; (with_reducible refine (RG.out _).mono ?_); rintro ex w2 ⟨rfl, hb2⟩; have B2 := Lib.hid (B1.out.trans (hb2.mono B1.out.size)); have R2 := Lib.hid ((hb2.block _ (blk_lt2 R1.out)).trans R1.out); clear hb2)
      | (go_at_call 34; (with_reducible refine (WD.out _).mono ?_); rintro ex w6 ⟨rfl, ⟨nd, rfl⟩⟩; have BB5 := Lib.hid (show Below w.heap.size w ((w2.alloc (.cells #[.bool false, .bool false, .bool true, .bool false] 64)).alloc (.cells #[.string nm, .int .i64 0, .int .i64 0, .int .i64 (wrap64 (bits .and .u32 (w0 / 2048) 31)), .int .i64 0, .int .u32 0] 24)) from (B2.out.alloc B2.out.size _).alloc (by simp; exact Nat.le_trans B2.out.size (Nat.le_succ _)) _); have I5 : (((w2.alloc (.cells #[.bool false, .bool false, .bool true, .bool false] 64)).alloc (.cells #[.string nm, .int .i64 0, .int .i64 0, .int .i64 (wrap64 (bits .and .u32 (w0 / 2048) 31)), .int .i64 0, .int .u32 0] 24)).drewN nd).heap[w2.heap.size + 1]? = _ := two_new w2 (.cells #[.bool false, .bool false, .bool true, .bool false] 64) (.cells #[.string nm, .int .i64 0, .int .i64 0, .int .i64 (wrap64 (bits .and .u32 (w0 / 2048) 31)), .int .i64 0, .int .u32 0] 24); have R5 : (((w2.alloc (.cells #[.bool false, .bool false, .bool true, .bool false] 64)).alloc (.cells #[.string nm, .int .i64 0, .int .i64 0, .int .i64 (wrap64 (bits .and .u32 (w0 / 2048) 31)), .int .i64 0, .int .u32 0] 24)).drewN nd).heap[w.heap.size]? = _ := ((((Below.refl _ w2).alloc (Nat.le_refl _) (.cells #[.bool false, .bool false, .bool true, .bool false] 64)).alloc (by simp) (.cells #[.string nm, .int .i64 0, .int .i64 0, .int .i64 (wrap64 (bits .and .u32 (w0 / 2048) 31)), .int .i64 0, .int .u32 0] 24)).block _ (blk_lt2 R2.out)).trans R2.out; have lt2 := blk_lt2 R2.out; have i0 := rblk_cell (j := 0) (v := .string nm) I5 rfl; have i1 := rblk_cell (j := 1) (v := .int .i64 0) I5 rfl; have i2 := rblk_cell (j := 2) (v := .int .i64 0) I5 rfl; have i3 := rblk_cell (j := 3) (v := .int .i64 (wrap64 (bits .and .u32 (w0 / 2048) 31))) I5 rfl; have i4 := rblk_cell (j := 4) (v := .int .i64 0) I5 rfl; have i5 := rblk_cell (j := 5) (v := .int .u32 0) I5 rfl; have x5 := rblk_free (j := 5) I5; have q0 := rblk_cell (j := 0) (v := .string ⟨#[]⟩) R5 rfl; have u0 := rblk_free (j := 0) R5; have q1 := rblk_cell (j := 1) (v := .int .i64 0) R5 rfl; have u1 := rblk_free (j := 1) R5; have q2 := rblk_cell (j := 2) (v := .int .i64 0) R5 rfl; have u2 := rblk_free (j := 2) R5; have q3 := rblk_cell (j := 3) (v := .int .i64 0) R5 rfl; have u3 := rblk_free (j := 3) R5; have q4 := rblk_cell (j := 4) (v := .int .i64 0) R5 rfl; have u4 := rblk_free (j := 4) R5; have q5 := rblk_cell (j := 5) (v := .int .u32 0) R5 rfl; have u5 := rblk_free (j := 5) R5; have RR5 := Lib.hid R5; clear I5 R5))
    refine bodyPost_ret (results_cell_row rfl _ _ w.heap.size 24 #[.string nm, .int .i64 0, .int .i64 0, .int .i64 (wrap64 (bits .and .u32 (w0 / 2048) 31)), .int .i64 0, .int .u32 0] (0, 0) _ rfl ?_ Tryd.underlying24 rfl (by kernel_rfl)) rfl ?_
    · refine blk_put (cs := #[.string nm, .int .i64 0, .int .i64 0, .int .i64 (wrap64 (bits .and .u32 (w0 / 2048) 31)), .int .i64 0, .int .u32 0]) ?_ 5 _ rfl
      refine blk_put (cs := #[.string nm, .int .i64 0, .int .i64 0, .int .i64 (wrap64 (bits .and .u32 (w0 / 2048) 31)), .int .i64 0, .int .u32 0]) ?_ 4 _ rfl
      refine blk_put (cs := #[.string nm, .int .i64 0, .int .i64 0, .int .i64 0, .int .i64 0, .int .u32 0]) ?_ 3 _ rfl
      refine blk_put (cs := #[.string nm, .int .i64 0, .int .i64 0, .int .i64 0, .int .i64 0, .int .u32 0]) ?_ 2 _ rfl
      refine blk_put (cs := #[.string nm, .int .i64 0, .int .i64 0, .int .i64 0, .int .i64 0, .int .u32 0]) ?_ 1 _ rfl
      refine blk_put (cs := #[.string ⟨#[]⟩, .int .i64 0, .int .i64 0, .int .i64 0, .int .i64 0, .int .u32 0]) ?_ 0 _ rfl
      skip
      exact RR5.out
    · exact ⟨rfl, (Below.setCell (p := ⟨w.heap.size, 5, none⟩) (Below.setCell (p := ⟨w.heap.size, 4, none⟩) (Below.setCell (p := ⟨w.heap.size, 3, none⟩) (Below.setCell (p := ⟨w.heap.size, 2, none⟩) (Below.setCell (p := ⟨w.heap.size, 1, none⟩) (Below.setCell (p := ⟨w.heap.size, 0, none⟩) (pw_below_drewN BB5.out nd) (Nat.le_refl _) _) (Nat.le_refl _) _) (Nat.le_refl _) _) (Nat.le_refl _) _) (Nat.le_refl _) _) (Nat.le_refl _) _)⟩
set_option maxHeartbeats 8000000 in
set_option maxRecDepth 100000 in
theorem guess_6 (nm : ByteArray) (w0 : Int) (op sub sa : Int) (form : ByteArray) (w : World) (hreg : ∀ w, Calls Tryd.prog 33 #[.string form] w fun e w' => e = .returned (.agg #[.bool true, .bool true, .bool false, .bool false]) ∧ Below w.heap.size w w') (hwd : ferryref07_wide.f form = some 0) (hsp : ferryref07_special.f nm = some (op, sub, sa, form)) :
    Calls Tryd.prog 22 #[.string nm, .int .u32 w0] w fun e w' => e = .returned (.agg #[.string nm, .int .i64 (wrap64 (bits .and .u32 (w0 / 2097152) 31)), .int .i64 (wrap64 (bits .and .u32 (w0 / 65536) 31)), .int .i64 0, .int .i64 0, .int .u32 0]) ∧ Below w.heap.size w w' := by
  have RG := Lib.hid hreg
  have WD := Lib.hid (fun w => ferryref07_wide.calls form 0 w hwd)
  have SP := Lib.hid (fun w => ferryref07_special.calls nm op sub sa form w hsp)
  have hb0 : Below w.heap.size w (w.alloc (.cells #[.string ⟨#[]⟩, .int .i64 0, .int .i64 0, .int .i64 0, .int .i64 0, .int .u32 0] 24)) := (Below.refl _ w).alloc (Nat.le_refl _) _
  have B0 := Lib.hid hb0
  have R0 := Lib.hid (World.alloc_heap_new w (.cells #[.string ⟨#[]⟩, .int .i64 0, .int .i64 0, .int .i64 0, .int .i64 0, .int .u32 0] 24))
  have S0 := Lib.hid (World.size_alloc w (.cells #[.string ⟨#[]⟩, .int .i64 0, .int .i64 0, .int .i64 0, .int .i64 0, .int .u32 0] 24))
  clear hreg hwd hsp hb0
  · go_enter Tryd.func22, Tryd.ntmps22
    go_wp2_with (first
      | (go_at_call 21; (with_reducible refine (SP.out _).mono ?_); rintro ex w1 ⟨rfl, hb1⟩; have B1 := Lib.hid (B0.out.trans (hb1.mono (by rw [S0.out]; omega))); have R1 := Lib.hid ((hb1.block _ (by rw [S0.out]; omega)).trans R0.out); clear hb1)
      | (go_at_call 33; (with_reducible refine (RG.out _).mono ?_); rintro ex w2 ⟨rfl, hb2⟩; have B2 := Lib.hid (B1.out.trans (hb2.mono B1.out.size)); have R2 := Lib.hid ((hb2.block _ (blk_lt2 R1.out)).trans R1.out); clear hb2)
      | (go_at_call 34; (with_reducible refine (WD.out _).mono ?_); rintro ex w6 ⟨rfl, ⟨nd, rfl⟩⟩; have BB5 := Lib.hid (show Below w.heap.size w ((w2.alloc (.cells #[.bool true, .bool true, .bool false, .bool false] 64)).alloc (.cells #[.string nm, .int .i64 (wrap64 (bits .and .u32 (w0 / 2097152) 31)), .int .i64 (wrap64 (bits .and .u32 (w0 / 65536) 31)), .int .i64 0, .int .i64 0, .int .u32 0] 24)) from (B2.out.alloc B2.out.size _).alloc (by simp; exact Nat.le_trans B2.out.size (Nat.le_succ _)) _); have I5 : (((w2.alloc (.cells #[.bool true, .bool true, .bool false, .bool false] 64)).alloc (.cells #[.string nm, .int .i64 (wrap64 (bits .and .u32 (w0 / 2097152) 31)), .int .i64 (wrap64 (bits .and .u32 (w0 / 65536) 31)), .int .i64 0, .int .i64 0, .int .u32 0] 24)).drewN nd).heap[w2.heap.size + 1]? = _ := two_new w2 (.cells #[.bool true, .bool true, .bool false, .bool false] 64) (.cells #[.string nm, .int .i64 (wrap64 (bits .and .u32 (w0 / 2097152) 31)), .int .i64 (wrap64 (bits .and .u32 (w0 / 65536) 31)), .int .i64 0, .int .i64 0, .int .u32 0] 24); have R5 : (((w2.alloc (.cells #[.bool true, .bool true, .bool false, .bool false] 64)).alloc (.cells #[.string nm, .int .i64 (wrap64 (bits .and .u32 (w0 / 2097152) 31)), .int .i64 (wrap64 (bits .and .u32 (w0 / 65536) 31)), .int .i64 0, .int .i64 0, .int .u32 0] 24)).drewN nd).heap[w.heap.size]? = _ := ((((Below.refl _ w2).alloc (Nat.le_refl _) (.cells #[.bool true, .bool true, .bool false, .bool false] 64)).alloc (by simp) (.cells #[.string nm, .int .i64 (wrap64 (bits .and .u32 (w0 / 2097152) 31)), .int .i64 (wrap64 (bits .and .u32 (w0 / 65536) 31)), .int .i64 0, .int .i64 0, .int .u32 0] 24)).block _ (blk_lt2 R2.out)).trans R2.out; have lt2 := blk_lt2 R2.out; have i0 := rblk_cell (j := 0) (v := .string nm) I5 rfl; have i1 := rblk_cell (j := 1) (v := .int .i64 (wrap64 (bits .and .u32 (w0 / 2097152) 31))) I5 rfl; have i2 := rblk_cell (j := 2) (v := .int .i64 (wrap64 (bits .and .u32 (w0 / 65536) 31))) I5 rfl; have i3 := rblk_cell (j := 3) (v := .int .i64 0) I5 rfl; have i4 := rblk_cell (j := 4) (v := .int .i64 0) I5 rfl; have i5 := rblk_cell (j := 5) (v := .int .u32 0) I5 rfl; have x5 := rblk_free (j := 5) I5; have q0 := rblk_cell (j := 0) (v := .string ⟨#[]⟩) R5 rfl; have u0 := rblk_free (j := 0) R5; have q1 := rblk_cell (j := 1) (v := .int .i64 0) R5 rfl; have u1 := rblk_free (j := 1) R5; have q2 := rblk_cell (j := 2) (v := .int .i64 0) R5 rfl; have u2 := rblk_free (j := 2) R5; have q3 := rblk_cell (j := 3) (v := .int .i64 0) R5 rfl; have u3 := rblk_free (j := 3) R5; have q4 := rblk_cell (j := 4) (v := .int .i64 0) R5 rfl; have u4 := rblk_free (j := 4) R5; have q5 := rblk_cell (j := 5) (v := .int .u32 0) R5 rfl; have u5 := rblk_free (j := 5) R5; have RR5 := Lib.hid R5; clear I5 R5))
    refine bodyPost_ret (results_cell_row rfl _ _ w.heap.size 24 #[.string nm, .int .i64 (wrap64 (bits .and .u32 (w0 / 2097152) 31)), .int .i64 (wrap64 (bits .and .u32 (w0 / 65536) 31)), .int .i64 0, .int .i64 0, .int .u32 0] (0, 0) _ rfl ?_ Tryd.underlying24 rfl (by kernel_rfl)) rfl ?_
    · refine blk_put (cs := #[.string nm, .int .i64 (wrap64 (bits .and .u32 (w0 / 2097152) 31)), .int .i64 (wrap64 (bits .and .u32 (w0 / 65536) 31)), .int .i64 0, .int .i64 0, .int .u32 0]) ?_ 5 _ rfl
      refine blk_put (cs := #[.string nm, .int .i64 (wrap64 (bits .and .u32 (w0 / 2097152) 31)), .int .i64 (wrap64 (bits .and .u32 (w0 / 65536) 31)), .int .i64 0, .int .i64 0, .int .u32 0]) ?_ 4 _ rfl
      refine blk_put (cs := #[.string nm, .int .i64 (wrap64 (bits .and .u32 (w0 / 2097152) 31)), .int .i64 (wrap64 (bits .and .u32 (w0 / 65536) 31)), .int .i64 0, .int .i64 0, .int .u32 0]) ?_ 3 _ rfl
      refine blk_put (cs := #[.string nm, .int .i64 (wrap64 (bits .and .u32 (w0 / 2097152) 31)), .int .i64 0, .int .i64 0, .int .i64 0, .int .u32 0]) ?_ 2 _ rfl
      refine blk_put (cs := #[.string nm, .int .i64 0, .int .i64 0, .int .i64 0, .int .i64 0, .int .u32 0]) ?_ 1 _ rfl
      refine blk_put (cs := #[.string ⟨#[]⟩, .int .i64 0, .int .i64 0, .int .i64 0, .int .i64 0, .int .u32 0]) ?_ 0 _ rfl
      skip
      exact RR5.out
    · exact ⟨rfl, (Below.setCell (p := ⟨w.heap.size, 5, none⟩) (Below.setCell (p := ⟨w.heap.size, 4, none⟩) (Below.setCell (p := ⟨w.heap.size, 3, none⟩) (Below.setCell (p := ⟨w.heap.size, 2, none⟩) (Below.setCell (p := ⟨w.heap.size, 1, none⟩) (Below.setCell (p := ⟨w.heap.size, 0, none⟩) (pw_below_drewN BB5.out nd) (Nat.le_refl _) _) (Nat.le_refl _) _) (Nat.le_refl _) _) (Nat.le_refl _) _) (Nat.le_refl _) _) (Nat.le_refl _) _)⟩
set_option maxHeartbeats 8000000 in
set_option maxRecDepth 100000 in
theorem guess_7 (nm : ByteArray) (w0 : Int) (op sub sa : Int) (form : ByteArray) (w : World) (hreg : ∀ w, Calls Tryd.prog 33 #[.string form] w fun e w' => e = .returned (.agg #[.bool true, .bool false, .bool false, .bool false]) ∧ Below w.heap.size w w') (hwd : ferryref07_wide.f form = some 16) (hsp : ferryref07_special.f nm = some (op, sub, sa, form)) :
    Calls Tryd.prog 22 #[.string nm, .int .u32 w0] w fun e w' => e = .returned (.agg #[.string nm, .int .i64 (wrap64 (bits .and .u32 (w0 / 2097152) 31)), .int .i64 0, .int .i64 0, .int .i64 0, .int .u32 (bits .and .u32 w0 65535)]) ∧ Below w.heap.size w w' := by
  have RG := Lib.hid hreg
  have WD := Lib.hid (fun w => ferryref07_wide.calls form 16 w hwd)
  have SP := Lib.hid (fun w => ferryref07_special.calls nm op sub sa form w hsp)
  have hb0 : Below w.heap.size w (w.alloc (.cells #[.string ⟨#[]⟩, .int .i64 0, .int .i64 0, .int .i64 0, .int .i64 0, .int .u32 0] 24)) := (Below.refl _ w).alloc (Nat.le_refl _) _
  have B0 := Lib.hid hb0
  have R0 := Lib.hid (World.alloc_heap_new w (.cells #[.string ⟨#[]⟩, .int .i64 0, .int .i64 0, .int .i64 0, .int .i64 0, .int .u32 0] 24))
  have S0 := Lib.hid (World.size_alloc w (.cells #[.string ⟨#[]⟩, .int .i64 0, .int .i64 0, .int .i64 0, .int .i64 0, .int .u32 0] 24))
  clear hreg hwd hsp hb0
  · go_enter Tryd.func22, Tryd.ntmps22
    go_wp2_with (first
      | (go_at_call 21; (with_reducible refine (SP.out _).mono ?_); rintro ex w1 ⟨rfl, hb1⟩; have B1 := Lib.hid (B0.out.trans (hb1.mono (by rw [S0.out]; omega))); have R1 := Lib.hid ((hb1.block _ (by rw [S0.out]; omega)).trans R0.out); clear hb1)
      | (go_at_call 33; (with_reducible refine (RG.out _).mono ?_); rintro ex w2 ⟨rfl, hb2⟩; have B2 := Lib.hid (B1.out.trans (hb2.mono B1.out.size)); have R2 := Lib.hid ((hb2.block _ (blk_lt2 R1.out)).trans R1.out); clear hb2)
      | (go_at_call 34; (with_reducible refine (WD.out _).mono ?_); rintro ex w6 ⟨rfl, ⟨nd, rfl⟩⟩; have BB5 := Lib.hid (show Below w.heap.size w ((w2.alloc (.cells #[.bool true, .bool false, .bool false, .bool false] 64)).alloc (.cells #[.string nm, .int .i64 (wrap64 (bits .and .u32 (w0 / 2097152) 31)), .int .i64 0, .int .i64 0, .int .i64 0, .int .u32 0] 24)) from (B2.out.alloc B2.out.size _).alloc (by simp; exact Nat.le_trans B2.out.size (Nat.le_succ _)) _); have I5 : (((w2.alloc (.cells #[.bool true, .bool false, .bool false, .bool false] 64)).alloc (.cells #[.string nm, .int .i64 (wrap64 (bits .and .u32 (w0 / 2097152) 31)), .int .i64 0, .int .i64 0, .int .i64 0, .int .u32 0] 24)).drewN nd).heap[w2.heap.size + 1]? = _ := two_new w2 (.cells #[.bool true, .bool false, .bool false, .bool false] 64) (.cells #[.string nm, .int .i64 (wrap64 (bits .and .u32 (w0 / 2097152) 31)), .int .i64 0, .int .i64 0, .int .i64 0, .int .u32 0] 24); have R5 : (((w2.alloc (.cells #[.bool true, .bool false, .bool false, .bool false] 64)).alloc (.cells #[.string nm, .int .i64 (wrap64 (bits .and .u32 (w0 / 2097152) 31)), .int .i64 0, .int .i64 0, .int .i64 0, .int .u32 0] 24)).drewN nd).heap[w.heap.size]? = _ := ((((Below.refl _ w2).alloc (Nat.le_refl _) (.cells #[.bool true, .bool false, .bool false, .bool false] 64)).alloc (by simp) (.cells #[.string nm, .int .i64 (wrap64 (bits .and .u32 (w0 / 2097152) 31)), .int .i64 0, .int .i64 0, .int .i64 0, .int .u32 0] 24)).block _ (blk_lt2 R2.out)).trans R2.out; have lt2 := blk_lt2 R2.out; have i0 := rblk_cell (j := 0) (v := .string nm) I5 rfl; have i1 := rblk_cell (j := 1) (v := .int .i64 (wrap64 (bits .and .u32 (w0 / 2097152) 31))) I5 rfl; have i2 := rblk_cell (j := 2) (v := .int .i64 0) I5 rfl; have i3 := rblk_cell (j := 3) (v := .int .i64 0) I5 rfl; have i4 := rblk_cell (j := 4) (v := .int .i64 0) I5 rfl; have i5 := rblk_cell (j := 5) (v := .int .u32 0) I5 rfl; have x5 := rblk_free (j := 5) I5; have q0 := rblk_cell (j := 0) (v := .string ⟨#[]⟩) R5 rfl; have u0 := rblk_free (j := 0) R5; have q1 := rblk_cell (j := 1) (v := .int .i64 0) R5 rfl; have u1 := rblk_free (j := 1) R5; have q2 := rblk_cell (j := 2) (v := .int .i64 0) R5 rfl; have u2 := rblk_free (j := 2) R5; have q3 := rblk_cell (j := 3) (v := .int .i64 0) R5 rfl; have u3 := rblk_free (j := 3) R5; have q4 := rblk_cell (j := 4) (v := .int .i64 0) R5 rfl; have u4 := rblk_free (j := 4) R5; have q5 := rblk_cell (j := 5) (v := .int .u32 0) R5 rfl; have u5 := rblk_free (j := 5) R5; have RR5 := Lib.hid R5; clear I5 R5))
    refine bodyPost_ret (results_cell_row rfl _ _ w.heap.size 24 #[.string nm, .int .i64 (wrap64 (bits .and .u32 (w0 / 2097152) 31)), .int .i64 0, .int .i64 0, .int .i64 0, .int .u32 (bits .and .u32 w0 65535)] (0, 0) _ rfl ?_ Tryd.underlying24 rfl (by kernel_rfl)) rfl ?_
    · refine blk_put (cs := #[.string nm, .int .i64 (wrap64 (bits .and .u32 (w0 / 2097152) 31)), .int .i64 0, .int .i64 0, .int .i64 0, .int .u32 0]) ?_ 5 _ rfl
      refine blk_put (cs := #[.string nm, .int .i64 (wrap64 (bits .and .u32 (w0 / 2097152) 31)), .int .i64 0, .int .i64 0, .int .i64 0, .int .u32 0]) ?_ 4 _ rfl
      refine blk_put (cs := #[.string nm, .int .i64 (wrap64 (bits .and .u32 (w0 / 2097152) 31)), .int .i64 0, .int .i64 0, .int .i64 0, .int .u32 0]) ?_ 3 _ rfl
      refine blk_put (cs := #[.string nm, .int .i64 (wrap64 (bits .and .u32 (w0 / 2097152) 31)), .int .i64 0, .int .i64 0, .int .i64 0, .int .u32 0]) ?_ 2 _ rfl
      refine blk_put (cs := #[.string nm, .int .i64 0, .int .i64 0, .int .i64 0, .int .i64 0, .int .u32 0]) ?_ 1 _ rfl
      refine blk_put (cs := #[.string ⟨#[]⟩, .int .i64 0, .int .i64 0, .int .i64 0, .int .i64 0, .int .u32 0]) ?_ 0 _ rfl
      refine (Deep.blk_setCell_other _ _ _ _ (by simp; omega)).trans ?_
      exact RR5.out
    · exact ⟨rfl, (Below.setCell (p := ⟨w.heap.size, 5, none⟩) (Below.setCell (p := ⟨w.heap.size, 4, none⟩) (Below.setCell (p := ⟨w.heap.size, 3, none⟩) (Below.setCell (p := ⟨w.heap.size, 2, none⟩) (Below.setCell (p := ⟨w.heap.size, 1, none⟩) (Below.setCell (p := ⟨w.heap.size, 0, none⟩) (Below.setCell (p := ⟨w2.heap.size + 1, 5, none⟩) (pw_below_drewN BB5.out nd) (Nat.le_trans B2.out.size (Nat.le_succ _)) _) (Nat.le_refl _) _) (Nat.le_refl _) _) (Nat.le_refl _) _) (Nat.le_refl _) _) (Nat.le_refl _) _) (Nat.le_refl _) _)⟩
set_option maxHeartbeats 8000000 in
set_option maxRecDepth 100000 in
theorem guess_8 (nm : ByteArray) (w0 : Int) (op sub sa : Int) (form : ByteArray) (w : World) (hreg : ∀ w, Calls Tryd.prog 33 #[.string form] w fun e w' => e = .returned (.agg #[.bool false, .bool false, .bool false, .bool false]) ∧ Below w.heap.size w w') (hwd : ferryref07_wide.f form = some 26) (hsp : ferryref07_special.f nm = some (op, sub, sa, form)) :
    Calls Tryd.prog 22 #[.string nm, .int .u32 w0] w fun e w' => e = .returned (.agg #[.string nm, .int .i64 0, .int .i64 0, .int .i64 0, .int .i64 0, .int .u32 (bits .and .u32 w0 67108863)]) ∧ Below w.heap.size w w' := by
  have RG := Lib.hid hreg
  have WD := Lib.hid (fun w => ferryref07_wide.calls form 26 w hwd)
  have SP := Lib.hid (fun w => ferryref07_special.calls nm op sub sa form w hsp)
  have hb0 : Below w.heap.size w (w.alloc (.cells #[.string ⟨#[]⟩, .int .i64 0, .int .i64 0, .int .i64 0, .int .i64 0, .int .u32 0] 24)) := (Below.refl _ w).alloc (Nat.le_refl _) _
  have B0 := Lib.hid hb0
  have R0 := Lib.hid (World.alloc_heap_new w (.cells #[.string ⟨#[]⟩, .int .i64 0, .int .i64 0, .int .i64 0, .int .i64 0, .int .u32 0] 24))
  have S0 := Lib.hid (World.size_alloc w (.cells #[.string ⟨#[]⟩, .int .i64 0, .int .i64 0, .int .i64 0, .int .i64 0, .int .u32 0] 24))
  clear hreg hwd hsp hb0
  · go_enter Tryd.func22, Tryd.ntmps22
    go_wp2_with (first
      | (go_at_call 21; (with_reducible refine (SP.out _).mono ?_); rintro ex w1 ⟨rfl, hb1⟩; have B1 := Lib.hid (B0.out.trans (hb1.mono (by rw [S0.out]; omega))); have R1 := Lib.hid ((hb1.block _ (by rw [S0.out]; omega)).trans R0.out); clear hb1)
      | (go_at_call 33; (with_reducible refine (RG.out _).mono ?_); rintro ex w2 ⟨rfl, hb2⟩; have B2 := Lib.hid (B1.out.trans (hb2.mono B1.out.size)); have R2 := Lib.hid ((hb2.block _ (blk_lt2 R1.out)).trans R1.out); clear hb2)
      | (go_at_call 34; (with_reducible refine (WD.out _).mono ?_); rintro ex w6 ⟨rfl, ⟨nd, rfl⟩⟩; have BB5 := Lib.hid (show Below w.heap.size w ((w2.alloc (.cells #[.bool false, .bool false, .bool false, .bool false] 64)).alloc (.cells #[.string nm, .int .i64 0, .int .i64 0, .int .i64 0, .int .i64 0, .int .u32 0] 24)) from (B2.out.alloc B2.out.size _).alloc (by simp; exact Nat.le_trans B2.out.size (Nat.le_succ _)) _); have I5 : (((w2.alloc (.cells #[.bool false, .bool false, .bool false, .bool false] 64)).alloc (.cells #[.string nm, .int .i64 0, .int .i64 0, .int .i64 0, .int .i64 0, .int .u32 0] 24)).drewN nd).heap[w2.heap.size + 1]? = _ := two_new w2 (.cells #[.bool false, .bool false, .bool false, .bool false] 64) (.cells #[.string nm, .int .i64 0, .int .i64 0, .int .i64 0, .int .i64 0, .int .u32 0] 24); have R5 : (((w2.alloc (.cells #[.bool false, .bool false, .bool false, .bool false] 64)).alloc (.cells #[.string nm, .int .i64 0, .int .i64 0, .int .i64 0, .int .i64 0, .int .u32 0] 24)).drewN nd).heap[w.heap.size]? = _ := ((((Below.refl _ w2).alloc (Nat.le_refl _) (.cells #[.bool false, .bool false, .bool false, .bool false] 64)).alloc (by simp) (.cells #[.string nm, .int .i64 0, .int .i64 0, .int .i64 0, .int .i64 0, .int .u32 0] 24)).block _ (blk_lt2 R2.out)).trans R2.out; have lt2 := blk_lt2 R2.out; have i0 := rblk_cell (j := 0) (v := .string nm) I5 rfl; have i1 := rblk_cell (j := 1) (v := .int .i64 0) I5 rfl; have i2 := rblk_cell (j := 2) (v := .int .i64 0) I5 rfl; have i3 := rblk_cell (j := 3) (v := .int .i64 0) I5 rfl; have i4 := rblk_cell (j := 4) (v := .int .i64 0) I5 rfl; have i5 := rblk_cell (j := 5) (v := .int .u32 0) I5 rfl; have x5 := rblk_free (j := 5) I5; have q0 := rblk_cell (j := 0) (v := .string ⟨#[]⟩) R5 rfl; have u0 := rblk_free (j := 0) R5; have q1 := rblk_cell (j := 1) (v := .int .i64 0) R5 rfl; have u1 := rblk_free (j := 1) R5; have q2 := rblk_cell (j := 2) (v := .int .i64 0) R5 rfl; have u2 := rblk_free (j := 2) R5; have q3 := rblk_cell (j := 3) (v := .int .i64 0) R5 rfl; have u3 := rblk_free (j := 3) R5; have q4 := rblk_cell (j := 4) (v := .int .i64 0) R5 rfl; have u4 := rblk_free (j := 4) R5; have q5 := rblk_cell (j := 5) (v := .int .u32 0) R5 rfl; have u5 := rblk_free (j := 5) R5; have RR5 := Lib.hid R5; clear I5 R5))
    refine bodyPost_ret (results_cell_row rfl _ _ w.heap.size 24 #[.string nm, .int .i64 0, .int .i64 0, .int .i64 0, .int .i64 0, .int .u32 (bits .and .u32 w0 67108863)] (0, 0) _ rfl ?_ Tryd.underlying24 rfl (by kernel_rfl)) rfl ?_
    · refine blk_put (cs := #[.string nm, .int .i64 0, .int .i64 0, .int .i64 0, .int .i64 0, .int .u32 0]) ?_ 5 _ rfl
      refine blk_put (cs := #[.string nm, .int .i64 0, .int .i64 0, .int .i64 0, .int .i64 0, .int .u32 0]) ?_ 4 _ rfl
      refine blk_put (cs := #[.string nm, .int .i64 0, .int .i64 0, .int .i64 0, .int .i64 0, .int .u32 0]) ?_ 3 _ rfl
      refine blk_put (cs := #[.string nm, .int .i64 0, .int .i64 0, .int .i64 0, .int .i64 0, .int .u32 0]) ?_ 2 _ rfl
      refine blk_put (cs := #[.string nm, .int .i64 0, .int .i64 0, .int .i64 0, .int .i64 0, .int .u32 0]) ?_ 1 _ rfl
      refine blk_put (cs := #[.string ⟨#[]⟩, .int .i64 0, .int .i64 0, .int .i64 0, .int .i64 0, .int .u32 0]) ?_ 0 _ rfl
      refine (Deep.blk_setCell_other _ _ _ _ (by simp; omega)).trans ?_
      exact RR5.out
    · exact ⟨rfl, (Below.setCell (p := ⟨w.heap.size, 5, none⟩) (Below.setCell (p := ⟨w.heap.size, 4, none⟩) (Below.setCell (p := ⟨w.heap.size, 3, none⟩) (Below.setCell (p := ⟨w.heap.size, 2, none⟩) (Below.setCell (p := ⟨w.heap.size, 1, none⟩) (Below.setCell (p := ⟨w.heap.size, 0, none⟩) (Below.setCell (p := ⟨w2.heap.size + 1, 5, none⟩) (pw_below_drewN BB5.out nd) (Nat.le_trans B2.out.size (Nat.le_succ _)) _) (Nat.le_refl _) _) (Nat.le_refl _) _) (Nat.le_refl _) _) (Nat.le_refl _) _) (Nat.le_refl _) _) (Nat.le_refl _) _)⟩
set_option maxHeartbeats 8000000 in
set_option maxRecDepth 100000 in
theorem guess_9 (nm : ByteArray) (w0 : Int) (op sub sa : Int) (form : ByteArray) (w : World) (hreg : ∀ w, Calls Tryd.prog 33 #[.string form] w fun e w' => e = .returned (.agg #[.bool true, .bool true, .bool false, .bool false]) ∧ Below w.heap.size w w') (hwd : ferryref07_wide.f form = some 16) (hsp : ferryref07_special.f nm = some (op, sub, sa, form)) :
    Calls Tryd.prog 22 #[.string nm, .int .u32 w0] w fun e w' => e = .returned (.agg #[.string nm, .int .i64 (wrap64 (bits .and .u32 (w0 / 2097152) 31)), .int .i64 (wrap64 (bits .and .u32 (w0 / 65536) 31)), .int .i64 0, .int .i64 0, .int .u32 (bits .and .u32 w0 65535)]) ∧ Below w.heap.size w w' := by
  have RG := Lib.hid hreg
  have WD := Lib.hid (fun w => ferryref07_wide.calls form 16 w hwd)
  have SP := Lib.hid (fun w => ferryref07_special.calls nm op sub sa form w hsp)
  have hb0 : Below w.heap.size w (w.alloc (.cells #[.string ⟨#[]⟩, .int .i64 0, .int .i64 0, .int .i64 0, .int .i64 0, .int .u32 0] 24)) := (Below.refl _ w).alloc (Nat.le_refl _) _
  have B0 := Lib.hid hb0
  have R0 := Lib.hid (World.alloc_heap_new w (.cells #[.string ⟨#[]⟩, .int .i64 0, .int .i64 0, .int .i64 0, .int .i64 0, .int .u32 0] 24))
  have S0 := Lib.hid (World.size_alloc w (.cells #[.string ⟨#[]⟩, .int .i64 0, .int .i64 0, .int .i64 0, .int .i64 0, .int .u32 0] 24))
  clear hreg hwd hsp hb0
  · go_enter Tryd.func22, Tryd.ntmps22
    go_wp2_with (first
      | (go_at_call 21; (with_reducible refine (SP.out _).mono ?_); rintro ex w1 ⟨rfl, hb1⟩; have B1 := Lib.hid (B0.out.trans (hb1.mono (by rw [S0.out]; omega))); have R1 := Lib.hid ((hb1.block _ (by rw [S0.out]; omega)).trans R0.out); clear hb1)
      | (go_at_call 33; (with_reducible refine (RG.out _).mono ?_); rintro ex w2 ⟨rfl, hb2⟩; have B2 := Lib.hid (B1.out.trans (hb2.mono B1.out.size)); have R2 := Lib.hid ((hb2.block _ (blk_lt2 R1.out)).trans R1.out); clear hb2)
      | (go_at_call 34; (with_reducible refine (WD.out _).mono ?_); rintro ex w6 ⟨rfl, ⟨nd, rfl⟩⟩; have BB5 := Lib.hid (show Below w.heap.size w ((w2.alloc (.cells #[.bool true, .bool true, .bool false, .bool false] 64)).alloc (.cells #[.string nm, .int .i64 (wrap64 (bits .and .u32 (w0 / 2097152) 31)), .int .i64 (wrap64 (bits .and .u32 (w0 / 65536) 31)), .int .i64 0, .int .i64 0, .int .u32 0] 24)) from (B2.out.alloc B2.out.size _).alloc (by simp; exact Nat.le_trans B2.out.size (Nat.le_succ _)) _); have I5 : (((w2.alloc (.cells #[.bool true, .bool true, .bool false, .bool false] 64)).alloc (.cells #[.string nm, .int .i64 (wrap64 (bits .and .u32 (w0 / 2097152) 31)), .int .i64 (wrap64 (bits .and .u32 (w0 / 65536) 31)), .int .i64 0, .int .i64 0, .int .u32 0] 24)).drewN nd).heap[w2.heap.size + 1]? = _ := two_new w2 (.cells #[.bool true, .bool true, .bool false, .bool false] 64) (.cells #[.string nm, .int .i64 (wrap64 (bits .and .u32 (w0 / 2097152) 31)), .int .i64 (wrap64 (bits .and .u32 (w0 / 65536) 31)), .int .i64 0, .int .i64 0, .int .u32 0] 24); have R5 : (((w2.alloc (.cells #[.bool true, .bool true, .bool false, .bool false] 64)).alloc (.cells #[.string nm, .int .i64 (wrap64 (bits .and .u32 (w0 / 2097152) 31)), .int .i64 (wrap64 (bits .and .u32 (w0 / 65536) 31)), .int .i64 0, .int .i64 0, .int .u32 0] 24)).drewN nd).heap[w.heap.size]? = _ := ((((Below.refl _ w2).alloc (Nat.le_refl _) (.cells #[.bool true, .bool true, .bool false, .bool false] 64)).alloc (by simp) (.cells #[.string nm, .int .i64 (wrap64 (bits .and .u32 (w0 / 2097152) 31)), .int .i64 (wrap64 (bits .and .u32 (w0 / 65536) 31)), .int .i64 0, .int .i64 0, .int .u32 0] 24)).block _ (blk_lt2 R2.out)).trans R2.out; have lt2 := blk_lt2 R2.out; have i0 := rblk_cell (j := 0) (v := .string nm) I5 rfl; have i1 := rblk_cell (j := 1) (v := .int .i64 (wrap64 (bits .and .u32 (w0 / 2097152) 31))) I5 rfl; have i2 := rblk_cell (j := 2) (v := .int .i64 (wrap64 (bits .and .u32 (w0 / 65536) 31))) I5 rfl; have i3 := rblk_cell (j := 3) (v := .int .i64 0) I5 rfl; have i4 := rblk_cell (j := 4) (v := .int .i64 0) I5 rfl; have i5 := rblk_cell (j := 5) (v := .int .u32 0) I5 rfl; have x5 := rblk_free (j := 5) I5; have q0 := rblk_cell (j := 0) (v := .string ⟨#[]⟩) R5 rfl; have u0 := rblk_free (j := 0) R5; have q1 := rblk_cell (j := 1) (v := .int .i64 0) R5 rfl; have u1 := rblk_free (j := 1) R5; have q2 := rblk_cell (j := 2) (v := .int .i64 0) R5 rfl; have u2 := rblk_free (j := 2) R5; have q3 := rblk_cell (j := 3) (v := .int .i64 0) R5 rfl; have u3 := rblk_free (j := 3) R5; have q4 := rblk_cell (j := 4) (v := .int .i64 0) R5 rfl; have u4 := rblk_free (j := 4) R5; have q5 := rblk_cell (j := 5) (v := .int .u32 0) R5 rfl; have u5 := rblk_free (j := 5) R5; have RR5 := Lib.hid R5; clear I5 R5))
    refine bodyPost_ret (results_cell_row rfl _ _ w.heap.size 24 #[.string nm, .int .i64 (wrap64 (bits .and .u32 (w0 / 2097152) 31)), .int .i64 (wrap64 (bits .and .u32 (w0 / 65536) 31)), .int .i64 0, .int .i64 0, .int .u32 (bits .and .u32 w0 65535)] (0, 0) _ rfl ?_ Tryd.underlying24 rfl (by kernel_rfl)) rfl ?_
    · refine blk_put (cs := #[.string nm, .int .i64 (wrap64 (bits .and .u32 (w0 / 2097152) 31)), .int .i64 (wrap64 (bits .and .u32 (w0 / 65536) 31)), .int .i64 0, .int .i64 0, .int .u32 0]) ?_ 5 _ rfl
      refine blk_put (cs := #[.string nm, .int .i64 (wrap64 (bits .and .u32 (w0 / 2097152) 31)), .int .i64 (wrap64 (bits .and .u32 (w0 / 65536) 31)), .int .i64 0, .int .i64 0, .int .u32 0]) ?_ 4 _ rfl
      refine blk_put (cs := #[.string nm, .int .i64 (wrap64 (bits .and .u32 (w0 / 2097152) 31)), .int .i64 (wrap64 (bits .and .u32 (w0 / 65536) 31)), .int .i64 0, .int .i64 0, .int .u32 0]) ?_ 3 _ rfl
      refine blk_put (cs := #[.string nm, .int .i64 (wrap64 (bits .and .u32 (w0 / 2097152) 31)), .int .i64 0, .int .i64 0, .int .i64 0, .int .u32 0]) ?_ 2 _ rfl
      refine blk_put (cs := #[.string nm, .int .i64 0, .int .i64 0, .int .i64 0, .int .i64 0, .int .u32 0]) ?_ 1 _ rfl
      refine blk_put (cs := #[.string ⟨#[]⟩, .int .i64 0, .int .i64 0, .int .i64 0, .int .i64 0, .int .u32 0]) ?_ 0 _ rfl
      refine (Deep.blk_setCell_other _ _ _ _ (by simp; omega)).trans ?_
      exact RR5.out
    · exact ⟨rfl, (Below.setCell (p := ⟨w.heap.size, 5, none⟩) (Below.setCell (p := ⟨w.heap.size, 4, none⟩) (Below.setCell (p := ⟨w.heap.size, 3, none⟩) (Below.setCell (p := ⟨w.heap.size, 2, none⟩) (Below.setCell (p := ⟨w.heap.size, 1, none⟩) (Below.setCell (p := ⟨w.heap.size, 0, none⟩) (Below.setCell (p := ⟨w2.heap.size + 1, 5, none⟩) (pw_below_drewN BB5.out nd) (Nat.le_trans B2.out.size (Nat.le_succ _)) _) (Nat.le_refl _) _) (Nat.le_refl _) _) (Nat.le_refl _) _) (Nat.le_refl _) _) (Nat.le_refl _) _) (Nat.le_refl _) _)⟩
set_option maxHeartbeats 8000000 in
set_option maxRecDepth 100000 in
theorem guess_10 (nm : ByteArray) (w0 : Int) (op sub sa : Int) (form : ByteArray) (w : World) (hreg : ∀ w, Calls Tryd.prog 33 #[.string form] w fun e w' => e = .returned (.agg #[.bool false, .bool true, .bool false, .bool false]) ∧ Below w.heap.size w w') (hwd : ferryref07_wide.f form = some 16) (hsp : ferryref07_special.f nm = some (op, sub, sa, form)) :
    Calls Tryd.prog 22 #[.string nm, .int .u32 w0] w fun e w' => e = .returned (.agg #[.string nm, .int .i64 0, .int .i64 (wrap64 (bits .and .u32 (w0 / 65536) 31)), .int .i64 0, .int .i64 0, .int .u32 (bits .and .u32 w0 65535)]) ∧ Below w.heap.size w w' := by
  have RG := Lib.hid hreg
  have WD := Lib.hid (fun w => ferryref07_wide.calls form 16 w hwd)
  have SP := Lib.hid (fun w => ferryref07_special.calls nm op sub sa form w hsp)
  have hb0 : Below w.heap.size w (w.alloc (.cells #[.string ⟨#[]⟩, .int .i64 0, .int .i64 0, .int .i64 0, .int .i64 0, .int .u32 0] 24)) := (Below.refl _ w).alloc (Nat.le_refl _) _
  have B0 := Lib.hid hb0
  have R0 := Lib.hid (World.alloc_heap_new w (.cells #[.string ⟨#[]⟩, .int .i64 0, .int .i64 0, .int .i64 0, .int .i64 0, .int .u32 0] 24))
  have S0 := Lib.hid (World.size_alloc w (.cells #[.string ⟨#[]⟩, .int .i64 0, .int .i64 0, .int .i64 0, .int .i64 0, .int .u32 0] 24))
  clear hreg hwd hsp hb0
  · go_enter Tryd.func22, Tryd.ntmps22
    go_wp2_with (first
      | (go_at_call 21; (with_reducible refine (SP.out _).mono ?_); rintro ex w1 ⟨rfl, hb1⟩; have B1 := Lib.hid (B0.out.trans (hb1.mono (by rw [S0.out]; omega))); have R1 := Lib.hid ((hb1.block _ (by rw [S0.out]; omega)).trans R0.out); clear hb1)
      | (go_at_call 33; (with_reducible refine (RG.out _).mono ?_); rintro ex w2 ⟨rfl, hb2⟩; have B2 := Lib.hid (B1.out.trans (hb2.mono B1.out.size)); have R2 := Lib.hid ((hb2.block _ (blk_lt2 R1.out)).trans R1.out); clear hb2)
      | (go_at_call 34; (with_reducible refine (WD.out _).mono ?_); rintro ex w6 ⟨rfl, ⟨nd, rfl⟩⟩; have BB5 := Lib.hid (show Below w.heap.size w ((w2.alloc (.cells #[.bool false, .bool true, .bool false, .bool false] 64)).alloc (.cells #[.string nm, .int .i64 0, .int .i64 (wrap64 (bits .and .u32 (w0 / 65536) 31)), .int .i64 0, .int .i64 0, .int .u32 0] 24)) from (B2.out.alloc B2.out.size _).alloc (by simp; exact Nat.le_trans B2.out.size (Nat.le_succ _)) _); have I5 : (((w2.alloc (.cells #[.bool false, .bool true, .bool false, .bool false] 64)).alloc (.cells #[.string nm, .int .i64 0, .int .i64 (wrap64 (bits .and .u32 (w0 / 65536) 31)), .int .i64 0, .int .i64 0, .int .u32 0] 24)).drewN nd).heap[w2.heap.size + 1]? = _ := two_new w2 (.cells #[.bool false, .bool true, .bool false, .bool false] 64) (.cells #[.string nm, .int .i64 0, .int .i64 (wrap64 (bits .and .u32 (w0 / 65536) 31)), .int .i64 0, .int .i64 0, .int .u32 0] 24); have R5 : (((w2.alloc (.cells #[.bool false, .bool true, .bool false, .bool false] 64)).alloc (.cells #[.string nm, .int .i64 0, .int .i64 (wrap64 (bits .and .u32 (w0 / 65536) 31)), .int .i64 0, .int .i64 0, .int .u32 0] 24)).drewN nd).heap[w.heap.size]? = _ := ((((Below.refl _ w2).alloc (Nat.le_refl _) (.cells #[.bool false, .bool true, .bool false, .bool false] 64)).alloc (by simp) (.cells #[.string nm, .int .i64 0, .int .i64 (wrap64 (bits .and .u32 (w0 / 65536) 31)), .int .i64 0, .int .i64 0, .int .u32 0] 24)).block _ (blk_lt2 R2.out)).trans R2.out; have lt2 := blk_lt2 R2.out; have i0 := rblk_cell (j := 0) (v := .string nm) I5 rfl; have i1 := rblk_cell (j := 1) (v := .int .i64 0) I5 rfl; have i2 := rblk_cell (j := 2) (v := .int .i64 (wrap64 (bits .and .u32 (w0 / 65536) 31))) I5 rfl; have i3 := rblk_cell (j := 3) (v := .int .i64 0) I5 rfl; have i4 := rblk_cell (j := 4) (v := .int .i64 0) I5 rfl; have i5 := rblk_cell (j := 5) (v := .int .u32 0) I5 rfl; have x5 := rblk_free (j := 5) I5; have q0 := rblk_cell (j := 0) (v := .string ⟨#[]⟩) R5 rfl; have u0 := rblk_free (j := 0) R5; have q1 := rblk_cell (j := 1) (v := .int .i64 0) R5 rfl; have u1 := rblk_free (j := 1) R5; have q2 := rblk_cell (j := 2) (v := .int .i64 0) R5 rfl; have u2 := rblk_free (j := 2) R5; have q3 := rblk_cell (j := 3) (v := .int .i64 0) R5 rfl; have u3 := rblk_free (j := 3) R5; have q4 := rblk_cell (j := 4) (v := .int .i64 0) R5 rfl; have u4 := rblk_free (j := 4) R5; have q5 := rblk_cell (j := 5) (v := .int .u32 0) R5 rfl; have u5 := rblk_free (j := 5) R5; have RR5 := Lib.hid R5; clear I5 R5))
    refine bodyPost_ret (results_cell_row rfl _ _ w.heap.size 24 #[.string nm, .int .i64 0, .int .i64 (wrap64 (bits .and .u32 (w0 / 65536) 31)), .int .i64 0, .int .i64 0, .int .u32 (bits .and .u32 w0 65535)] (0, 0) _ rfl ?_ Tryd.underlying24 rfl (by kernel_rfl)) rfl ?_
    · refine blk_put (cs := #[.string nm, .int .i64 0, .int .i64 (wrap64 (bits .and .u32 (w0 / 65536) 31)), .int .i64 0, .int .i64 0, .int .u32 0]) ?_ 5 _ rfl
      refine blk_put (cs := #[.string nm, .int .i64 0, .int .i64 (wrap64 (bits .and .u32 (w0 / 65536) 31)), .int .i64 0, .int .i64 0, .int .u32 0]) ?_ 4 _ rfl
      refine blk_put (cs := #[.string nm, .int .i64 0, .int .i64 (wrap64 (bits .and .u32 (w0 / 65536) 31)), .int .i64 0, .int .i64 0, .int .u32 0]) ?_ 3 _ rfl
      refine blk_put (cs := #[.string nm, .int .i64 0, .int .i64 0, .int .i64 0, .int .i64 0, .int .u32 0]) ?_ 2 _ rfl
      refine blk_put (cs := #[.string nm, .int .i64 0, .int .i64 0, .int .i64 0, .int .i64 0, .int .u32 0]) ?_ 1 _ rfl
      refine blk_put (cs := #[.string ⟨#[]⟩, .int .i64 0, .int .i64 0, .int .i64 0, .int .i64 0, .int .u32 0]) ?_ 0 _ rfl
      refine (Deep.blk_setCell_other _ _ _ _ (by simp; omega)).trans ?_
      exact RR5.out
    · exact ⟨rfl, (Below.setCell (p := ⟨w.heap.size, 5, none⟩) (Below.setCell (p := ⟨w.heap.size, 4, none⟩) (Below.setCell (p := ⟨w.heap.size, 3, none⟩) (Below.setCell (p := ⟨w.heap.size, 2, none⟩) (Below.setCell (p := ⟨w.heap.size, 1, none⟩) (Below.setCell (p := ⟨w.heap.size, 0, none⟩) (Below.setCell (p := ⟨w2.heap.size + 1, 5, none⟩) (pw_below_drewN BB5.out nd) (Nat.le_trans B2.out.size (Nat.le_succ _)) _) (Nat.le_refl _) _) (Nat.le_refl _) _) (Nat.le_refl _) _) (Nat.le_refl _) _) (Nat.le_refl _) _) (Nat.le_refl _) _)⟩
set_option maxHeartbeats 8000000 in
set_option maxRecDepth 100000 in
theorem guess_11 (nm : ByteArray) (w0 : Int) (op sub sa : Int) (form : ByteArray) (w : World) (hreg : ∀ w, Calls Tryd.prog 33 #[.string form] w fun e w' => e = .returned (.agg #[.bool true, .bool true, .bool true, .bool true]) ∧ Below w.heap.size w w') (hwd : ferryref07_wide.f form = some 0) (hsp : ferryref07_special.f nm = some (op, sub, sa, form)) :
    Calls Tryd.prog 22 #[.string nm, .int .u32 w0] w fun e w' => e = .returned (.agg #[.string nm, .int .i64 (wrap64 (bits .and .u32 (w0 / 2097152) 31)), .int .i64 (wrap64 (bits .and .u32 (w0 / 65536) 31)), .int .i64 (wrap64 (bits .and .u32 (w0 / 2048) 31)), .int .i64 (wrap64 (bits .and .u32 (w0 / 64) 31)), .int .u32 0]) ∧ Below w.heap.size w w' := by
  have RG := Lib.hid hreg
  have WD := Lib.hid (fun w => ferryref07_wide.calls form 0 w hwd)
  have SP := Lib.hid (fun w => ferryref07_special.calls nm op sub sa form w hsp)
  have hb0 : Below w.heap.size w (w.alloc (.cells #[.string ⟨#[]⟩, .int .i64 0, .int .i64 0, .int .i64 0, .int .i64 0, .int .u32 0] 24)) := (Below.refl _ w).alloc (Nat.le_refl _) _
  have B0 := Lib.hid hb0
  have R0 := Lib.hid (World.alloc_heap_new w (.cells #[.string ⟨#[]⟩, .int .i64 0, .int .i64 0, .int .i64 0, .int .i64 0, .int .u32 0] 24))
  have S0 := Lib.hid (World.size_alloc w (.cells #[.string ⟨#[]⟩, .int .i64 0, .int .i64 0, .int .i64 0, .int .i64 0, .int .u32 0] 24))
  clear hreg hwd hsp hb0
  · go_enter Tryd.func22, Tryd.ntmps22
    go_wp2_with (first
      | (go_at_call 21; (with_reducible refine (SP.out _).mono ?_); rintro ex w1 ⟨rfl, hb1⟩; have B1 := Lib.hid (B0.out.trans (hb1.mono (by rw [S0.out]; omega))); have R1 := Lib.hid ((hb1.block _ (by rw [S0.out]; omega)).trans R0.out); clear hb1)
      | (go_at_call 33; (with_reducible refine (RG.out _).mono ?_); rintro ex w2 ⟨rfl, hb2⟩; have B2 := Lib.hid (B1.out.trans (hb2.mono B1.out.size)); have R2 := Lib.hid ((hb2.block _ (blk_lt2 R1.out)).trans R1.out); clear hb2)
      | (go_at_call 34; (with_reducible refine (WD.out _).mono ?_); rintro ex w6 ⟨rfl, ⟨nd, rfl⟩⟩; have BB5 := Lib.hid (show Below w.heap.size w ((w2.alloc (.cells #[.bool true, .bool true, .bool true, .bool true] 64)).alloc (.cells #[.string nm, .int .i64 (wrap64 (bits .and .u32 (w0 / 2097152) 31)), .int .i64 (wrap64 (bits .and .u32 (w0 / 65536) 31)), .int .i64 (wrap64 (bits .and .u32 (w0 / 2048) 31)), .int .i64 (wrap64 (bits .and .u32 (w0 / 64) 31)), .int .u32 0] 24)) from (B2.out.alloc B2.out.size _).alloc (by simp; exact Nat.le_trans B2.out.size (Nat.le_succ _)) _); have I5 : (((w2.alloc (.cells #[.bool true, .bool true, .bool true, .bool true] 64)).alloc (.cells #[.string nm, .int .i64 (wrap64 (bits .and .u32 (w0 / 2097152) 31)), .int .i64 (wrap64 (bits .and .u32 (w0 / 65536) 31)), .int .i64 (wrap64 (bits .and .u32 (w0 / 2048) 31)), .int .i64 (wrap64 (bits .and .u32 (w0 / 64) 31)), .int .u32 0] 24)).drewN nd).heap[w2.heap.size + 1]? = _ := two_new w2 (.cells #[.bool true, .bool true, .bool true, .bool true] 64) (.cells #[.string nm, .int .i64 (wrap64 (bits .and .u32 (w0 / 2097152) 31)), .int .i64 (wrap64 (bits .and .u32 (w0 / 65536) 31)), .int .i64 (wrap64 (bits .and .u32 (w0 / 2048) 31)), .int .i64 (wrap64 (bits .and .u32 (w0 / 64) 31)), .int .u32 0] 24); have R5 : (((w2.alloc (.cells #[.bool true, .bool true, .bool true, .bool true] 64)).alloc (.cells #[.string nm, .int .i64 (wrap64 (bits .and .u32 (w0 / 2097152) 31)), .int .i64 (wrap64 (bits .and .u32 (w0 / 65536) 31)), .int .i64 (wrap64 (bits .and .u32 (w0 / 2048) 31)), .int .i64 (wrap64 (bits .and .u32 (w0 / 64) 31)), .int .u32 0] 24)).drewN nd).heap[w.heap.size]? = _ := ((((Below.refl _ w2).alloc (Nat.le_refl _) (.cells #[.bool true, .bool true, .bool true, .bool true] 64)).alloc (by simp) (.cells #[.string nm, .int .i64 (wrap64 (bits .and .u32 (w0 / 2097152) 31)), .int .i64 (wrap64 (bits .and .u32 (w0 / 65536) 31)), .int .i64 (wrap64 (bits .and .u32 (w0 / 2048) 31)), .int .i64 (wrap64 (bits .and .u32 (w0 / 64) 31)), .int .u32 0] 24)).block _ (blk_lt2 R2.out)).trans R2.out; have lt2 := blk_lt2 R2.out; have i0 := rblk_cell (j := 0) (v := .string nm) I5 rfl; have i1 := rblk_cell (j := 1) (v := .int .i64 (wrap64 (bits .and .u32 (w0 / 2097152) 31))) I5 rfl; have i2 := rblk_cell (j := 2) (v := .int .i64 (wrap64 (bits .and .u32 (w0 / 65536) 31))) I5 rfl; have i3 := rblk_cell (j := 3) (v := .int .i64 (wrap64 (bits .and .u32 (w0 / 2048) 31))) I5 rfl; have i4 := rblk_cell (j := 4) (v := .int .i64 (wrap64 (bits .and .u32 (w0 / 64) 31))) I5 rfl; have i5 := rblk_cell (j := 5) (v := .int .u32 0) I5 rfl; have x5 := rblk_free (j := 5) I5; have q0 := rblk_cell (j := 0) (v := .string ⟨#[]⟩) R5 rfl; have u0 := rblk_free (j := 0) R5; have q1 := rblk_cell (j := 1) (v := .int .i64 0) R5 rfl; have u1 := rblk_free (j := 1) R5; have q2 := rblk_cell (j := 2) (v := .int .i64 0) R5 rfl; have u2 := rblk_free (j := 2) R5; have q3 := rblk_cell (j := 3) (v := .int .i64 0) R5 rfl; have u3 := rblk_free (j := 3) R5; have q4 := rblk_cell (j := 4) (v := .int .i64 0) R5 rfl; have u4 := rblk_free (j := 4) R5; have q5 := rblk_cell (j := 5) (v := .int .u32 0) R5 rfl; have u5 := rblk_free (j := 5) R5; have RR5 := Lib.hid R5; clear I5 R5))
    refine bodyPost_ret (results_cell_row rfl _ _ w.heap.size 24 #[.string nm, .int .i64 (wrap64 (bits .and .u32 (w0 / 2097152) 31)), .int .i64 (wrap64 (bits .and .u32 (w0 / 65536) 31)), .int .i64 (wrap64 (bits .and .u32 (w0 / 2048) 31)), .int .i64 (wrap64 (bits .and .u32 (w0 / 64) 31)), .int .u32 0] (0, 0) _ rfl ?_ Tryd.underlying24 rfl (by kernel_rfl)) rfl ?_
    · refine blk_put (cs := #[.string nm, .int .i64 (wrap64 (bits .and .u32 (w0 / 2097152) 31)), .int .i64 (wrap64 (bits .and .u32 (w0 / 65536) 31)), .int .i64 (wrap64 (bits .and .u32 (w0 / 2048) 31)), .int .i64 (wrap64 (bits .and .u32 (w0 / 64) 31)), .int .u32 0]) ?_ 5 _ rfl
      refine blk_put (cs := #[.string nm, .int .i64 (wrap64 (bits .and .u32 (w0 / 2097152) 31)), .int .i64 (wrap64 (bits .and .u32 (w0 / 65536) 31)), .int .i64 (wrap64 (bits .and .u32 (w0 / 2048) 31)), .int .i64 0, .int .u32 0]) ?_ 4 _ rfl
      refine blk_put (cs := #[.string nm, .int .i64 (wrap64 (bits .and .u32 (w0 / 2097152) 31)), .int .i64 (wrap64 (bits .and .u32 (w0 / 65536) 31)), .int .i64 0, .int .i64 0, .int .u32 0]) ?_ 3 _ rfl
      refine blk_put (cs := #[.string nm, .int .i64 (wrap64 (bits .and .u32 (w0 / 2097152) 31)), .int .i64 0, .int .i64 0, .int .i64 0, .int .u32 0]) ?_ 2 _ rfl
      refine blk_put (cs := #[.string nm, .int .i64 0, .int .i64 0, .int .i64 0, .int .i64 0, .int .u32 0]) ?_ 1 _ rfl
      refine blk_put (cs := #[.string ⟨#[]⟩, .int .i64 0, .int .i64 0, .int .i64 0, .int .i64 0, .int .u32 0]) ?_ 0 _ rfl
      skip
      exact RR5.out
    · exact ⟨rfl, (Below.setCell (p := ⟨w.heap.size, 5, none⟩) (Below.setCell (p := ⟨w.heap.size, 4, none⟩) (Below.setCell (p := ⟨w.heap.size, 3, none⟩) (Below.setCell (p := ⟨w.heap.size, 2, none⟩) (Below.setCell (p := ⟨w.heap.size, 1, none⟩) (Below.setCell (p := ⟨w.heap.size, 0, none⟩) (pw_below_drewN BB5.out nd) (Nat.le_refl _) _) (Nat.le_refl _) _) (Nat.le_refl _) _) (Nat.le_refl _) _) (Nat.le_refl _) _) (Nat.le_refl _) _)⟩
set_option maxHeartbeats 8000000 in
set_option maxRecDepth 100000 in
theorem guess_12 (nm : ByteArray) (w0 : Int) (op sub sa : Int) (form : ByteArray) (w : World) (hreg : ∀ w, Calls Tryd.prog 33 #[.string form] w fun e w' => e = .returned (.agg #[.bool false, .bool true, .bool true, .bool false]) ∧ Below w.heap.size w w') (hwd : ferryref07_wide.f form = some 0) (hsp : ferryref07_special.f nm = some (op, sub, sa, form)) :
    Calls Tryd.prog 22 #[.string nm, .int .u32 w0] w fun e w' => e = .returned (.agg #[.string nm, .int .i64 0, .int .i64 (wrap64 (bits .and .u32 (w0 / 65536) 31)), .int .i64 (wrap64 (bits .and .u32 (w0 / 2048) 31)), .int .i64 0, .int .u32 0]) ∧ Below w.heap.size w w' := by
  have RG := Lib.hid hreg
  have WD := Lib.hid (fun w => ferryref07_wide.calls form 0 w hwd)
  have SP := Lib.hid (fun w => ferryref07_special.calls nm op sub sa form w hsp)
  have hb0 : Below w.heap.size w (w.alloc (.cells #[.string ⟨#[]⟩, .int .i64 0, .int .i64 0, .int .i64 0, .int .i64 0, .int .u32 0] 24)) := (Below.refl _ w).alloc (Nat.le_refl _) _
  have B0 := Lib.hid hb0
  have R0 := Lib.hid (World.alloc_heap_new w (.cells #[.string ⟨#[]⟩, .int .i64 0, .int .i64 0, .int .i64 0, .int .i64 0, .int .u32 0] 24))
  have S0 := Lib.hid (World.size_alloc w (.cells #[.string ⟨#[]⟩, .int .i64 0, .int .i64 0, .int .i64 0, .int .i64 0, .int .u32 0] 24))
  clear hreg hwd hsp hb0
  · go_enter Tryd.func22, Tryd.ntmps22
    go_wp2_with (first
      | (go_at_call 21; (with_reducible refine (SP.out _).mono ?_); rintro ex w1 ⟨rfl, hb1⟩; have B1 := Lib.hid (B0.out.trans (hb1.mono (by rw [S0.out]; omega))); have R1 := Lib.hid ((hb1.block _ (by rw [S0.out]; omega)).trans R0.out); clear hb1)
      | (go_at_call 33; (with_reducible refine (RG.out _).mono ?_); rintro ex w2 ⟨rfl, hb2⟩; have B2 := Lib.hid (B1.out.trans (hb2.mono B1.out.size)); have R2 := Lib.hid ((hb2.block _ (blk_lt2 R1.out)).trans R1.out); clear hb2)
      | (go_at_call 34; (with_reducible refine (WD.out _).mono ?_); rintro ex w6 ⟨rfl, ⟨nd, rfl⟩⟩; have BB5 := Lib.hid (show Below w.heap.size w ((w2.alloc (.cells #[.bool false, .bool true, .bool true, .bool false] 64)).alloc (.cells #[.string nm, .int .i64 0, .int .i64 (wrap64 (bits .and .u32 (w0 / 65536) 31)), .int .i64 (wrap64 (bits .and .u32 (w0 / 2048) 31)), .int .i64 0, .int .u32 0] 24)) from (B2.out.alloc B2.out.size _).alloc (by simp; exact Nat.le_trans B2.out.size (Nat.le_succ _)) _); have I5 : (((w2.alloc (.cells #[.bool false, .bool true, .bool true, .bool false] 64)).alloc (.cells #[.string nm, .int .i64 0, .int .i64 (wrap64 (bits .and .u32 (w0 / 65536) 31)), .int .i64 (wrap64 (bits .and .u32 (w0 / 2048) 31)), .int .i64 0, .int .u32 0] 24)).drewN nd).heap[w2.heap.size + 1]? = _ := two_new w2 (.cells #[.bool false, .bool true, .bool true, .bool false] 64) (.cells #[.string nm, .int .i64 0, .int .i64 (wrap64 (bits .and .u32 (w0 / 65536) 31)), .int .i64 (wrap64 (bits .and .u32 (w0 / 2048) 31)), .int .i64 0, .int .u32 0] 24); have R5 : (((w2.alloc (.cells #[.bool false, .bool true, .bool true, .bool false] 64)).alloc (.cells #[.string nm, .int .i64 0, .int .i64 (wrap64 (bits .and .u32 (w0 / 65536) 31)), .int .i64 (wrap64 (bits .and .u32 (w0 / 2048) 31)), .int .i64 0, .int .u32 0] 24)).drewN nd).heap[w.heap.size]? = _ := ((((Below.refl _ w2).alloc (Nat.le_refl _) (.cells #[.bool false, .bool true, .bool true, .bool false] 64)).alloc (by simp) (.cells #[.string nm, .int .i64 0, .int .i64 (wrap64 (bits .and .u32 (w0 / 65536) 31)), .int .i64 (wrap64 (bits .and .u32 (w0 / 2048) 31)), .int .i64 0, .int .u32 0] 24)).block _ (blk_lt2 R2.out)).trans R2.out; have lt2 := blk_lt2 R2.out; have i0 := rblk_cell (j := 0) (v := .string nm) I5 rfl; have i1 := rblk_cell (j := 1) (v := .int .i64 0) I5 rfl; have i2 := rblk_cell (j := 2) (v := .int .i64 (wrap64 (bits .and .u32 (w0 / 65536) 31))) I5 rfl; have i3 := rblk_cell (j := 3) (v := .int .i64 (wrap64 (bits .and .u32 (w0 / 2048) 31))) I5 rfl; have i4 := rblk_cell (j := 4) (v := .int .i64 0) I5 rfl; have i5 := rblk_cell (j := 5) (v := .int .u32 0) I5 rfl; have x5 := rblk_free (j := 5) I5; have q0 := rblk_cell (j := 0) (v := .string ⟨#[]⟩) R5 rfl; have u0 := rblk_free (j := 0) R5; have q1 := rblk_cell (j := 1) (v := .int .i64 0) R5 rfl; have u1 := rblk_free (j := 1) R5; have q2 := rblk_cell (j := 2) (v := .int .i64 0) R5 rfl; have u2 := rblk_free (j := 2) R5; have q3 := rblk_cell (j := 3) (v := .int .i64 0) R5 rfl; have u3 := rblk_free (j := 3) R5; have q4 := rblk_cell (j := 4) (v := .int .i64 0) R5 rfl; have u4 := rblk_free (j := 4) R5; have q5 := rblk_cell (j := 5) (v := .int .u32 0) R5 rfl; have u5 := rblk_free (j := 5) R5; have RR5 := Lib.hid R5; clear I5 R5))
    refine bodyPost_ret (results_cell_row rfl _ _ w.heap.size 24 #[.string nm, .int .i64 0, .int .i64 (wrap64 (bits .and .u32 (w0 / 65536) 31)), .int .i64 (wrap64 (bits .and .u32 (w0 / 2048) 31)), .int .i64 0, .int .u32 0] (0, 0) _ rfl ?_ Tryd.underlying24 rfl (by kernel_rfl)) rfl ?_
    · refine blk_put (cs := #[.string nm, .int .i64 0, .int .i64 (wrap64 (bits .and .u32 (w0 / 65536) 31)), .int .i64 (wrap64 (bits .and .u32 (w0 / 2048) 31)), .int .i64 0, .int .u32 0]) ?_ 5 _ rfl
      refine blk_put (cs := #[.string nm, .int .i64 0, .int .i64 (wrap64 (bits .and .u32 (w0 / 65536) 31)), .int .i64 (wrap64 (bits .and .u32 (w0 / 2048) 31)), .int .i64 0, .int .u32 0]) ?_ 4 _ rfl
      refine blk_put (cs := #[.string nm, .int .i64 0, .int .i64 (wrap64 (bits .and .u32 (w0 / 65536) 31)), .int .i64 0, .int .i64 0, .int .u32 0]) ?_ 3 _ rfl
      refine blk_put (cs := #[.string nm, .int .i64 0, .int .i64 0, .int .i64 0, .int .i64 0, .int .u32 0]) ?_ 2 _ rfl
      refine blk_put (cs := #[.string nm, .int .i64 0, .int .i64 0, .int .i64 0, .int .i64 0, .int .u32 0]) ?_ 1 _ rfl
      refine blk_put (cs := #[.string ⟨#[]⟩, .int .i64 0, .int .i64 0, .int .i64 0, .int .i64 0, .int .u32 0]) ?_ 0 _ rfl
      skip
      exact RR5.out
    · exact ⟨rfl, (Below.setCell (p := ⟨w.heap.size, 5, none⟩) (Below.setCell (p := ⟨w.heap.size, 4, none⟩) (Below.setCell (p := ⟨w.heap.size, 3, none⟩) (Below.setCell (p := ⟨w.heap.size, 2, none⟩) (Below.setCell (p := ⟨w.heap.size, 1, none⟩) (Below.setCell (p := ⟨w.heap.size, 0, none⟩) (pw_below_drewN BB5.out nd) (Nat.le_refl _) _) (Nat.le_refl _) _) (Nat.le_refl _) _) (Nat.le_refl _) _) (Nat.le_refl _) _) (Nat.le_refl _) _)⟩
set_option maxHeartbeats 8000000 in
set_option maxRecDepth 100000 in
theorem guess_13 (nm : ByteArray) (w0 : Int) (op sub sa : Int) (form : ByteArray) (w : World) (hreg : ∀ w, Calls Tryd.prog 33 #[.string form] w fun e w' => e = .returned (.agg #[.bool false, .bool false, .bool false, .bool false]) ∧ Below w.heap.size w w') (hwd : ferryref07_wide.f form = some 0) (hsp : ferryref07_special.f nm = some (op, sub, sa, form)) :
    Calls Tryd.prog 22 #[.string nm, .int .u32 w0] w fun e w' => e = .returned (.agg #[.string nm, .int .i64 0, .int .i64 0, .int .i64 0, .int .i64 0, .int .u32 0]) ∧ Below w.heap.size w w' := by
  have RG := Lib.hid hreg
  have WD := Lib.hid (fun w => ferryref07_wide.calls form 0 w hwd)
  have SP := Lib.hid (fun w => ferryref07_special.calls nm op sub sa form w hsp)
  have hb0 : Below w.heap.size w (w.alloc (.cells #[.string ⟨#[]⟩, .int .i64 0, .int .i64 0, .int .i64 0, .int .i64 0, .int .u32 0] 24)) := (Below.refl _ w).alloc (Nat.le_refl _) _
  have B0 := Lib.hid hb0
  have R0 := Lib.hid (World.alloc_heap_new w (.cells #[.string ⟨#[]⟩, .int .i64 0, .int .i64 0, .int .i64 0, .int .i64 0, .int .u32 0] 24))
  have S0 := Lib.hid (World.size_alloc w (.cells #[.string ⟨#[]⟩, .int .i64 0, .int .i64 0, .int .i64 0, .int .i64 0, .int .u32 0] 24))
  clear hreg hwd hsp hb0
  · go_enter Tryd.func22, Tryd.ntmps22
    go_wp2_with (first
      | (go_at_call 21; (with_reducible refine (SP.out _).mono ?_); rintro ex w1 ⟨rfl, hb1⟩; have B1 := Lib.hid (B0.out.trans (hb1.mono (by rw [S0.out]; omega))); have R1 := Lib.hid ((hb1.block _ (by rw [S0.out]; omega)).trans R0.out); clear hb1)
      | (go_at_call 33; (with_reducible refine (RG.out _).mono ?_); rintro ex w2 ⟨rfl, hb2⟩; have B2 := Lib.hid (B1.out.trans (hb2.mono B1.out.size)); have R2 := Lib.hid ((hb2.block _ (blk_lt2 R1.out)).trans R1.out); clear hb2)
      | (go_at_call 34; (with_reducible refine (WD.out _).mono ?_); rintro ex w6 ⟨rfl, ⟨nd, rfl⟩⟩; have BB5 := Lib.hid (show Below w.heap.size w ((w2.alloc (.cells #[.bool false, .bool false, .bool false, .bool false] 64)).alloc (.cells #[.string nm, .int .i64 0, .int .i64 0, .int .i64 0, .int .i64 0, .int .u32 0] 24)) from (B2.out.alloc B2.out.size _).alloc (by simp; exact Nat.le_trans B2.out.size (Nat.le_succ _)) _); have I5 : (((w2.alloc (.cells #[.bool false, .bool false, .bool false, .bool false] 64)).alloc (.cells #[.string nm, .int .i64 0, .int .i64 0, .int .i64 0, .int .i64 0, .int .u32 0] 24)).drewN nd).heap[w2.heap.size + 1]? = _ := two_new w2 (.cells #[.bool false, .bool false, .bool false, .bool false] 64) (.cells #[.string nm, .int .i64 0, .int .i64 0, .int .i64 0, .int .i64 0, .int .u32 0] 24); have R5 : (((w2.alloc (.cells #[.bool false, .bool false, .bool false, .bool false] 64)).alloc (.cells #[.string nm, .int .i64 0, .int .i64 0, .int .i64 0, .int .i64 0, .int .u32 0] 24)).drewN nd).heap[w.heap.size]? = _ := ((((Below.refl _ w2).alloc (Nat.le_refl _) (.cells #[.bool false, .bool false, .bool false, .bool false] 64)).alloc (by simp) (.cells #[.string nm, .int .i64 0, .int .i64 0, .int .i64 0, .int .i64 0, .int .u32 0] 24)).block _ (blk_lt2 R2.out)).trans R2.out; have lt2 := blk_lt2 R2.out; have i0 := rblk_cell (j := 0) (v := .string nm) I5 rfl; have i1 := rblk_cell (j := 1) (v := .int .i64 0) I5 rfl; have i2 := rblk_cell (j := 2) (v := .int .i64 0) I5 rfl; have i3 := rblk_cell (j := 3) (v := .int .i64 0) I5 rfl; have i4 := rblk_cell (j := 4) (v := .int .i64 0) I5 rfl; have i5 := rblk_cell (j := 5) (v := .int .u32 0) I5 rfl; have x5 := rblk_free (j := 5) I5; have q0 := rblk_cell (j := 0) (v := .string ⟨#[]⟩) R5 rfl; have u0 := rblk_free (j := 0) R5; have q1 := rblk_cell (j := 1) (v := .int .i64 0) R5 rfl; have u1 := rblk_free (j := 1) R5; have q2 := rblk_cell (j := 2) (v := .int .i64 0) R5 rfl; have u2 := rblk_free (j := 2) R5; have q3 := rblk_cell (j := 3) (v := .int .i64 0) R5 rfl; have u3 := rblk_free (j := 3) R5; have q4 := rblk_cell (j := 4) (v := .int .i64 0) R5 rfl; have u4 := rblk_free (j := 4) R5; have q5 := rblk_cell (j := 5) (v := .int .u32 0) R5 rfl; have u5 := rblk_free (j := 5) R5; have RR5 := Lib.hid R5; clear I5 R5))
    refine bodyPost_ret (results_cell_row rfl _ _ w.heap.size 24 #[.string nm, .int .i64 0, .int .i64 0, .int .i64 0, .int .i64 0, .int .u32 0] (0, 0) _ rfl ?_ Tryd.underlying24 rfl (by kernel_rfl)) rfl ?_
    · refine blk_put (cs := #[.string nm, .int .i64 0, .int .i64 0, .int .i64 0, .int .i64 0, .int .u32 0]) ?_ 5 _ rfl
      refine blk_put (cs := #[.string nm, .int .i64 0, .int .i64 0, .int .i64 0, .int .i64 0, .int .u32 0]) ?_ 4 _ rfl
      refine blk_put (cs := #[.string nm, .int .i64 0, .int .i64 0, .int .i64 0, .int .i64 0, .int .u32 0]) ?_ 3 _ rfl
      refine blk_put (cs := #[.string nm, .int .i64 0, .int .i64 0, .int .i64 0, .int .i64 0, .int .u32 0]) ?_ 2 _ rfl
      refine blk_put (cs := #[.string nm, .int .i64 0, .int .i64 0, .int .i64 0, .int .i64 0, .int .u32 0]) ?_ 1 _ rfl
      refine blk_put (cs := #[.string ⟨#[]⟩, .int .i64 0, .int .i64 0, .int .i64 0, .int .i64 0, .int .u32 0]) ?_ 0 _ rfl
      skip
      exact RR5.out
    · exact ⟨rfl, (Below.setCell (p := ⟨w.heap.size, 5, none⟩) (Below.setCell (p := ⟨w.heap.size, 4, none⟩) (Below.setCell (p := ⟨w.heap.size, 3, none⟩) (Below.setCell (p := ⟨w.heap.size, 2, none⟩) (Below.setCell (p := ⟨w.heap.size, 1, none⟩) (Below.setCell (p := ⟨w.heap.size, 0, none⟩) (pw_below_drewN BB5.out nd) (Nat.le_refl _) _) (Nat.le_refl _) _) (Nat.le_refl _) _) (Nat.le_refl _) _) (Nat.le_refl _) _) (Nat.le_refl _) _)⟩
theorem guess_walk (nm : ByteArray) (w0 : Int) (op sub sa : Int) (form : ByteArray) (h0 h1 h2 h3 : Bool) (wd : Int) (w : World) (hreg : ∀ w, Calls Tryd.prog 33 #[.string form] w fun e w' => e = .returned (.agg #[.bool h0, .bool h1, .bool h2, .bool h3]) ∧ Below w.heap.size w w') (hwd : ferryref07_wide.f form = some wd) (hsp : ferryref07_special.f nm = some (op, sub, sa, form)) (hc : ((h0, h1, h2, h3), wd) ∈ comboList) :
    Calls Tryd.prog 22 #[.string nm, .int .u32 w0] w fun e w' => e = .returned (.agg #[.string nm, .int .i64 (gFld h0 w0 2097152), .int .i64 (gFld h1 w0 65536), .int .i64 (gFld h2 w0 2048), .int .i64 (gFld h3 w0 64), .int .u32 (gImm wd w0)]) ∧ Below w.heap.size w w' := by
  simp only [comboList, List.mem_cons, List.not_mem_nil, or_false, Prod.mk.injEq] at hc
  rcases hc with ⟨⟨rfl, rfl, rfl, rfl⟩, rfl⟩ | ⟨⟨rfl, rfl, rfl, rfl⟩, rfl⟩ | ⟨⟨rfl, rfl, rfl, rfl⟩, rfl⟩ | ⟨⟨rfl, rfl, rfl, rfl⟩, rfl⟩ | ⟨⟨rfl, rfl, rfl, rfl⟩, rfl⟩ | ⟨⟨rfl, rfl, rfl, rfl⟩, rfl⟩ | ⟨⟨rfl, rfl, rfl, rfl⟩, rfl⟩ | ⟨⟨rfl, rfl, rfl, rfl⟩, rfl⟩ | ⟨⟨rfl, rfl, rfl, rfl⟩, rfl⟩ | ⟨⟨rfl, rfl, rfl, rfl⟩, rfl⟩ | ⟨⟨rfl, rfl, rfl, rfl⟩, rfl⟩ | ⟨⟨rfl, rfl, rfl, rfl⟩, rfl⟩ | ⟨⟨rfl, rfl, rfl, rfl⟩, rfl⟩ | ⟨⟨rfl, rfl, rfl, rfl⟩, rfl⟩
  · rw [gFld_f, gFld_t, gFld_t, gFld_t, gImm_0]
    exact guess_0 nm w0 op sub sa form w hreg hwd hsp
  · rw [gFld_t, gFld_t, gFld_t, gFld_f, gImm_0]
    exact guess_1 nm w0 op sub sa form w hreg hwd hsp
  · rw [gFld_t, gFld_f, gFld_f, gFld_f, gImm_0]
    exact guess_2 nm w0 op sub sa form w hreg hwd hsp
  · rw [gFld_t, gFld_f, gFld_t, gFld_f, gImm_0]
    exact guess_3 nm w0 op sub sa form w hreg hwd hsp
  · rw [gFld_f, gFld_f, gFld_f, gFld_f, gImm_20]
    exact guess_4 nm w0 op sub sa form w hreg hwd hsp
  · rw [gFld_f, gFld_f, gFld_t, gFld_f, gImm_0]
    exact guess_5 nm w0 op sub sa form w hreg hwd hsp
  · rw [gFld_t, gFld_t, gFld_f, gFld_f, gImm_0]
    exact guess_6 nm w0 op sub sa form w hreg hwd hsp
  · rw [gFld_t, gFld_f, gFld_f, gFld_f, gImm_16]
    exact guess_7 nm w0 op sub sa form w hreg hwd hsp
  · rw [gFld_f, gFld_f, gFld_f, gFld_f, gImm_26]
    exact guess_8 nm w0 op sub sa form w hreg hwd hsp
  · rw [gFld_t, gFld_t, gFld_f, gFld_f, gImm_16]
    exact guess_9 nm w0 op sub sa form w hreg hwd hsp
  · rw [gFld_f, gFld_t, gFld_f, gFld_f, gImm_16]
    exact guess_10 nm w0 op sub sa form w hreg hwd hsp
  · rw [gFld_t, gFld_t, gFld_t, gFld_t, gImm_0]
    exact guess_11 nm w0 op sub sa form w hreg hwd hsp
  · rw [gFld_f, gFld_t, gFld_t, gFld_f, gImm_0]
    exact guess_12 nm w0 op sub sa form w hreg hwd hsp
  · rw [gFld_f, gFld_f, gFld_f, gFld_f, gImm_0]
    exact guess_13 nm w0 op sub sa form w hreg hwd hsp
def guessOf (r : List UInt8 × (Bool × Bool × Bool × Bool) × Int) (w0 : Int) : Int × Int × Int × Int × Int := (gFld r.2.1.1 w0 2097152, gFld r.2.1.2.1 w0 65536, gFld r.2.1.2.2.1 w0 2048, gFld r.2.1.2.2.2 w0 64, gImm r.2.2 w0)
-- HAND fn=ferry/ferryref07.guess ; rounds=0 ; making=1
def ferryref07_guess.f (a0 : ByteArray) (a1 : Int) : Option (ByteArray × Int × Int × Int × Int × Int) := (ferryref07_special.f a0).bind fun q => (regsOf q.2.2.2.toList).map fun r => (a0, guessOf r a1)
theorem ferryref07_guess.calls (a0 : ByteArray) (a1 : Int) (r1 : ByteArray) (r2 : Int) (r3 : Int) (r4 : Int) (r5 : Int) (r6 : Int) (w : World) (h : ferryref07_guess.f a0 a1 = some (r1, r2, r3, r4, r5, r6)) :
    Calls Tryd.prog 22 #[.string a0, .int .u32 a1] w fun e w' => e = .returned (.agg #[.string r1, .int .i64 r2, .int .i64 r3, .int .i64 r4, .int .i64 r5, .int .u32 r6]) ∧ Below w.heap.size w w' := by
  unfold ferryref07_guess.f at h
  cases hs : ferryref07_special.f a0 with
  | none =>
    rw [hs] at h
    cases h
  | some q =>
    obtain ⟨op, sub, sa, form⟩ := q
    rw [hs, Option.bind_some] at h
    dsimp only at h
    cases hr : regsOf form.toList with
    | none =>
      rw [hr] at h
      cases h
    | some r =>
      rw [hr] at h
      simp only [Option.map_some, Option.some.injEq, Prod.mk.injEq, guessOf] at h
      obtain ⟨rfl, rfl, rfl, rfl, rfl, rfl⟩ := h
      have hf := regs_fits form r hr
      have hc := List.all_eq_true.1 combos_all r hf.1
      exact guess_walk a0 a1 op sub sa form r.2.1.1 r.2.1.2.1 r.2.1.2.2.1 r.2.1.2.2.2 r.2.2 w (registers_calls form r hr) hf.2.2.2.2 hs (by simpa using hc)
-- HAND fn=ferry/ferryref07.fit ; rounds=0 ; making=1
end Go.Proofs.YtjkpgfjnidflhaaDoor.F
end
