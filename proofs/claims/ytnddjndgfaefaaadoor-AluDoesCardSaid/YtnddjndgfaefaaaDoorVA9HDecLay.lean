import Derived.Below
import Derived.Deep.Draws
import Derived.Deep.AppendLies
import Derived.Maps.AppendAt
import Derived.OwnWalk
import Derived.Laws.BytesArg
import Derived.Laws.MakeOwn
import Derived.Laws.OwnMore
import Derived.Deep.OwnRows
import Derived.Tactics
import Derived.Lib.ConvBytes
import Derived.Laws.Slices
import Derived.WalkKit
import Derived.KernelRfl
import Derived.RowKit3
import Derived.Deep.LoopGhost
import Derived.Deep.QuietTactic
import Derived.BigQuiet
import Derived.WideLaws
import Derived.Deep.DeepCutAuto
import Derived.Deep.CutBlock
import Derived.Deep.RegionHeld3
import Derived.Laws.Rows
import Derived.Lib.AppendStr
import Derived.ArgAppend
import Derived.Laws.IdiomCopy
import Derived.RowKit
import Derived.OrdersHeld
import Derived.Laws.BitsLemmas
import Derived.Laws.StructEq
import Derived.Shelf.Small.Bits
import Derived.Shelf.LaysM
import Derived.Shelf.Strings.Fields
import Derived.Shelf.Strings.Replace
import Derived.Shelf.Strings.SplitShaped
import Derived.Lib.LaidTab
import Derived.Shelf.Abstract
import Derived.RangeFuncRecord
import Derived.ProofKit
import Derived.Lib.Hide
import Derived.Maps.OwnOps
import Derived.OwnWalkIn
import Derived.WalkSmall
import Derived.Laws.ResultCell
import Derived.Shelf.RegionOpen
import Derived.Deep.RegionWith
import Derived.Test.YtnddjndgfaefaaaDoorVZF0
import Derived.Test.YtnddjndgfaefaaaDoorVA0
import Derived.Test.YtnddjndgfaefaaaDoorVA1HDecMap
import Derived.Test.YtnddjndgfaefaaaDoorVA2
import Derived.Test.YtnddjndgfaefaaaDoorVA3HDecTake
import Derived.Test.YtnddjndgfaefaaaDoorVA4
section
namespace Go.Proofs.YtnddjndgfaefaaaDoor.F
open Go.RowKit Go.Shelf Go.Proofs.YtnddjndgfaefaaaDoorW.PrintWords Go.Proofs.YtnddjndgfaefaaaDoorW.PrintLast Go.Proofs.YtnddjndgfaefaaaDoorW.PrintMore
set_option linter.unusedVariables false
set_option linter.unusedSimpArgs false
theorem two_blocks (w : World) (a b : Obj) : ((w.alloc a).alloc b).heap[w.heap.size]? = some a ∧ ((w.alloc a).alloc b).heap[w.heap.size + 1]? = some b ∧ ((w.alloc a).alloc b).heap.size = w.heap.size + 1 + 1 ∧ Below w.heap.size w ((w.alloc a).alloc b) := by
  have s1 : (w.alloc a).heap.size = w.heap.size + 1 := World.size_alloc _ _
  have c1 : (w.alloc a).heap[w.heap.size]? = some a := World.alloc_heap_new w _
  have c2 : ((w.alloc a).alloc b).heap[w.heap.size + 1]? = some b := by rw [← s1]; exact World.alloc_heap_new _ _
  refine ⟨(Below.heap_alloc _ _ _ (by omega)).trans c1, c2, by rw [World.size_alloc, s1], ?_⟩
  exact ((Below.refl _ w).alloc (Nat.le_refl _) _).alloc (by omega) _
def putOf (n m : Int) : Int := bits .and .u32 (n % 4294967296) 31 * m % 4294967296
def immPut (fr bt i : Int) : Int := if bt = 20 then bits .and .u32 i 1048575 * 64 % 4294967296 else if bt = 26 then bits .and .u32 i 67108863 % 4294967296 else bits .and .u32 i 65535 % 4294967296
def layOne (x : Nums) (fr bt : Int) (v : Int) (c : UInt8) : Int :=
  if c = 105 then bits .or .u32 v (immPut fr bt x.i)
  else if c = 115 then bits .or .u32 v (putOf x.s 2097152)
  else if c = 116 then bits .or .u32 v (putOf x.t 65536)
  else if c = 100 then bits .or .u32 v (putOf x.d 2048)
  else bits .or .u32 v (putOf x.a 64)
set_option maxHeartbeats 4000000 in
set_option maxRecDepth 100000 in
theorem row_lay.walk (nm form ls : ByteArray) (op sub fr bt : Int) (nm2 : ByteArray) (x : Nums) (k : Nat) (w : World) (hL : Laid w)
    (hl : dec_letters.f k form = some ls) (hs : dec_shape.f form = some (fr, bt)) (hsz : ls.size < 1000) (hfb : (fr = 6 ∧ bt = 20) ∨ (fr = 0 ∧ bt = 26) ∨ (fr = 0 ∧ bt = 16)) (hc : ∀ c ∈ ls.toList, c = 105 ∨ c = 115 ∨ c = 116 ∨ c = 100 ∨ c = 97) (v1 : Int) (hxr : ls.data.toList.foldl (layOne x fr bt) 0 = v1) (r : Int) (hr : fixedOf form.toList op sub v1 = r) :
    Calls Tryd.prog 31 #[.agg #[.string nm, .int .u32 op, .int .u32 sub, .string form], .agg (insCells nm2 x)] w fun e w' => e = .returned (.int .u32 (bits .or .u32 v1 r)) ∧ Below w.heap.size w w' := by
  have WH := Lib.hid (fun w => dec_where.calls w)
  have LT := Lib.hid (fun w hL => dec_letters.calls k form ls w hL hl)
  have SH := Lib.hid (fun w => dec_shape.calls form fr bt w hs)
  have FD := Lib.hid (fun B c k w hk => dec_field.calls B c w k hk)
  have FX := Lib.hid (fun w => row_fixed.calls nm form op sub v1 w r hr)
  have T3 := Lib.hid (two_blocks w (.cells #[.string nm, .int .u32 op, .int .u32 sub, .string form] 51) (.cells (insCells nm2 x) 29))
  have HL := Lib.hid hL
  have HXR := Lib.hid hxr
  clear hl hs hL hxr hr
  go_enter Tryd.func31, Tryd.ntmps31
  go_wp2_with (first
    | (go_at_call 51; (with_reducible refine (WH.out _).mono ?_); rintro ex w1 ⟨rfl, hM, hb1⟩; rw [T3.out.2.2.1] at hM hb1; have M1 := Lib.hid hM; have B1 := Lib.hid hb1; have BB1 := Lib.hid (T3.out.2.2.2.trans (hb1.mono (by omega))); clear hM hb1; have d3 := dblk_cell (j := 3) (v := .string form) ((B1.out.block _ (by omega)).trans T3.out.1) rfl)
    | (go_at_call 52; (with_reducible refine (LT.out _ (Laid.below HL.out BB1.out)).mono ?_); rintro ex w2 ⟨rfl, hb2⟩; have hb2_ := Lib.hid hb2; have B2 := Lib.hid (B1.out.trans (hb2.mono (T3.out.2.2.1 ▸ B1.out.size))); clear hb2; have cv := Lib.run_convert_string_bytes (P := Tryd.prog) w2 9 72 5 ls Tryd.underlying9 Tryd.underlying72 Tryd.underlying5; have hb3 := below_bytes w2 5 ls; have z3_ : w2.heap.size < (Lib.bytesWorld w2 5 ls).heap.size := (by rw [Lib.bytesWorld_size]; omega); have hc3 := fun j hj => Lib.bytesWorld_cell w2 5 ls j hj; generalize Lib.bytesWorld w2 5 ls = w3 at cv hb3 hc3 z3_; generalize grownCap w2 ls.size 0 5 = cap at cv; have hb3' := Lib.hid hb3; have HC3 := Lib.hid hc3; have Z3_ := Lib.hid z3_; clear hb3 hc3 z3_))
  have m2 := (hb2_.out.block _ (dblk_lt M1.out)).trans M1.out
  have z2 : w.heap.size + 1 + 1 < w2.heap.size := dblk_lt m2
  have m3 := (hb3'.out.block _ z2).trans m2
  have B3 := B2.out.trans (hb3'.out.mono (Nat.le_of_lt z2))
  have BB3 : Below w.heap.size w w3 := T3.out.2.2.2.trans (B3.mono (by omega))
  have r0 := (B3.block _ (by omega)).trans T3.out.1
  have r1 := (B3.block _ (by omega)).trans T3.out.2.1
  have Z3 : w2.heap.size < w3.heap.size := Z3_.out
  generalize w2.heap.size = b3 at z2 Z3 HC3 cv hb3'
  go_loopw [5, 17] (fun v t wr => ∃ k : Nat, t = .int .i64 k ∧ v = .int .u32 ((ls.data.toList.take k).foldl (layOne x fr bt) 0) ∧ k ≤ ls.size ∧ wr.heap[w.heap.size]? = some (.cells #[.string nm, .int .u32 op, .int .u32 sub, .string form] 51 (0, 0)) ∧ wr.heap[w.heap.size + 1]? = some (.cells (insCells nm2 x) 29 (0, 0)) ∧ wr.heap[w.heap.size + 1 + 1]? = some (.map bitEntries 4) ∧ (∀ j, j < ls.size → wr.cell? ⟨b3, j, none⟩ = some (.int .u8 (ls.data.toList.getD j 0).toNat)) ∧ b3 < wr.heap.size ∧ Below w.heap.size w wr) (fun _ t _ => ls.size - (intOf t).toNat)
  case atStart => exact ⟨0, rfl, rfl, Nat.zero_le _, r0, r1, m3, fun j hj => HC3.out j hj, Z3, BB3⟩
  case round =>
    obtain ⟨k, rfl, rfl, hk, q0, q1, q3, q4, q5, hB⟩ := hrel
    by_cases hlt : k < ls.size
    · have hx : ls.data.toList.getD k 0 ∈ ls.toList := by
        rw [ByteArray.toList_eq, List.getD_eq_getElem?_getD, List.getElem?_eq_getElem (by simpa using hlt)]
        exact List.getElem_mem _
      have d4 := q4 k hlt
      obtain ⟨v, hv'⟩ : ∃ v, (ls.data.toList.take k).foldl (layOne x fr bt) 0 = v := ⟨_, rfl⟩
      rw [hv']
      obtain ⟨c, hc'⟩ : ∃ c, ls.data.toList.getD k 0 = c := ⟨_, rfl⟩
      rw [hc'] at hx d4
      have f3 := dblk_cell (j := 3) (v := .string form) q0 rfl
      have Q0 := Lib.hid q0
      have Q1 := Lib.hid q1
      have Q3 := Lib.hid q3
      have Q4 := Lib.hid q4
      have HX := Lib.hid hv'
      clear q0 q1 q3 q4 hv'
      have HC := Lib.hid hc'
      have hlen : k < ls.data.toList.length := by simpa using hlt
      clear hc'
      have g5 := q5
      rcases hc c hx with rfl | rfl | rfl | rfl | rfl
      · clear hx hc
        have v5 : ∀ n, (wr.drewN n).cell? ⟨w.heap.size + 1, 5, none⟩ = some (.int .u32 x.i) := fun n => dblk_cell (show (wr.drewN n).heap[w.heap.size + 1]? = _ from Q1.out) rfl
        rcases hfb with ⟨rfl, rfl⟩ | ⟨rfl, rfl⟩ | ⟨rfl, rfl⟩
        all_goals (
          go_wp2_with (first
            | (go_at_call 53; (with_reducible refine (SH.out _).mono ?_); rintro ex w4 ⟨rfl, ⟨nd, rfl⟩⟩))
          exact ⟨⟨k + 1, by first | rfl | go_num, by rw [take_snoc _ _ _ _ hlen, HX.out, HC.out]; rfl, hlt, Q0.out, Q1.out, Q3.out, Q4.out, g5, pw_below_drewN hB nd⟩, by simp [intOf]; omega⟩)
      · clear hx hc
        have v1 := dblk_cell (j := 1) (v := .int .i64 x.s) Q1.out rfl
        have lk := look115 _ wr.drew (show wr.drew.heap[w.heap.size + 1 + 1]? = _ from Q3.out)
        go_wp2
        go_region_with (go_at_call 54; (with_reducible refine (FD.out _ 115 1 _ rfl).mono ?_); rintro e w' ⟨rfl, rfl⟩)
        all_goals (
          go_wp2
          exact ⟨⟨k + 1, by first | rfl | go_num, by rw [take_snoc _ _ _ _ hlen, HX.out, HC.out]; rfl, hlt, Q0.out, Q1.out, Q3.out, Q4.out, g5, pw_below_drewN hB 1⟩, by simp [intOf]; omega⟩)
      · clear hx hc
        have v1 := dblk_cell (j := 2) (v := .int .i64 x.t) Q1.out rfl
        have lk := look116 _ wr.drew (show wr.drew.heap[w.heap.size + 1 + 1]? = _ from Q3.out)
        go_wp2
        go_region_with (go_at_call 54; (with_reducible refine (FD.out _ 116 2 _ rfl).mono ?_); rintro e w' ⟨rfl, rfl⟩)
        all_goals (
          go_wp2
          exact ⟨⟨k + 1, by first | rfl | go_num, by rw [take_snoc _ _ _ _ hlen, HX.out, HC.out]; rfl, hlt, Q0.out, Q1.out, Q3.out, Q4.out, g5, pw_below_drewN hB 1⟩, by simp [intOf]; omega⟩)
      · clear hx hc
        have v1 := dblk_cell (j := 3) (v := .int .i64 x.d) Q1.out rfl
        have lk := look100 _ wr.drew (show wr.drew.heap[w.heap.size + 1 + 1]? = _ from Q3.out)
        go_wp2
        go_region_with (go_at_call 54; (with_reducible refine (FD.out _ 100 3 _ rfl).mono ?_); rintro e w' ⟨rfl, rfl⟩)
        all_goals (
          go_wp2
          exact ⟨⟨k + 1, by first | rfl | go_num, by rw [take_snoc _ _ _ _ hlen, HX.out, HC.out]; rfl, hlt, Q0.out, Q1.out, Q3.out, Q4.out, g5, pw_below_drewN hB 1⟩, by simp [intOf]; omega⟩)
      · clear hx hc
        have v1 := dblk_cell (j := 4) (v := .int .i64 x.a) Q1.out rfl
        have lk := look97 _ wr.drew (show wr.drew.heap[w.heap.size + 1 + 1]? = _ from Q3.out)
        go_wp2
        go_region_with (go_at_call 54; (with_reducible refine (FD.out _ 97 4 _ rfl).mono ?_); rintro e w' ⟨rfl, rfl⟩)
        all_goals (
          go_wp2
          exact ⟨⟨k + 1, by first | rfl | go_num, by rw [take_snoc _ _ _ _ hlen, HX.out, HC.out]; rfl, hlt, Q0.out, Q1.out, Q3.out, Q4.out, g5, pw_below_drewN hB 1⟩, by simp [intOf]; omega⟩)
    have e4 : k = ls.size := by omega
    subst e4
    have hT : ls.data.toList.take ls.size = ls.data.toList := List.take_of_length_le (by simp)
    rw [hT, HXR.out]
    have d0 := dblk_cell (j := 0) (v := .string nm) q0 rfl
    have d1 := dblk_cell (j := 1) (v := .int .u32 op) q0 rfl
    have d2 := dblk_cell (j := 2) (v := .int .u32 sub) q0 rfl
    have d3 := dblk_cell (j := 3) (v := .string form) q0 rfl
    clear q0 q1 q3 q4 hT
    go_wp2_with (go_at_call 55; (with_reducible refine (FX.out _).mono ?_); rintro ex w4 ⟨rfl, hb4⟩)
    go_ret
    exact ⟨rfl, hB.trans (hb4.mono hB.size)⟩
end Go.Proofs.YtnddjndgfaefaaaDoor.F
end
