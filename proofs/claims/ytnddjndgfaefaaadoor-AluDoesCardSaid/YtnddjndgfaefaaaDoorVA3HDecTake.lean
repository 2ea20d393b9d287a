import Derived.Below
import Derived.Deep.Draws
import Derived.Deep.AppendLies
import Derived.Maps.AppendAt
import Derived.OwnWalk
import Derived.Laws.BytesArg
import Derived.Laws.MakeOwn
import Derived.Laws.OwnMore
import Derived.Deep.OwnRows
import Derived.Tactics
import Derived.Lib.ConvBytes
import Derived.Laws.Slices
import Derived.WalkKit
import Derived.KernelRfl
import Derived.RowKit3
import Derived.Deep.LoopGhost
import Derived.Deep.QuietTactic
import Derived.BigQuiet
import Derived.WideLaws
import Derived.Deep.DeepCutAuto
import Derived.Deep.CutBlock
import Derived.Deep.RegionHeld3
import Derived.Laws.Rows
import Derived.Lib.AppendStr
import Derived.ArgAppend
import Derived.Laws.IdiomCopy
import Derived.RowKit
import Derived.OrdersHeld
import Derived.Laws.BitsLemmas
import Derived.Laws.StructEq
import Derived.Shelf.Small.Bits
import Derived.Shelf.LaysM
import Derived.Shelf.Strings.Fields
import Derived.Shelf.Strings.Replace
import Derived.Shelf.Strings.SplitShaped
import Derived.Lib.LaidTab
import Derived.Shelf.Abstract
import Derived.RangeFuncRecord
import Derived.ProofKit
import Derived.Lib.Hide
import Derived.Maps.OwnOps
import Derived.OwnWalkIn
import Derived.WalkSmall
import Derived.Laws.ResultCell
import Derived.Shelf.RegionOpen
import Derived.Deep.RegionWith
import Derived.Test.YtnddjndgfaefaaaDoorVZF0
import Derived.Test.YtnddjndgfaefaaaDoorVA0
import Derived.Test.YtnddjndgfaefaaaDoorVA1HDecMap
import Derived.Test.YtnddjndgfaefaaaDoorVA2
section
namespace Go.Proofs.YtnddjndgfaefaaaDoor.F
open Go.RowKit Go.Shelf Go.Proofs.YtnddjndgfaefaaaDoorW.PrintWords Go.Proofs.YtnddjndgfaefaaaDoorW.PrintLast Go.Proofs.YtnddjndgfaefaaaDoorW.PrintMore
set_option linter.unusedVariables false
set_option linter.unusedSimpArgs false
theorem dblk_cell {W : World} {b j : Nat} {cs : Array Value} {t : TypeId} {fr : Nat × Nat} {v : Value} (h : W.heap[b]? = some (.cells cs t fr)) (hv : cs[j]? = some v) : W.cell? ⟨b, j, none⟩ = some v := by
  unfold World.cell?
  rw [show W.heap[(Addr.mk b j none).block]? = _ from h]
  simpa using hv
theorem dblk_free {W : World} {b j : Nat} {cs : Array Value} {t : TypeId} (h : W.heap[b]? = some (.cells cs t (0, 0))) : W.frozen? ⟨b, j, none⟩ = false := by
  unfold World.frozen?
  rw [show W.heap[(Addr.mk b j none).block]? = _ from h]
  simp
theorem dblk_lt {W : World} {b : Nat} {o : Obj} (h : W.heap[b]? = some o) : b < W.heap.size := (Array.getElem?_eq_some_iff.1 h).1
theorem below_bytes (w : World) (e : TypeId) (s : ByteArray) : Below w.heap.size w (Lib.bytesWorld w e s) := ⟨rfl, rfl, rfl, by rw [Lib.bytesWorld_size]; omega, fun j hj => Lib.bytesWorld_at_old _ _ _ j hj⟩
theorem three_blocks (w : World) (a b c : Obj) : (((w.alloc a).alloc b).alloc c).heap[w.heap.size]? = some a ∧ (((w.alloc a).alloc b).alloc c).heap[w.heap.size + 1]? = some b ∧ (((w.alloc a).alloc b).alloc c).heap[w.heap.size + 1 + 1]? = some c ∧ (((w.alloc a).alloc b).alloc c).heap.size = w.heap.size + 1 + 1 + 1 ∧ Below w.heap.size w (((w.alloc a).alloc b).alloc c) := by
  have s1 : (w.alloc a).heap.size = w.heap.size + 1 := World.size_alloc _ _
  have s2 : ((w.alloc a).alloc b).heap.size = w.heap.size + 1 + 1 := by rw [World.size_alloc, s1]
  have c1 : (w.alloc a).heap[w.heap.size]? = some a := World.alloc_heap_new w _
  have c2 : ((w.alloc a).alloc b).heap[w.heap.size + 1]? = some b := by rw [← s1]; exact World.alloc_heap_new _ _
  have c3 : (((w.alloc a).alloc b).alloc c).heap[w.heap.size + 1 + 1]? = some c := by rw [← s2]; exact World.alloc_heap_new _ _
  refine ⟨(Below.heap_alloc _ _ _ (by omega)).trans ((Below.heap_alloc _ _ _ (by omega)).trans c1), (Below.heap_alloc _ _ _ (by omega)).trans c2, c3, by rw [World.size_alloc, s2], ?_⟩
  exact (((Below.refl _ w).alloc (Nat.le_refl _) _).alloc (by omega) _).alloc (by omega) _
structure Nums where
  s : Int
  t : Int
  d : Int
  a : Int
  i : Int
def nums0 : Nums := ⟨0, 0, 0, 0, 0⟩
def insCells (nm : ByteArray) (x : Nums) : Array Value := #[.string nm, .int .i64 x.s, .int .i64 x.t, .int .i64 x.d, .int .i64 x.a, .int .u32 x.i]
def fldOf (w0 d : Int) : Int := wrap64 (bits .and .u32 (w0 / d) 31)
def immOf (fr bt w0 : Int) : Int := if bt = 20 then bits .and .u32 (w0 / 64) 1048575 else if bt = 26 then bits .and .u32 w0 67108863 else bits .and .u32 w0 65535
def takeOne (w0 fr bt : Int) (x : Nums) (c : UInt8) : Nums :=
  if c = 105 then { x with i := immOf fr bt w0 }
  else if c = 115 then { x with s := fldOf w0 2097152 }
  else if c = 116 then { x with t := fldOf w0 65536 }
  else if c = 100 then { x with d := fldOf w0 2048 }
  else { x with a := fldOf w0 64 }
theorem take_put {w wr : World} {o0 o1 o3 : Obj} {b3 : Nat} {ls : ByteArray} {cs cs' : Array Value} {t : TypeId} (j : Nat) (v : Value) (q0 : wr.heap[w.heap.size]? = some o0) (q1 : wr.heap[w.heap.size + 1]? = some o1) (q2 : wr.heap[w.heap.size + 1 + 1]? = some (.cells cs t (0, 0)))
    (q3 : wr.heap[w.heap.size + 1 + 1 + 1]? = some o3) (q4 : ∀ j, j < ls.size → wr.cell? ⟨b3, j, none⟩ = some (.int .u8 (ls.data.toList.getD j 0).toNat)) (q5 : b3 < wr.heap.size) (q6 : w.heap.size + 1 + 1 + 1 < b3) (hB : Below w.heap.size w wr) (e : cs.setIfInBounds j v = cs') :
    (wr.setCell ⟨w.heap.size + 1 + 1, j, none⟩ v).heap[w.heap.size]? = some o0 ∧ (wr.setCell ⟨w.heap.size + 1 + 1, j, none⟩ v).heap[w.heap.size + 1]? = some o1 ∧ (wr.setCell ⟨w.heap.size + 1 + 1, j, none⟩ v).heap[w.heap.size + 1 + 1]? = some (.cells cs' t (0, 0)) ∧
    (wr.setCell ⟨w.heap.size + 1 + 1, j, none⟩ v).heap[w.heap.size + 1 + 1 + 1]? = some o3 ∧ (∀ i, i < ls.size → (wr.setCell ⟨w.heap.size + 1 + 1, j, none⟩ v).cell? ⟨b3, i, none⟩ = some (.int .u8 (ls.data.toList.getD i 0).toNat)) ∧ b3 < (wr.setCell ⟨w.heap.size + 1 + 1, j, none⟩ v).heap.size ∧ Below w.heap.size w (wr.setCell ⟨w.heap.size + 1 + 1, j, none⟩ v) := by
  refine ⟨(Deep.blk_setCell_other _ _ _ _ (by simp; omega)).trans q0, (Deep.blk_setCell_other _ _ _ _ (by simp)).trans q1, blk_put q2 j v e, (Deep.blk_setCell_other _ _ _ _ (by simp)).trans q3, fun i hi => ?_, by rw [Deep.nblk_setCell]; exact q5, hB.setCell (p := ⟨w.heap.size + 1 + 1, j, none⟩) (by simp; omega) _⟩
  refine (World.cell?_setCell_far _ _ _ _ (show w.heap.size + 1 + 1 ≠ b3 by omega)).trans (q4 i hi)
theorem take_snoc {α : Type} (f : α → UInt8 → α) (a : α) (l : List UInt8) (k : Nat) (h : k < l.length) : (l.take (k + 1)).foldl f a = f ((l.take k).foldl f a) (l.getD k 0) := by
  rw [List.take_add_one, List.getElem?_eq_getElem h, Option.toList_some, List.foldl_append, List.getD_eq_getElem?_getD, List.getElem?_eq_getElem h]
  rfl
set_option maxHeartbeats 4000000 in
set_option maxRecDepth 100000 in
theorem row_take.walk (nm form ls : ByteArray) (op sub w0 fr bt : Int) (k : Nat) (w : World) (hL : Laid w)
    (hl : dec_letters.f k form = some ls) (hs : dec_shape.f form = some (fr, bt)) (hsz : ls.size < 1000) (hfb : (fr = 6 ∧ bt = 20) ∨ (fr = 0 ∧ bt = 26) ∨ (fr = 0 ∧ bt = 16)) (hc : ∀ c ∈ ls.toList, c = 105 ∨ c = 115 ∨ c = 116 ∨ c = 100 ∨ c = 97) (xr : Nums) (hxr : ls.data.toList.foldl (takeOne w0 fr bt) nums0 = xr) :
    Calls Tryd.prog 32 #[.agg #[.string nm, .int .u32 op, .int .u32 sub, .string form], .int .u32 w0] w fun e w' => e = .returned (.agg (insCells nm xr)) ∧ Below w.heap.size w w' := by
  have WH := Lib.hid (fun w => dec_where.calls w)
  have LT := Lib.hid (fun w hL => dec_letters.calls k form ls w hL hl)
  have SH := Lib.hid (fun w => dec_shape.calls form fr bt w hs)
  have FD := Lib.hid (fun B c k w hk => dec_field.calls B c w k hk)
  have T3 := Lib.hid (three_blocks w (.cells #[.string nm, .int .u32 op, .int .u32 sub, .string form] 51) (.cells #[.string ⟨#[]⟩, .int .i64 0, .int .i64 0, .int .i64 0, .int .i64 0, .int .u32 0] 29) (.cells #[.string nm, .int .i64 0, .int .i64 0, .int .i64 0, .int .i64 0, .int .u32 0] 29))
  have F0 := Lib.hid (dblk_cell (j := 0) (v := .string nm) (World.alloc_heap_new w (.cells #[.string nm, .int .u32 op, .int .u32 sub, .string form] 51)) rfl)
  have HL := Lib.hid hL
  have HXR := Lib.hid hxr
  clear hl hs hL hxr
  go_enter Tryd.func32, Tryd.ntmps32
  go_wp2_with (first
    | (go_at_call 51; (with_reducible refine (WH.out _).mono ?_); rintro ex w1 ⟨rfl, hM, hb1⟩; rw [T3.out.2.2.2.1] at hM hb1; have M1 := Lib.hid hM; have B1 := Lib.hid hb1; have BB1 := Lib.hid (T3.out.2.2.2.2.trans (hb1.mono (by omega))); clear hM hb1; have d3 := dblk_cell (j := 3) (v := .string form) ((B1.out.block _ (by omega)).trans T3.out.1) rfl)
    | (go_at_call 52; (with_reducible refine (LT.out _ (Laid.below HL.out BB1.out)).mono ?_); rintro ex w2 ⟨rfl, hb2⟩; have hb2_ := Lib.hid hb2; have B2 := Lib.hid (B1.out.trans (hb2.mono (T3.out.2.2.2.1 ▸ B1.out.size))); clear hb2; have cv := Lib.run_convert_string_bytes (P := Tryd.prog) w2 9 72 5 ls Tryd.underlying9 Tryd.underlying72 Tryd.underlying5; have hb3 := below_bytes w2 5 ls; have z3_ : w2.heap.size < (Lib.bytesWorld w2 5 ls).heap.size := (by rw [Lib.bytesWorld_size]; omega); have hc3 := fun j hj => Lib.bytesWorld_cell w2 5 ls j hj; generalize Lib.bytesWorld w2 5 ls = w3 at cv hb3 hc3 z3_; generalize grownCap w2 ls.size 0 5 = cap at cv; have hb3' := Lib.hid hb3; have HC3 := Lib.hid hc3; have Z3_ := Lib.hid z3_; clear hb3 hc3 z3_))
  have m2 := (hb2_.out.block _ (dblk_lt M1.out)).trans M1.out
  have z2 : w.heap.size + 1 + 1 + 1 < w2.heap.size := dblk_lt m2
  have m3 := (hb3'.out.block _ z2).trans m2
  have B3 := B2.out.trans (hb3'.out.mono (Nat.le_of_lt z2))
  have BB3 : Below w.heap.size w w3 := T3.out.2.2.2.2.trans (B3.mono (by omega))
  have r0 := (B3.block _ (by omega)).trans T3.out.1
  have r1 := (B3.block _ (by omega)).trans T3.out.2.1
  have r2 := (B3.block _ (by omega)).trans T3.out.2.2.1
  have Z3 : w2.heap.size < w3.heap.size := Z3_.out
  generalize w2.heap.size = b3 at z2 Z3 HC3 cv hb3'
  go_loopw [20] (fun t wr => ∃ k : Nat, t = .int .i64 k ∧ k ≤ ls.size ∧ wr.heap[w.heap.size]? = some (.cells #[.string nm, .int .u32 op, .int .u32 sub, .string form] 51 (0, 0)) ∧ wr.heap[w.heap.size + 1]? = some (.cells #[.string ⟨#[]⟩, .int .i64 0, .int .i64 0, .int .i64 0, .int .i64 0, .int .u32 0] 29 (0, 0)) ∧ wr.heap[w.heap.size + 1 + 1]? = some (.cells (insCells nm ((ls.data.toList.take k).foldl (takeOne w0 fr bt) nums0)) 29 (0, 0)) ∧ wr.heap[w.heap.size + 1 + 1 + 1]? = some (.map bitEntries 4) ∧ (∀ j, j < ls.size → wr.cell? ⟨b3, j, none⟩ = some (.int .u8 (ls.data.toList.getD j 0).toNat)) ∧ b3 < wr.heap.size ∧ w.heap.size + 1 + 1 + 1 < b3 ∧ Below w.heap.size w wr) (fun t _ => ls.size - (intOf t).toNat)
  case atStart => exact ⟨0, rfl, Nat.zero_le _, r0, r1, r2, m3, fun j hj => HC3.out j hj, Z3, z2, BB3⟩
  case round =>
    obtain ⟨k, rfl, hk, q0, q1, q2, q3, q4, q5, q6, hB⟩ := hrel
    by_cases hlt : k < ls.size
    · have d4 := q4 k hlt
      have hx : ls.data.toList.getD k 0 ∈ ls.toList := by
        rw [ByteArray.toList_eq, List.getD_eq_getElem?_getD, List.getElem?_eq_getElem (by simpa using hlt)]
        exact List.getElem_mem _
      obtain ⟨x, hx'⟩ : ∃ x, (ls.data.toList.take k).foldl (takeOne w0 fr bt) nums0 = x := ⟨_, rfl⟩
      rw [hx'] at q2
      obtain ⟨c, hc'⟩ : ∃ c, ls.data.toList.getD k 0 = c := ⟨_, rfl⟩
      rw [hc'] at hx d4
      have f3 := dblk_cell (j := 3) (v := .string form) q0 rfl
      have Q0 := Lib.hid q0
      have Q1 := Lib.hid q1
      have Q2 := Lib.hid q2
      have Q3 := Lib.hid q3
      have Q4 := Lib.hid q4
      have HX := Lib.hid hx'
      clear q0 q1 q2 q3 q4 hx'
      have HC := Lib.hid hc'
      have hlen : k < ls.data.toList.length := by simpa using hlt
      clear hc'
      have g5 := q5
      rcases hc c hx with rfl | rfl | rfl | rfl | rfl
      · clear hx hc
        have u5 : ∀ n, (wr.drewN n).frozen? ⟨w.heap.size + 1 + 1, 5, none⟩ = false := fun n => dblk_free (show (wr.drewN n).heap[w.heap.size + 1 + 1]? = _ from Q2.out)
        have v5 : ∀ n, (wr.drewN n).cell? ⟨w.heap.size + 1 + 1, 5, none⟩ = some (.int .u32 x.i) := fun n => dblk_cell (show (wr.drewN n).heap[w.heap.size + 1 + 1]? = _ from Q2.out) rfl
        have PP := Lib.hid (fun v cs' e => take_put (w := w) (cs := insCells nm x) (cs' := cs') 5 v Q0.out Q1.out Q2.out Q3.out Q4.out q5 q6 hB e)
        rcases hfb with ⟨rfl, rfl⟩ | ⟨rfl, rfl⟩ | ⟨rfl, rfl⟩
        · go_wp2_with (first
            | (go_at_call 53; (with_reducible refine (SH.out _).mono ?_); rintro ex w4 ⟨rfl, ⟨nd, rfl⟩⟩))
          have P := PP.out (.int .u32 (immOf 6 20 w0)) (insCells nm { x with i := immOf 6 20 w0 }) rfl
          exact ⟨⟨k + 1, by go_num, hlt, P.1, P.2.1, by rw [take_snoc _ _ _ _ hlen, HX.out, HC.out]; exact P.2.2.1, P.2.2.2.1, P.2.2.2.2.1, P.2.2.2.2.2.1, q6, pw_below_drewN P.2.2.2.2.2.2 nd⟩, by simp [intOf]; omega⟩
        · go_wp2_with (first
            | (go_at_call 53; (with_reducible refine (SH.out _).mono ?_); rintro ex w4 ⟨rfl, ⟨nd, rfl⟩⟩))
          have P := PP.out (.int .u32 (immOf 0 26 w0)) (insCells nm { x with i := immOf 0 26 w0 }) rfl
          exact ⟨⟨k + 1, by go_num, hlt, P.1, P.2.1, by rw [take_snoc _ _ _ _ hlen, HX.out, HC.out]; exact P.2.2.1, P.2.2.2.1, P.2.2.2.2.1, P.2.2.2.2.2.1, q6, pw_below_drewN P.2.2.2.2.2.2 nd⟩, by simp [intOf]; omega⟩
        · go_wp2_with (first
            | (go_at_call 53; (with_reducible refine (SH.out _).mono ?_); rintro ex w4 ⟨rfl, ⟨nd, rfl⟩⟩))
          have P := PP.out (.int .u32 (immOf 0 16 w0)) (insCells nm { x with i := immOf 0 16 w0 }) rfl
          exact ⟨⟨k + 1, by go_num, hlt, P.1, P.2.1, by rw [take_snoc _ _ _ _ hlen, HX.out, HC.out]; exact P.2.2.1, P.2.2.2.1, P.2.2.2.2.1, P.2.2.2.2.2.1, q6, pw_below_drewN P.2.2.2.2.2.2 nd⟩, by simp [intOf]; omega⟩
      · clear hx hc
        have u1 := dblk_free (j := 1) Q2.out
        have v1 := dblk_cell (j := 1) (v := .int .i64 x.s) Q2.out rfl
        have lk := look115 _ wr.drew (show wr.drew.heap[w.heap.size + 1 + 1 + 1]? = _ from Q3.out)
        have PP := Lib.hid (fun v cs' e => take_put (w := w) (cs := insCells nm x) (cs' := cs') 1 v Q0.out Q1.out Q2.out Q3.out Q4.out q5 q6 hB e)
        go_wp2
        go_region_with (go_at_call 54; (with_reducible refine (FD.out _ 115 1 _ rfl).mono ?_); rintro e w' ⟨rfl, rfl⟩)
        all_goals (
          go_wp2
          have P := PP.out (.int .i64 (fldOf w0 2097152)) (insCells nm { x with s := fldOf w0 2097152 }) rfl
          exact ⟨⟨k + 1, by go_num, hlt, P.1, P.2.1, by rw [take_snoc _ _ _ _ hlen, HX.out, HC.out]; exact P.2.2.1, P.2.2.2.1, P.2.2.2.2.1, P.2.2.2.2.2.1, q6, pw_below_drewN P.2.2.2.2.2.2 1⟩, by simp [intOf]; omega⟩)
      · clear hx hc
        have u1 := dblk_free (j := 2) Q2.out
        have v1 := dblk_cell (j := 2) (v := .int .i64 x.t) Q2.out rfl
        have lk := look116 _ wr.drew (show wr.drew.heap[w.heap.size + 1 + 1 + 1]? = _ from Q3.out)
        have PP := Lib.hid (fun v cs' e => take_put (w := w) (cs := insCells nm x) (cs' := cs') 2 v Q0.out Q1.out Q2.out Q3.out Q4.out q5 q6 hB e)
        go_wp2
        go_region_with (go_at_call 54; (with_reducible refine (FD.out _ 116 2 _ rfl).mono ?_); rintro e w' ⟨rfl, rfl⟩)
        all_goals (
          go_wp2
          have P := PP.out (.int .i64 (fldOf w0 65536)) (insCells nm { x with t := fldOf w0 65536 }) rfl
          exact ⟨⟨k + 1, by go_num, hlt, P.1, P.2.1, by rw [take_snoc _ _ _ _ hlen, HX.out, HC.out]; exact P.2.2.1, P.2.2.2.1, P.2.2.2.2.1, P.2.2.2.2.2.1, q6, pw_below_drewN P.2.2.2.2.2.2 1⟩, by simp [intOf]; omega⟩)
      · clear hx hc
        have u1 := dblk_free (j := 3) Q2.out
        have v1 := dblk_cell (j := 3) (v := .int .i64 x.d) Q2.out rfl
        have lk := look100 _ wr.drew (show wr.drew.heap[w.heap.size + 1 + 1 + 1]? = _ from Q3.out)
        have PP := Lib.hid (fun v cs' e => take_put (w := w) (cs := insCells nm x) (cs' := cs') 3 v Q0.out Q1.out Q2.out Q3.out Q4.out q5 q6 hB e)
        go_wp2
        go_region_with (go_at_call 54; (with_reducible refine (FD.out _ 100 3 _ rfl).mono ?_); rintro e w' ⟨rfl, rfl⟩)
        all_goals (
          go_wp2
          have P := PP.out (.int .i64 (fldOf w0 2048)) (insCells nm { x with d := fldOf w0 2048 }) rfl
          exact ⟨⟨k + 1, by go_num, hlt, P.1, P.2.1, by rw [take_snoc _ _ _ _ hlen, HX.out, HC.out]; exact P.2.2.1, P.2.2.2.1, P.2.2.2.2.1, P.2.2.2.2.2.1, q6, pw_below_drewN P.2.2.2.2.2.2 1⟩, by simp [intOf]; omega⟩)
      · clear hx hc
        have u1 := dblk_free (j := 4) Q2.out
        have v1 := dblk_cell (j := 4) (v := .int .i64 x.a) Q2.out rfl
        have lk := look97 _ wr.drew (show wr.drew.heap[w.heap.size + 1 + 1 + 1]? = _ from Q3.out)
        have PP := Lib.hid (fun v cs' e => take_put (w := w) (cs := insCells nm x) (cs' := cs') 4 v Q0.out Q1.out Q2.out Q3.out Q4.out q5 q6 hB e)
        go_wp2
        go_region_with (go_at_call 54; (with_reducible refine (FD.out _ 97 4 _ rfl).mono ?_); rintro e w' ⟨rfl, rfl⟩)
        all_goals (
          go_wp2
          have P := PP.out (.int .i64 (fldOf w0 64)) (insCells nm { x with a := fldOf w0 64 }) rfl
          exact ⟨⟨k + 1, by go_num, hlt, P.1, P.2.1, by rw [take_snoc _ _ _ _ hlen, HX.out, HC.out]; exact P.2.2.1, P.2.2.2.1, P.2.2.2.2.1, P.2.2.2.2.2.1, q6, pw_below_drewN P.2.2.2.2.2.2 1⟩, by simp [intOf]; omega⟩)
    have e4 : k = ls.size := by omega
    subst e4
    have hT : ls.data.toList.take ls.size = ls.data.toList := List.take_of_length_le (by simp)
    rw [hT, HXR.out] at q2
    have G1 := Lib.hid q1
    have d0 := dblk_cell (j := 0) (v := .string nm) q2 rfl
    have d1 := dblk_cell (j := 1) (v := .int .i64 xr.s) q2 rfl
    have d2 := dblk_cell (j := 2) (v := .int .i64 xr.t) q2 rfl
    have d3 := dblk_cell (j := 3) (v := .int .i64 xr.d) q2 rfl
    have d4 := dblk_cell (j := 4) (v := .int .i64 xr.a) q2 rfl
    have d5 := dblk_cell (j := 5) (v := .int .u32 xr.i) q2 rfl
    have e0 := dblk_cell (j := 0) (v := .string ⟨#[]⟩) q1 rfl
    have e1 := dblk_cell (j := 1) (v := .int .i64 0) q1 rfl
    have e2 := dblk_cell (j := 2) (v := .int .i64 0) q1 rfl
    have e3 := dblk_cell (j := 3) (v := .int .i64 0) q1 rfl
    have e4 := dblk_cell (j := 4) (v := .int .i64 0) q1 rfl
    have e5 := dblk_cell (j := 5) (v := .int .u32 0) q1 rfl
    have f0 := dblk_free (j := 0) q1
    have f1 := dblk_free (j := 1) q1
    have f2 := dblk_free (j := 2) q1
    have f3 := dblk_free (j := 3) q1
    have f4 := dblk_free (j := 4) q1
    have f5 := dblk_free (j := 5) q1
    clear q0 q1 q2 q3 q4 hT
    go_wp2
    refine bodyPost_ret (results_cell_row rfl _ _ (w.heap.size + 1) 29 (insCells nm xr) (0, 0) _ rfl ?_ Tryd.underlying29 rfl (by kernel_rfl)) rfl ?_
    · refine blk_put (cs := #[.string nm, .int .i64 xr.s, .int .i64 xr.t, .int .i64 xr.d, .int .i64 xr.a, .int .u32 0]) ?_ 5 _ rfl
      refine blk_put (cs := #[.string nm, .int .i64 xr.s, .int .i64 xr.t, .int .i64 xr.d, .int .i64 0, .int .u32 0]) ?_ 4 _ rfl
      refine blk_put (cs := #[.string nm, .int .i64 xr.s, .int .i64 xr.t, .int .i64 0, .int .i64 0, .int .u32 0]) ?_ 3 _ rfl
      refine blk_put (cs := #[.string nm, .int .i64 xr.s, .int .i64 0, .int .i64 0, .int .i64 0, .int .u32 0]) ?_ 2 _ rfl
      refine blk_put (cs := #[.string nm, .int .i64 0, .int .i64 0, .int .i64 0, .int .i64 0, .int .u32 0]) ?_ 1 _ rfl
      refine blk_put (cs := #[.string ⟨#[]⟩, .int .i64 0, .int .i64 0, .int .i64 0, .int .i64 0, .int .u32 0]) ?_ 0 _ rfl
      exact G1.out
    · exact ⟨rfl, (Below.setCell (p := ⟨w.heap.size + 1, 5, none⟩) (Below.setCell (p := ⟨w.heap.size + 1, 4, none⟩) (Below.setCell (p := ⟨w.heap.size + 1, 3, none⟩) (Below.setCell (p := ⟨w.heap.size + 1, 2, none⟩) (Below.setCell (p := ⟨w.heap.size + 1, 1, none⟩) (Below.setCell (p := ⟨w.heap.size + 1, 0, none⟩) hB (Nat.le_succ _) _) (Nat.le_succ _) _) (Nat.le_succ _) _) (Nat.le_succ _) _) (Nat.le_succ _) _) (Nat.le_succ _) _)⟩
end Go.Proofs.YtnddjndgfaefaaaDoor.F
end
