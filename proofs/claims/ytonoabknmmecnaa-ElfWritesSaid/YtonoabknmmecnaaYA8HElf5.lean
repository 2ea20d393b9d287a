import Derived.Below
import Derived.Deep.Draws
import Derived.Deep.AppendLies
import Derived.Maps.AppendAt
import Derived.OwnWalk
import Derived.Laws.BytesArg
import Derived.Laws.MakeOwn
import Derived.Laws.OwnMore
import Derived.Deep.OwnRows
import Derived.Tactics
import Derived.Lib.ConvBytes
import Derived.Laws.Slices
import Derived.WalkKit
import Derived.KernelRfl
import Derived.RowKit3
import Derived.Deep.LoopGhost
import Derived.Deep.QuietTactic
import Derived.BigQuiet
import Derived.WideLaws
import Derived.Deep.DeepCutAuto
import Derived.Deep.CutBlock
import Derived.Deep.RegionHeld3
import Derived.Laws.Rows
import Derived.Lib.AppendStr
import Derived.ArgAppend
import Derived.Laws.IdiomCopy
import Derived.RowKit
import Derived.OrdersHeld
import Derived.Laws.BitsLemmas
import Derived.Laws.StructEq
import Derived.Shelf.Strings.Builder1
import Derived.Shelf.Strings.BuilderF
import Derived.Shelf.Strings.BuilderK
import Derived.RangeFuncNested
import Derived.RangeFuncBound
import Derived.RangeFuncCalls
import Derived.RangeFuncLeaves
import Derived.RangeFuncWrites
import Derived.Shelf.Abstract
import Derived.Shelf.RegionOpen
import Derived.OwnWalkIn
import Derived.TacticsInMore
import Derived.LoopNIn
import Derived.LoopIn
import Derived.Lib.Hide
import Derived.WalkLawsBesides
import Derived.WalkSmall
import Derived.Laws.ResultCell
import Derived.RangeFuncRecord
import Derived.ProofKit
import Derived.Deep.RegionWith
import Derived.Defers
import Derived.Recover
import Derived.Tactics2
import Derived.Test.YtonoabknmmecnaaZF0
import Derived.Test.YtonoabknmmecnaaYA4
import Derived.Test.YtonoabknmmecnaaYA5HElf2
import Derived.Test.YtonoabknmmecnaaYA7HElf4
section
namespace Go.Proofs.Ytonoabknmmecnaa.F
open Go.RowKit Go.Shelf Go.Proofs.YtonoabknmmecnaaW.PrintWords Go.Proofs.YtonoabknmmecnaaW.PrintLast Go.Proofs.YtonoabknmmecnaaW.PrintMore
set_option linter.unusedVariables false
set_option linter.unusedSimpArgs false
set_option maxHeartbeats 600000 in
set_option maxRecDepth 100000 in
theorem parse_idle (pn po : Addr) (w : World) :
    CallsD Try.prog 18 #[.pointer (some pn), .pointer (some po)] .returning w fun e u' w' => e = .returned (.tuple #[]) ∧ u' = .returning ∧ w' = w := by
  refine callsD_of_wpS Try.func18 rfl fun c₀ cs hu => ?_
  apply wpS_seq
  apply wpS_region
  simp [wpOpsS, go_sem, recoverD, hu, Try.ntmps18, Exit.thenS]
  apply wpS_seq
  apply wpS_region
  simp [wpOpsS, go_sem, recoverD, hu, Try.ntmps18, Exit.thenS]
  refine wpS_cond (t := false) (by simp [Act.eval, Array.replicate]) ?_
  simp only [Bool.false_eq_true, if_false]
  refine wpS_of_wp (wp_skip ?_)
  cases c₀
  simp_all [bodyPostS, results, Try.results18]
theorem wp_hide {P : Program} {c : Code} {Q : Exit → Act → World → Prop} {a : Act} {w : World} (h : ∀ K : Exit → Act → World → Prop, (∀ e a w, Q e a w → K e a w) → Code.wp P c K a w) : Code.wp P c Q a w := h Q (fun _ _ _ h => h)
def pset (w : World) (be bw : Nat) (c : Int) : World := (((w.setCell ⟨be, 0, none⟩ (.bool false)).setCell ⟨be, 1, none⟩ (.int .u32 0)).setCell ⟨be, 2, none⟩ (.slice none 0 0)).setCell ⟨bw, 0, none⟩ (.int .i64 c)
set_option maxHeartbeats 600000 in
set_option maxRecDepth 100000 in
theorem parse_panicking (be bw : Nat) (c : Int) (v0 v1 v2 v : Value) (older : List PanicEntry) (w : World) (he : w.heap[be]? = some (.cells #[v0, v1, v2] 26 (0, 0))) (hw : w.heap[bw]? = some (.cells #[v] 27 (0, 0))) (hne : be ≠ bw) :
    CallsD Try.prog 18 #[.pointer (some ⟨be, 0, none⟩), .pointer (some ⟨bw, 0, none⟩)] (.panicking ({ v := .iface 27 (.int .i64 c), recovered := false } :: older)) w fun e u' w' =>
      e = .returned (.tuple #[]) ∧ u' = .panicking ({ v := .iface 27 (.int .i64 c), recovered := true } :: older) ∧ w' = pset w be bw c := by
  refine callsD_of_wpS Try.func18 rfl fun c₀ cs hu => ?_
  have p0 := eblk_cell (j := 0) (v := v0) he rfl; have p1 := eblk_cell (j := 1) (v := v1) he rfl; have p2 := eblk_cell (j := 2) (v := v2) he rfl; have pf := fun j => eblk_free (j := j) he
  have q0 := eblk_cell (j := 0) (v := v) hw rfl; have qf := fun j => eblk_free (j := j) hw
  have hne' : bw ≠ be := fun h => hne h.symm
  have lt1 := eblk_lt he
  have lt2 := eblk_lt hw
  clear he hw
  have hu2 := Try.underlying26
  apply wpS_seq
  apply wpS_region
  simp [wpOpsS, go_sem, recoverD, hu, Try.ntmps18, Exit.thenS]
  apply wpS_seq
  apply wpS_region
  simp [wpOpsS, go_sem, recoverD, hu, Try.ntmps18, Exit.thenS]
  refine wpS_cond (t := true) (by simp [Act.eval, Array.replicate]) ?_
  simp only [if_true]
  refine wpS_of_wp ?_
  have hta : ∀ w, (Instr.typeAssert (.iface 27 (.int .i64 c)) 20 27 true).run Try.prog w = .ok (.tuple #[.int .i64 c, .bool true]) w := fun _ => rfl
  refine wp_hide (fun K hK => ?_)
  have ht : (#[.pointer (some ⟨be, 0, none⟩), .pointer (some ⟨bw, 0, none⟩)] ++ ((((Array.replicate 16 undef).setIfInBounds 3 (.iface 27 (.int .i64 c))).setIfInBounds 0 (.iface 27 (.int .i64 c))).setIfInBounds 4 (.iface 27 (.int .i64 c))).setIfInBounds 5 (.bool true) : Array Value) = #[.pointer (some ⟨be, 0, none⟩), .pointer (some ⟨bw, 0, none⟩), .iface 27 (.int .i64 c), undef, undef, .iface 27 (.int .i64 c), .iface 27 (.int .i64 c), .bool true, undef, undef, undef, undef, undef, undef, undef, undef, undef, undef] := by rfl
  rw [ht]
  clear ht
  have hK' := Lib.hid hK
  clear hK
  have hu' := Lib.hid hu
  clear hu
  go_wp2
  refine hK'.out _ _ _ ?_
  simp [bodyPostS, results, Try.results18, pset]
theorem pset_e {w : World} {be bw : Nat} {c : Int} {v0 v1 v2 : Value} (he : w.heap[be]? = some (.cells #[v0, v1, v2] 26 (0, 0))) (hne : be ≠ bw) : (pset w be bw c).heap[be]? = some (.cells #[.bool false, .int .u32 0, .slice none 0 0] 26 (0, 0)) :=
  (Below.heap_setCell _ ⟨bw, 0, none⟩ _ be hne).trans (blk_put (blk_put (blk_put he 0 (.bool false) rfl) 1 (.int .u32 0) rfl) 2 _ rfl)
theorem pset_w {w : World} {be bw : Nat} {c : Int} {v : Value} (hw : w.heap[bw]? = some (.cells #[v] 27 (0, 0))) (hne : be ≠ bw) : (pset w be bw c).heap[bw]? = some (.cells #[.int .i64 c] 27 (0, 0)) := by
  have h : ((((w.setCell ⟨be, 0, none⟩ (.bool false)).setCell ⟨be, 1, none⟩ (.int .u32 0)).setCell ⟨be, 2, none⟩ (.slice none 0 0))).heap[bw]? = some (.cells #[v] 27 (0, 0)) := by
    rw [Below.heap_setCell _ ⟨be, 2, none⟩ _ bw (fun h => hne h.symm), Below.heap_setCell _ ⟨be, 1, none⟩ _ bw (fun h => hne h.symm), Below.heap_setCell _ ⟨be, 0, none⟩ _ bw (fun h => hne h.symm)]
    exact hw
  exact blk_put h 0 _ rfl
theorem pset_below {n : Nat} {w w1 : World} {be bw : Nat} {c : Int} (h : Below n w w1) (h1 : n ≤ be) (h2 : n ≤ bw) : Below n w (pset w1 be bw c) :=
  Below.setCell (p := ⟨bw, 0, none⟩) (Below.setCell (p := ⟨be, 2, none⟩) (Below.setCell (p := ⟨be, 1, none⟩) (Below.setCell (p := ⟨be, 0, none⟩) h h1 _) h1 _) h1 _) h2 _
def rdParse (s : ByteArray) : Except Int ((Bool × Int × List S39) × ByteArray) :=
  if s.size < 52 then .error 101 else if (s.extract 0 16).toList = [127, 69, 76, 70, 1, 2, 1, 0, 0, 0, 0, 0, 0, 0, 0, 0] then rdHeader (s.size : Int) (s.extract 16 s.size) else .error 102
def parseOf (r : Except Int ((Bool × Int × List S39) × ByteArray)) : Bool × Int × List S39 × Int :=
  match r with
  | .ok (x, _) => (x.1, x.2.1, x.2.2, 0)
  | .error c => (false, 0, [], c)
-- HAND fn=ferry/elf.Parse ; rounds=0 ; making=1 ; laid=0
def elf_Parse.f (a0 : ByteArray) : Option (Bool × Int × (List (S39)) × Int) := if a0.size < 1000000000000000 then some (parseOf (rdParse a0)) else none
set_option maxHeartbeats 2000000 in
set_option maxRecDepth 100000 in
theorem parse_any (s : ByteArray) (w : World) (hs : s.size < 1000000000000000) :
    Calls Try.prog 8 #[.string s] w fun e w' => ∃ v2_ : Value, e = .returned (.tuple #[.agg #[.bool (parseOf (rdParse s)).1, .int .u32 (parseOf (rdParse s)).2.1, v2_], .int .i64 (parseOf (rdParse s)).2.2.2]) ∧ Kd.R k39 39 w' w.heap.size (fun _ => True) v2_ (parseOf (rdParse s)).2.2.1 ∧ Below w.heap.size w w' := by
  have hu := Try.underlying26
  have hmf : ∀ (fn : Fn) (first cap : Array Value) (w : World), (Instr.makeFunc fn first cap).run Try.prog w = .ok (.func fn first cap) w := fun _ _ _ _ => rfl
  have MU := Lib.hid elf_must.calls
  have heH : ((w.alloc (.cells #[.bool false, .int .u32 0, .slice none 0 0] 26)).alloc (.cells #[.int .i64 0] 27)).heap[w.heap.size]? = some (.cells #[.bool false, .int .u32 0, .slice none 0 0] 26 (0, 0)) := (Below.heap_alloc _ _ _ (by rw [World.size_alloc]; omega)).trans (World.alloc_heap_new w _)
  have hwH : ((w.alloc (.cells #[.bool false, .int .u32 0, .slice none 0 0] 26)).alloc (.cells #[.int .i64 0] 27)).heap[w.heap.size + 1]? = some (.cells #[.int .i64 0] 27 (0, 0)) := by
    rw [show w.heap.size + 1 = (w.alloc (.cells #[.bool false, .int .u32 0, .slice none 0 0] 26)).heap.size from (World.size_alloc _ _).symm]
    exact World.alloc_heap_new _ _
  have hBH : Below w.heap.size w ((w.alloc (.cells #[.bool false, .int .u32 0, .slice none 0 0] 26)).alloc (.cells #[.int .i64 0] 27)) := ((Below.refl _ w).alloc (Nat.le_refl _) _).alloc (by rw [World.size_alloc]; omega) _
  have EH := Lib.hid heH
  have WH := Lib.hid hwH
  have BH := Lib.hid hBH
  clear heH hwH hBH
  by_cases h1 : s.size < 52
  · have b1 : decide ((52 : Int) ≤ ((s.size : Nat) : Int)) = false := decide_eq_false (by omega)
    go_enter_defers Try.func8, Try.ntmps8
    go_wp2_with (fail)
    refine (MU.out _ 101 _).mono ?_
    rintro e w9 ⟨rfl, rfl⟩
    have heW := EH.out
    have hwW := WH.out
    have hBW := BH.out
    refine leaves_cons (f := 18) (args := #[.pointer (some ⟨w.heap.size, 0, none⟩), .pointer (some ⟨w.heap.size + 1, 0, none⟩)]) (by simp) (by simp [go_sem]) ?_
    refine (parse_panicking w.heap.size (w.heap.size + 1) 101 _ _ _ _ _ _ heW hwW (by omega)).mono ?_
    rintro e u' w'' ⟨rfl, rfl, rfl⟩
    have zE := pset_e (c := 101) heW (be := w.heap.size) (bw := w.heap.size + 1) (by omega)
    have zW := pset_w (c := 101) hwW (be := w.heap.size) (bw := w.heap.size + 1) (by omega)
    have zB := pset_below (be := w.heap.size) (bw := w.heap.size + 1) (c := 101) hBW (Nat.le_refl _) (by omega)
    have zR : rdParse s = .error 101 := by unfold rdParse; rw [if_pos h1]
    clear heW hwW hBW
    rw [zR]
    generalize pset _ _ _ _ = W' at zE zW zB ⊢
    have z0 := eblk_cell (j := 0) (v := .bool false) zE rfl
    have z1 := eblk_cell (j := 1) (v := .int .u32 0) zE rfl
    have z2 := eblk_cell (j := 2) (v := .slice none 0 0) zE rfl
    have z3 := eblk_cell (j := 0) (v := .int .i64 101) zW rfl
    simp [Leaves, settle, results, Try.results8, go_sem, z0, z1, z2, z3, parseOf]
    exact ⟨Kd.R_nil _ _ _ _ _, zB⟩
  have b1 : decide ((52 : Int) ≤ ((s.size : Nat) : Int)) = true := decide_eq_true (by omega)
  have sz0 : ((w.alloc (.cells #[.bool false, .int .u32 0, .slice none 0 0] 26)).alloc (.cells #[.int .i64 0] 27)).heap.size = w.heap.size + 1 + 1 := by rw [World.size_alloc, World.size_alloc]
  have hc : (((w.alloc (.cells #[.bool false, .int .u32 0, .slice none 0 0] 26)).alloc (.cells #[.int .i64 0] 27)).alloc (.cells #[.string s] 50)).heap[w.heap.size + 1 + 1]? = some (rblk s) := by
    rw [← sz0]
    exact World.alloc_heap_new _ _
  have CU := Lib.hid (rest_cut.calls (w.heap.size + 1 + 1) 16 s _ hc (by omega) (by omega))
  clear hc
  rw [show rdCut s 16 = .ok (s.extract 0 16, s.extract 16 s.size) from if_pos (by omega)] at CU
  have SZ := Lib.hid sz0
  clear sz0
  have EB : Hid (rdParse s = if (s.extract 0 16).toList = [127, 69, 76, 70, 1, 2, 1, 0, 0, 0, 0, 0, 0, 0, 0, 0] then rdHeader (s.size : Int) (s.extract 16 s.size) else .error 102) := Lib.hid (by unfold rdParse; rw [if_neg h1])
  go_enter_defers Try.func8, Try.ntmps8
  go_wp2_with (fail)
  refine (MU.out _ 101 _).mono ?_
  rintro e w9 ⟨rfl, rfl⟩
  go_wp2_with (fail)
  refine CU.out.mono ?_
  rintro e w10 ⟨rfl, R1⟩
  have sz1 : (((w.alloc (.cells #[.bool false, .int .u32 0, .slice none 0 0] 26)).alloc (.cells #[.int .i64 0] 27)).alloc (.cells #[.string s] 50)).heap.size = w.heap.size + 1 + 1 + 1 := by rw [World.size_alloc, SZ.out]
  have E1 := Lib.hid ((R1.keep w.heap.size (by rw [sz1]; omega) (by omega)).trans ((Below.heap_alloc _ _ _ (by rw [SZ.out]; omega)).trans EH.out))
  have W1 := Lib.hid ((R1.keep (w.heap.size + 1) (by rw [sz1]; omega) (by omega)).trans ((Below.heap_alloc _ _ _ (by rw [SZ.out]; omega)).trans WH.out))
  have B1 := Lib.hid ((BH.out.alloc (by rw [SZ.out]; omega) _).trans ((R1.below (by rw [sz1]; omega)).mono (by omega)))
  have C1 := Lib.hid R1.cell
  have S1 := Lib.hid (show w.heap.size + 1 + 1 < w10.heap.size from eblk_lt R1.cell)
  clear sz1 R1 CU
  by_cases h2 : (s.extract 0 16).toList = [127, 69, 76, 70, 1, 2, 1, 0, 0, 0, 0, 0, 0, 0, 0, 0]
  · rw [if_pos h2] at EB
    have b2 : ((s.extract 0 16).toList == [127, 69, 76, 70, 1, 2, 1, 0, 0, 0, 0, 0, 0, 0, 0, 0]) = true := beq_iff_eq.2 h2
    have h2' := Lib.hid h2
    clear h2
    go_wp2_with (fail)
    refine (MU.out _ 102 _).mono ?_
    rintro e w11 ⟨rfl, rfl⟩
    have HH := Lib.hid (reader_header.calls (w.heap.size + 1 + 1) (s.size : Int) (s.extract 16 s.size) _ C1.out (by simp; omega))
    clear b2
    cases hr : rdHeader ((s.size : Nat) : Int) (s.extract 16 s.size) with
    | error c =>
      rw [hr] at EB HH
      go_wp2_with (fail)
      refine HH.out.mono ?_
      rintro e w12 ⟨rfl, z, R1⟩
      have heW := (R1.keep w.heap.size (by have := S1.out; omega) (by omega)).trans E1.out
      have hwW := (R1.keep (w.heap.size + 1) (by have := S1.out; omega) (by omega)).trans W1.out
      have hBW := B1.out.trans ((R1.below S1.out).mono (by omega))
      refine leaves_cons (f := 18) (args := #[.pointer (some ⟨w.heap.size, 0, none⟩), .pointer (some ⟨w.heap.size + 1, 0, none⟩)]) (by simp) (by simp [go_sem]) ?_
      refine (parse_panicking w.heap.size (w.heap.size + 1) c _ _ _ _ _ _ heW hwW (by omega)).mono ?_
      rintro e u' w'' ⟨rfl, rfl, rfl⟩
      have zE := pset_e (c := c) heW (be := w.heap.size) (bw := w.heap.size + 1) (by omega)
      have zW := pset_w (c := c) hwW (be := w.heap.size) (bw := w.heap.size + 1) (by omega)
      have zB := pset_below (be := w.heap.size) (bw := w.heap.size + 1) (c := c) hBW (Nat.le_refl _) (by omega)
      have zR : rdParse s = .error c := EB.out
      clear heW hwW hBW
      rw [zR]
      generalize pset _ _ _ _ = W' at zE zW zB ⊢
      have z0 := eblk_cell (j := 0) (v := .bool false) zE rfl
      have z1 := eblk_cell (j := 1) (v := .int .u32 0) zE rfl
      have z2 := eblk_cell (j := 2) (v := .slice none 0 0) zE rfl
      have z3 := eblk_cell (j := 0) (v := .int .i64 c) zW rfl
      simp [Leaves, settle, results, Try.results8, go_sem, z0, z1, z2, z3, parseOf]
      exact ⟨Kd.R_nil _ _ _ _ _, zB⟩
    | ok p =>
      obtain ⟨⟨SH, entry, l⟩, s'⟩ := p
      rw [hr] at EB HH
      go_wp2_with (fail)
      refine HH.out.mono ?_
      rintro e w12 ⟨v, rfl, KR, R1⟩
      have heW := (R1.keep w.heap.size (by have := S1.out; omega) (by omega)).trans E1.out
      have hwW := (R1.keep (w.heap.size + 1) (by have := S1.out; omega) (by omega)).trans W1.out
      have hBW := Lib.hid (B1.out.trans ((R1.below S1.out).mono (by omega)))
      obtain ⟨A, cc, rfl⟩ := Kd.R_slice KR
      have KR' := Lib.hid KR
      have HE := Lib.hid heW
      have HW := Lib.hid hwW
      clear KR R1 C1 B1 W1 E1 HH
      have q0 := eblk_cell (j := 0) (v := .bool false) heW rfl
      have q1 := eblk_cell (j := 1) (v := .int .u32 0) heW rfl
      have q2 := eblk_cell (j := 2) (v := .slice none 0 0) heW rfl
      have qf := fun j => eblk_free (j := j) heW
      have p0 := eblk_cell (j := 0) (v := .int .i64 0) hwW rfl
      have pf := fun j => eblk_free (j := j) hwW
      clear heW hwW
      go_wp2
      obtain ⟨W', hW'⟩ : ∃ W', W' = (((w12.setCell ⟨w.heap.size, 0, none⟩ (.bool SH)).setCell ⟨w.heap.size, 1, none⟩ (.int .u32 entry)).setCell ⟨w.heap.size, 2, none⟩ (.slice A l.length cc)).setCell ⟨w.heap.size + 1, 0, none⟩ (.int .i64 0) := ⟨_, rfl⟩
      rw [← hW']
      have hE4 : W'.heap[w.heap.size]? = some (.cells #[.bool SH, .int .u32 entry, .slice A l.length cc] 26 (0, 0)) := by
        rw [hW', Below.heap_setCell _ ⟨w.heap.size + 1, 0, none⟩ _ w.heap.size (by show w.heap.size ≠ w.heap.size + 1; omega)]
        exact blk_put (blk_put (blk_put HE.out 0 (.bool SH) rfl) 1 (.int .u32 entry) rfl) 2 _ rfl
      have hW4 : W'.heap[w.heap.size + 1]? = some (.cells #[.int .i64 0] 27 (0, 0)) := by
        rw [hW']
        refine blk_put (cs := #[.int .i64 0]) ?_ 0 _ rfl
        rw [Below.heap_setCell _ ⟨w.heap.size, 2, none⟩ _ (w.heap.size + 1) (by show w.heap.size + 1 ≠ w.heap.size; omega), Below.heap_setCell _ ⟨w.heap.size, 1, none⟩ _ (w.heap.size + 1) (by show w.heap.size + 1 ≠ w.heap.size; omega), Below.heap_setCell _ ⟨w.heap.size, 0, none⟩ _ (w.heap.size + 1) (by show w.heap.size + 1 ≠ w.heap.size; omega)]
        exact HW.out
      have hB4 : Below w.heap.size w W' := by
        rw [hW']
        exact Below.setCell (p := ⟨w.heap.size + 1, 0, none⟩) (Below.setCell (p := ⟨w.heap.size, 2, none⟩) (Below.setCell (p := ⟨w.heap.size, 1, none⟩) (Below.setCell (p := ⟨w.heap.size, 0, none⟩) hBW.out (Nat.le_refl _) _) (Nat.le_refl _) _) (Nat.le_refl _) _) (Nat.le_add_right _ _) _
      have hKR : Kd.R k39 39 W' w.heap.size (fun _ => True) (.slice A l.length cc) l := by
        refine Kd.R_lower (Kd.R_mono (Kd.R_step (w1 := W') KR'.out (fun q hq hlt => ?_)) (fun _ _ => trivial)) (by have := S1.out; omega)
        have hq' : w.heap.size + 1 < q := by have := S1.out; omega
        rw [hW', Below.heap_setCell _ ⟨w.heap.size + 1, 0, none⟩ _ q (by show q ≠ w.heap.size + 1; omega), Below.heap_setCell _ ⟨w.heap.size, 2, none⟩ _ q (by show q ≠ w.heap.size; omega), Below.heap_setCell _ ⟨w.heap.size, 1, none⟩ _ q (by show q ≠ w.heap.size; omega), Below.heap_setCell _ ⟨w.heap.size, 0, none⟩ _ q (by show q ≠ w.heap.size; omega)]
      clear q0 q1 q2 qf p0 pf HE HW hBW KR' hW'
      refine leaves_cons (f := 18) (args := #[.pointer (some ⟨w.heap.size, 0, none⟩), .pointer (some ⟨w.heap.size + 1, 0, none⟩)]) (by simp) (by simp [go_sem]) ?_
      refine (parse_idle ⟨w.heap.size, 0, none⟩ ⟨w.heap.size + 1, 0, none⟩ _).mono ?_
      rintro e u' w'' ⟨rfl, rfl, rfl⟩
      have zR := EB.out
      have z0 := eblk_cell (j := 0) (v := .bool SH) hE4 rfl
      have z1 := eblk_cell (j := 1) (v := .int .u32 entry) hE4 rfl
      have z2 := eblk_cell (j := 2) (v := .slice A l.length cc) hE4 rfl
      have z3 := eblk_cell (j := 0) (v := .int .i64 0) hW4 rfl
      rw [zR]
      simp [Leaves, settle, results, Try.results8, go_sem, z0, z1, z2, z3, parseOf]
      exact ⟨hKR, hB4⟩
  · rw [if_neg h2] at EB
    have b2 : ((s.extract 0 16).toList == [127, 69, 76, 70, 1, 2, 1, 0, 0, 0, 0, 0, 0, 0, 0, 0]) = false := beq_eq_false_iff_ne.2 h2
    have h2' := Lib.hid h2
    clear h2
    go_wp2_with (fail)
    refine (MU.out _ 102 _).mono ?_
    rintro e w11 ⟨rfl, rfl⟩
    have heW := E1.out
    have hwW := W1.out
    have hBW := B1.out
    refine leaves_cons (f := 18) (args := #[.pointer (some ⟨w.heap.size, 0, none⟩), .pointer (some ⟨w.heap.size + 1, 0, none⟩)]) (by simp) (by simp [go_sem]) ?_
    refine (parse_panicking w.heap.size (w.heap.size + 1) 102 _ _ _ _ _ _ heW hwW (by omega)).mono ?_
    rintro e u' w'' ⟨rfl, rfl, rfl⟩
    have zE := pset_e (c := 102) heW (be := w.heap.size) (bw := w.heap.size + 1) (by omega)
    have zW := pset_w (c := 102) hwW (be := w.heap.size) (bw := w.heap.size + 1) (by omega)
    have zB := pset_below (be := w.heap.size) (bw := w.heap.size + 1) (c := 102) hBW (Nat.le_refl _) (by omega)
    have zR : rdParse s = .error 102 := EB.out
    clear heW hwW hBW
    rw [zR]
    generalize pset _ _ _ _ = W' at zE zW zB ⊢
    have z0 := eblk_cell (j := 0) (v := .bool false) zE rfl
    have z1 := eblk_cell (j := 1) (v := .int .u32 0) zE rfl
    have z2 := eblk_cell (j := 2) (v := .slice none 0 0) zE rfl
    have z3 := eblk_cell (j := 0) (v := .int .i64 102) zW rfl
    simp [Leaves, settle, results, Try.results8, go_sem, z0, z1, z2, z3, parseOf]
    exact ⟨Kd.R_nil _ _ _ _ _, zB⟩
-- a call of Parse, whole
theorem elf_Parse.calls (a0 : ByteArray) (r1 : Bool) (r2 : Int) (r3 : List S39) (r4 : Int) (w : World) (h : elf_Parse.f a0 = some (r1, r2, r3, r4)) :
    Calls Try.prog 8 #[.string a0] w fun e w' => ∃ v2_ : Value, e = .returned (.tuple #[.agg #[.bool r1, .int .u32 r2, v2_], .int .i64 r4]) ∧ Kd.R k39 39 w' w.heap.size (fun _ => True) v2_ r3 ∧ Below w.heap.size w w' := by
  unfold elf_Parse.f at h
  split at h
  · rename_i hs
    have h' := Option.some.inj h
    have hp := parse_any a0 w hs
    rw [h'] at hp
    exact hp
  · cases h
end Go.Proofs.Ytonoabknmmecnaa.F
end
