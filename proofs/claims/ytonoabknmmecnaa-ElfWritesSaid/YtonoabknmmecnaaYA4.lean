import Derived.Below
import Derived.Deep.Draws
import Derived.Deep.AppendLies
import Derived.Maps.AppendAt
import Derived.OwnWalk
import Derived.Laws.BytesArg
import Derived.Laws.MakeOwn
import Derived.Laws.OwnMore
import Derived.Deep.OwnRows
import Derived.Tactics
import Derived.Lib.ConvBytes
import Derived.Laws.Slices
import Derived.WalkKit
import Derived.KernelRfl
import Derived.RowKit3
import Derived.Deep.LoopGhost
import Derived.Deep.QuietTactic
import Derived.BigQuiet
import Derived.WideLaws
import Derived.Deep.DeepCutAuto
import Derived.Deep.CutBlock
import Derived.Deep.RegionHeld3
import Derived.Laws.Rows
import Derived.Lib.AppendStr
import Derived.ArgAppend
import Derived.Laws.IdiomCopy
import Derived.RowKit
import Derived.OrdersHeld
import Derived.Laws.BitsLemmas
import Derived.Laws.StructEq
import Derived.Shelf.Strings.Builder1
import Derived.Shelf.Strings.BuilderF
import Derived.Shelf.Strings.BuilderK
import Derived.RangeFuncNested
import Derived.RangeFuncBound
import Derived.RangeFuncCalls
import Derived.RangeFuncLeaves
import Derived.RangeFuncWrites
import Derived.Shelf.Abstract
import Derived.Shelf.RegionOpen
import Derived.OwnWalkIn
import Derived.TacticsInMore
import Derived.LoopNIn
import Derived.LoopIn
import Derived.Lib.Hide
import Derived.WalkLawsBesides
import Derived.WalkSmall
import Derived.Laws.ResultCell
import Derived.RangeFuncRecord
import Derived.ProofKit
import Derived.Test.YtonoabknmmecnaaZF0
import Derived.Test.YtonoabknmmecnaaYA3HSwap
section
namespace Go.Proofs.Ytonoabknmmecnaa.F
open Go.RowKit Go.Proofs.YtonoabknmmecnaaW.PrintWords Go.Proofs.YtonoabknmmecnaaW.PrintLast Go.Proofs.YtonoabknmmecnaaW.PrintMore
attribute [local go_sem] max2_int min2_int max_two min_two max_three min_three max_four min_four
set_option linter.unusedVariables false
set_option linter.unusedSimpArgs false

def swap_Be.f (a0 : ByteArray) : Option (Int) := (swap_number.f a0 false).bind fun t101 => (some t101)
set_option maxHeartbeats 8000000 in
set_option maxRecDepth 100000 in
theorem swap_Be.calls (a0 : ByteArray) (r : Int) (w : World) (h : swap_Be.f a0 = some r) :
    Calls Try.prog 46 #[.string a0] w fun e w' => e = .returned (.int .u64 r) ∧ Below w.heap.size w w' := by
  have HB := Aside0.mk (Below.refl w.heap.size w)
  have H : ((swap_number.f a0 false).bind fun t101 => (some t101)) = some r := h
  clear h
  replace H := Option.bind_eq_some_iff.mp H
  obtain ⟨t101, A20, H⟩ := H
  replace H : (some t101) = some r := H
  have A2 := Aside0.mk A20
  clear A20
  obtain rfl := Option.some.inj H
  go_enter Try.func46, Try.ntmps46
  go_wp2_with (first | ((with_reducible refine gate_callee (f := 51) rfl ?_); refine goesL_ (some 4) rfl rfl Try.func51 (by kernel_rfl) rfl #[.string a0, .bool false] rfl (by (try simp only [List.map_toArray, List.map_cons, List.map_nil]); first | done | rfl | (simp only [List.length_drop, List.length_take]; rfl)) ?_; (with_reducible refine (swap_number.calls a0 false t101 _ A2.out).mono ?_); rintro e w3 ⟨rfl, hb⟩; refine ⟨_, rfl, ?_⟩; have n0_ := Aside0.mk (below_step (by repeat (first | (with_reducible first | exact HB.out | apply below_alloc | apply pw_below_drewN | apply below_drew1) | exact HB.out)) hb); clear HB; have HB := n0_; clear n0_; (try clear hb); (try clear hb2); (try clear hk); (try clear hi)))
  go_ret
  exact ⟨by first | rfl | (simp [errW_none, errW_some] <;> rfl) | (simp [*, errW_none, errW_some] <;> rfl), by repeat (first | (with_reducible first | exact HB.out | apply below_alloc | apply pw_below_drewN | apply below_drew1) | exact HB.out)⟩

end Go.Proofs.Ytonoabknmmecnaa.F
end
section
namespace Go.Proofs.Ytonoabknmmecnaa.F
open Go.RowKit Go.Shelf Go.Proofs.YtonoabknmmecnaaW.PrintWords Go.Proofs.YtonoabknmmecnaaW.PrintLast Go.Proofs.YtonoabknmmecnaaW.PrintMore
set_option linter.unusedVariables false
set_option linter.unusedSimpArgs false
theorem eblk_cell {W : World} {b j : Nat} {cs : Array Value} {t : TypeId} {fr : Nat × Nat} {v : Value} (h : W.heap[b]? = some (.cells cs t fr)) (hv : cs[j]? = some v) : W.cell? ⟨b, j, none⟩ = some v := by
  unfold World.cell?
  rw [show W.heap[(Addr.mk b j none).block]? = _ from h]
  simpa using hv
theorem eblk_free {W : World} {b j : Nat} {cs : Array Value} {t : TypeId} (h : W.heap[b]? = some (.cells cs t (0, 0))) : W.frozen? ⟨b, j, none⟩ = false := by
  unfold World.frozen?
  rw [show W.heap[(Addr.mk b j none).block]? = _ from h]
  simp
theorem eblk_lt {W : World} {b : Nat} {o : Obj} (h : W.heap[b]? = some o) : b < W.heap.size := (Array.getElem?_eq_some_iff.1 h).1
def rblk (s : ByteArray) : Obj := .cells #[.string s] 50 (0, 0)
structure Rd (b : Nat) (w w' : World) (s' : ByteArray) : Prop where
  os : w'.os = w.os
  tape : w'.tape = w.tape
  output : w'.output = w.output
  size : w.heap.size ≤ w'.heap.size
  cell : w'.heap[b]? = some (rblk s')
  keep : ∀ k, k < w.heap.size → k ≠ b → w'.heap[k]? = w.heap[k]?
theorem Rd.trans {b : Nat} {w w1 w2 : World} {s1 s2 : ByteArray} (h1 : Rd b w w1 s1) (h2 : Rd b w1 w2 s2) : Rd b w w2 s2 :=
  ⟨h2.os.trans h1.os, h2.tape.trans h1.tape, h2.output.trans h1.output, Nat.le_trans h1.size h2.size, h2.cell, fun k hk hb => (h2.keep k (Nat.lt_of_lt_of_le hk h1.size) hb).trans (h1.keep k hk hb)⟩
theorem Rd.of_below {b : Nat} {w w1 : World} {s : ByteArray} (hc : w.heap[b]? = some (rblk s)) (h : Below w.heap.size w w1) : Rd b w w1 s :=
  ⟨h.os, h.tape, h.output, h.size, (h.block b (eblk_lt hc)).trans hc, fun k hk _ => h.block k hk⟩
theorem Rd.refl {b : Nat} {w : World} {s : ByteArray} (hc : w.heap[b]? = some (rblk s)) : Rd b w w s := Rd.of_below hc (Below.refl _ w)
theorem Rd.then {b : Nat} {w w1 w2 : World} {s1 : ByteArray} (h1 : Rd b w w1 s1) (h : Below w1.heap.size w1 w2) : Rd b w w2 s1 := h1.trans (Rd.of_below h1.cell h)
theorem Rd.below {b : Nat} {w w1 : World} {s1 : ByteArray} (h : Rd b w w1 s1) (hb : b < w.heap.size) : Below b w w1 := ⟨h.os, h.tape, h.output, h.size, fun k hk => h.keep k (by omega) (by omega)⟩
theorem Rd.set {b : Nat} {w : World} {s : ByteArray} (hc : w.heap[b]? = some (rblk s)) (s' : ByteArray) : Rd b w (w.setCell ⟨b, 0, none⟩ (.string s')) s' :=
  ⟨rfl, rfl, rfl, by simp [World.setCell], blk_put (cs := #[.string s]) hc 0 _ rfl, fun k _ hb => Below.heap_setCell w ⟨b, 0, none⟩ _ k hb⟩
theorem Rd.setNew {b : Nat} {w W : World} {s : ByteArray} (h : Rd b w W s) (hb : b < w.heap.size) {g : Nat} (hg : w.heap.size ≤ g) (j : Nat) (v : Value) : Rd b w (W.setCell ⟨g, j, none⟩ v) s :=
  ⟨h.os, h.tape, h.output, by simpa [World.setCell] using h.size, (Below.heap_setCell W ⟨g, j, none⟩ v b (by show b ≠ g; omega)).trans h.cell, fun k hk hkb => (Below.heap_setCell W ⟨g, j, none⟩ v k (by show k ≠ g; omega)).trans (h.keep k hk hkb)⟩
theorem Rd.drewN {b : Nat} {w W : World} {s : ByteArray} (h : Rd b w W s) (n : Nat) : Rd b w (W.drewN n) s := h.then ⟨rfl, rfl, rfl, Nat.le_refl _, fun _ _ => rfl⟩
def thr (c : Int) : List PanicEntry := [{ v := .iface 27 (.int .i64 c), recovered := false }]
def RdPost {α : Type} (b : Nat) (w : World) (enc : α → Value) (r : Except Int (α × ByteArray)) : Ending → World → Prop := fun e w' =>
  match r with
  | .ok (v, s') => e = .returned (enc v) ∧ Rd b w w' s'
  | .error c => e = .panicked (thr c) ∧ ∃ s', Rd b w w' s'
def rdCut (s : ByteArray) (n : Nat) : Except Int (ByteArray × ByteArray) := if n ≤ s.size then .ok (s.extract 0 n, s.extract n s.size) else .error 101
theorem elf_must.calls (ok : Bool) (c : Int) (w : World) :
    Calls Try.prog 19 #[.bool ok, .int .i64 c] w fun e w' => e = (if ok then .returned (.tuple #[]) else .panicked (thr c)) ∧ w' = w := by
  cases ok
  · go_enter Try.func19, Try.ntmps19
    go_wp2
    exact ⟨rfl, rfl, rfl⟩
  · go_enter Try.func19, Try.ntmps19
    go_wp2
    go_end0
    exact ⟨rfl, rfl⟩
set_option maxHeartbeats 4000000 in
set_option maxRecDepth 100000 in
theorem rest_cut.calls (b n : Nat) (s : ByteArray) (w : World) (hc : w.heap[b]? = some (rblk s)) (hn : n < 1000000) (hs : s.size < 9223372036854775807) :
    Calls Try.prog 20 #[.pointer (some ⟨b, 0, none⟩), .int .i64 (n : Int)] w (RdPost b w Value.string (rdCut s n)) := by
  have c0 := eblk_cell (j := 0) (v := .string s) hc rfl
  have f0 := eblk_free (j := 0) hc
  unfold rdCut
  by_cases h : n ≤ s.size
  · rw [if_pos h]
    have h1 : (((s.size : Nat) : Int) < (n : Int)) = False := eq_false (by omega)
    have p1 : ((0 : Int) ≤ (n : Int)) = True := eq_true (by omega)
    have p2 : ((n : Int) ≤ ((s.size : Nat) : Int)) = True := eq_true (by omega)
    go_enter Try.func20, Try.ntmps20
    go_wp2
    go_ret
    exact ⟨rfl, Rd.set hc _⟩
  · rw [if_neg h]
    have h1 : (((s.size : Nat) : Int) < (n : Int)) = True := eq_true (by omega)
    go_enter Try.func20, Try.ntmps20
    go_wp2
    exact ⟨rfl, rfl, s, Rd.refl hc⟩
end Go.Proofs.Ytonoabknmmecnaa.F
end
section
namespace Go.Proofs.Ytonoabknmmecnaa.F
open Go.RowKit Go.Shelf Go.Proofs.YtonoabknmmecnaaW.PrintWords Go.Proofs.YtonoabknmmecnaaW.PrintLast Go.Proofs.YtonoabknmmecnaaW.PrintMore
set_option linter.unusedVariables false
set_option linter.unusedSimpArgs false
def rdNum (n : Nat) (s : ByteArray) : Except Int (Int × ByteArray) := match rdCut s n with | .ok (t, s') => .ok (beOf (bys t false) % 4294967296, s') | .error c => .error c
theorem rdCut_size {s : ByteArray} {n : Nat} {t s' : ByteArray} (h : rdCut s n = .ok (t, s')) : t.size = n ∧ s'.size ≤ s.size := by
  unfold rdCut at h
  split at h
  · rename_i hn
    obtain ⟨rfl, rfl⟩ := Prod.mk.inj (Except.ok.inj h)
    simp
    omega
  · cases h
theorem rdNum_size {s : ByteArray} {n : Nat} {v : Int} {s' : ByteArray} (h : rdNum n s = .ok (v, s')) : s'.size ≤ s.size := by
  unfold rdNum at h
  split at h
  · rename_i hc
    obtain ⟨rfl, rfl⟩ := Prod.mk.inj (Except.ok.inj h)
    exact (rdCut_size hc).2
  · cases h
theorem be_some (t : ByteArray) (h : t.size ≤ 8) : swap_Be.f t = some (beOf (bys t false)) := by
  unfold swap_Be.f swap_number.f
  rw [if_neg (by omega), Option.bind_some]
set_option maxHeartbeats 4000000 in
set_option maxRecDepth 100000 in
theorem reader_word.calls (b : Nat) (s : ByteArray) (w : World) (hc : w.heap[b]? = some (rblk s)) (hs : s.size < 9223372036854775807) :
    Calls Try.prog 36 #[.pointer (some ⟨b, 0, none⟩)] w (RdPost b w (Value.int .u32) (rdNum 4 s)) := by
  have CT := rest_cut.calls b 4 s w hc (by decide) hs
  have c0 := eblk_cell (j := 0) (v := .string s) hc rfl
  unfold rdNum
  cases hcut : rdCut s 4 with
  | error c =>
    rw [hcut] at CT
    go_enter Try.func36, Try.ntmps36
    go_wp2_with (fail)
    refine CT.mono ?_
    rintro e w1 ⟨rfl, s', R1⟩
    exact ⟨rfl, rfl, s', R1⟩
  | ok p =>
    obtain ⟨t, s'⟩ := p
    rw [hcut] at CT
    have BE := Lib.hid (fun w => swap_Be.calls t _ w (be_some t (by have := (rdCut_size hcut).1; omega)))
    go_enter Try.func36, Try.ntmps36
    go_wp2_with (fail)
    refine CT.mono ?_
    rintro e w1 ⟨rfl, R1⟩
    go_wp2_with (go_at_call 46; refine (BE.out _).mono ?_; rintro e w2 ⟨rfl, hb⟩)
    go_ret
    exact ⟨rfl, R1.then hb⟩
set_option maxHeartbeats 4000000 in
set_option maxRecDepth 100000 in
theorem reader_half.calls (b : Nat) (s : ByteArray) (w : World) (hc : w.heap[b]? = some (rblk s)) (hs : s.size < 9223372036854775807) :
    Calls Try.prog 38 #[.pointer (some ⟨b, 0, none⟩)] w (RdPost b w (Value.int .u32) (rdNum 2 s)) := by
  have CT := rest_cut.calls b 2 s w hc (by decide) hs
  have c0 := eblk_cell (j := 0) (v := .string s) hc rfl
  unfold rdNum
  cases hcut : rdCut s 2 with
  | error c =>
    rw [hcut] at CT
    go_enter Try.func38, Try.ntmps38
    go_wp2_with (fail)
    refine CT.mono ?_
    rintro e w1 ⟨rfl, s', R1⟩
    exact ⟨rfl, rfl, s', R1⟩
  | ok p =>
    obtain ⟨t, s'⟩ := p
    rw [hcut] at CT
    have BE := Lib.hid (fun w => swap_Be.calls t _ w (be_some t (by have := (rdCut_size hcut).1; omega)))
    go_enter Try.func38, Try.ntmps38
    go_wp2_with (fail)
    refine CT.mono ?_
    rintro e w1 ⟨rfl, R1⟩
    go_wp2_with (go_at_call 46; refine (BE.out _).mono ?_; rintro e w2 ⟨rfl, hb⟩)
    go_ret
    exact ⟨rfl, R1.then hb⟩
def rdIs : List Int → ByteArray → Except Int (Unit × ByteArray)
  | [], s => .ok ((), s)
  | v :: l, s => match rdNum 4 s with | .error c => .error c | .ok (x, s') => if x = v then rdIs l s' else .error 103
theorem rdIs_cons (v : Int) (l : List Int) (s : ByteArray) : rdIs (v :: l) s = match rdNum 4 s with | .error c => .error c | .ok (x, s') => if x = v then rdIs l s' else .error 103 := rfl
theorem row_read {W : World} {g : Nat} {l : List Int} (h : W.heap[g]? = some (.cells (l.map (Value.int .u32)).toArray 22 (0, 0))) (hl : l.length < 1000000) : Kd.C (Kd.int .u32) W (some ⟨g, 0, none⟩) l.length l := by
  refine ⟨rfl, by omega, fun _ => ⟨_, rfl, fun j p hj => ⟨[.int .u32 p], rfl, rfl, fun i u hu => ?_⟩⟩⟩
  have hi : i = 0 ∧ u = .int .u32 p := by
    rcases i with _ | i
    · exact ⟨rfl, by simpa using hu.symm⟩
    · simp at hu
  obtain ⟨rfl, rfl⟩ := hi
  have e : Addr.add ⟨g, 0, none⟩ (j * 1 + 0) = ⟨g, j, none⟩ := by
    unfold Addr.add
    rcases Nat.eq_zero_or_pos j with h0 | h0
    · subst h0
      simp
    · rw [if_neg (by omega)]
      simp
  show W.cell? (Addr.add ⟨g, 0, none⟩ (j * 1 + 0)) = _
  rw [e]
  unfold World.cell?
  rw [show W.heap[(Addr.mk g j none).block]? = _ from h]
  simp [hj]
set_option maxHeartbeats 4000000 in
set_option maxRecDepth 100000 in
theorem reader_is.calls (b g : Nat) (l : List Int) (s : ByteArray) (w : World) (hc : w.heap[b]? = some (rblk s)) (hg : w.heap[g]? = some (.cells (l.map (Value.int .u32)).toArray 22 (0, 0))) (hgb : g ≠ b) (hl : l.length < 1000000) (hs : s.size < 9223372036854775807) :
    Calls Try.prog 37 #[.pointer (some ⟨b, 0, none⟩), .slice (some ⟨g, 0, none⟩) l.length l.length] w (RdPost b w (fun _ : Unit => .tuple #[]) (rdIs l s)) := by
  have HC := Lib.hid hc
  have HG := Lib.hid hg
  have hglt := eblk_lt hg
  have RR := Lib.hid (fun (W : World) (h : W.heap[g]? = some (.cells (l.map (Value.int .u32)).toArray 22 (0, 0))) => row_read h hl)
  clear hc hg
  generalize (⟨g, 0, none⟩ : Addr) = G at RR ⊢
  go_enter Try.func37, Try.ntmps37
  go_wp2
  go_loopw [8] (fun t wr => ∃ (k : Nat) (s1 : ByteArray), t = .int .i64 k ∧ k ≤ l.length ∧ rdIs (l.drop k) s1 = rdIs l s ∧ s1.size ≤ s.size ∧ Rd b w wr s1) (fun t _ => l.length - (intOf t).toNat)
  case atStart => exact ⟨0, s, rfl, Nat.zero_le _, rfl, Nat.le_refl _, Rd.refl HC.out⟩
  case round =>
    obtain ⟨k, s1, rfl, hk, hrd, hs1, hR⟩ := hrel
    by_cases hlt : k < l.length
    · have hgr : wr.heap[g]? = some (.cells (l.map (Value.int .u32)).toArray 22 (0, 0)) := (hR.keep g hglt hgb).trans HG.out
      obtain ⟨ad, had, c0⟩ := Kd.at_int (RR.out _ hgr) (k : Int) (by omega) (by omega)
      obtain rfl := Option.some.inj had
      have hx : rd l (k : Int) = l[k] := by
        unfold rd
        simp [hlt]
      rw [hx, Int.toNat_natCast] at c0
      have W1 := reader_word.calls b s1 wr hR.cell (by omega)
      rw [List.drop_eq_getElem_cons hlt] at hrd
      rw [rdIs_cons] at hrd
      cases hnum : rdNum 4 s1 with
      | error c =>
        rw [hnum] at W1 hrd
        dsimp only at hrd
        have hrd' := Lib.hid hrd
        clear hrd hgr hx
        go_wp2_with (fail)
        refine W1.mono ?_
        rintro e w1 ⟨rfl, s2, R1⟩
        refine ⟨rfl, ?_⟩
        rw [← hrd'.out]
        exact ⟨rfl, s2, hR.trans R1⟩
      | ok p =>
        obtain ⟨x, s2⟩ := p
        rw [hnum] at W1 hrd
        dsimp only at hrd
        have hsz := rdNum_size hnum
        have MU := Lib.hid (fun ok w => elf_must.calls ok 103 w)
        by_cases hxv : x = l[k]
        · rw [if_pos hxv] at hrd
          have hrd' := Lib.hid hrd
          have hb : (x == l[k]) = true := beq_iff_eq.2 hxv
          clear hrd hgr hx hxv
          go_wp2_with (fail)
          refine W1.mono ?_
          rintro e w1 ⟨rfl, R1⟩
          go_wp2_with (fail)
          refine (MU.out _ _).mono ?_
          rintro e w2 ⟨rfl, rfl⟩
          go_wp2
          refine ⟨⟨k + 1, s2, by go_num, hlt, hrd'.out, by omega, hR.trans R1⟩, by simp [intOf]; omega⟩
        · rw [if_neg hxv] at hrd
          have hrd' := Lib.hid hrd
          have hb : (x == l[k]) = false := beq_eq_false_iff_ne.2 hxv
          clear hrd hgr hx hxv
          go_wp2_with (fail)
          refine W1.mono ?_
          rintro e w1 ⟨rfl, R1⟩
          go_wp2_with (fail)
          refine (MU.out _ _).mono ?_
          rintro e w2 ⟨rfl, rfl⟩
          refine ⟨rfl, ?_⟩
          rw [← hrd'.out]
          exact ⟨rfl, s2, hR.trans R1⟩
    · have e4 : k = l.length := by omega
      subst e4
      rw [List.drop_length] at hrd
      have hrd' := Lib.hid hrd
      clear hrd
      go_wp2
      go_end0
      show RdPost b w (fun _ : Unit => .tuple #[]) (rdIs l s) _ _
      rw [← hrd'.out]
      exact ⟨rfl, hR⟩
end Go.Proofs.Ytonoabknmmecnaa.F
end
