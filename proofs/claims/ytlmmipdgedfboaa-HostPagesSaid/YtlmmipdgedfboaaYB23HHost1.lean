import Derived.Below
import Derived.Deep.Draws
import Derived.Deep.AppendLies
import Derived.Maps.AppendAt
import Derived.OwnWalk
import Derived.Laws.BytesArg
import Derived.Laws.MakeOwn
import Derived.Laws.OwnMore
import Derived.Deep.OwnRows
import Derived.Tactics
import Derived.Lib.ConvBytes
import Derived.Laws.Slices
import Derived.WalkKit
import Derived.KernelRfl
import Derived.RowKit3
import Derived.Deep.LoopGhost
import Derived.Deep.QuietTactic
import Derived.BigQuiet
import Derived.WideLaws
import Derived.Deep.DeepCutAuto
import Derived.Deep.CutBlock
import Derived.Deep.RegionHeld3
import Derived.Laws.Rows
import Derived.Lib.AppendStr
import Derived.ArgAppend
import Derived.Laws.IdiomCopy
import Derived.RowKit
import Derived.OrdersHeld
import Derived.Laws.BitsLemmas
import Derived.Laws.StructEq
import Derived.OwnWalkIn
import Derived.ProofKit
import Derived.Lib.Hide
import Derived.Shelf.RegionOpen
import Derived.Shelf.Abstract
import Derived.Lib.SliceRun
import Derived.Test.YtlmmipdgedfboaaZF0
import Derived.Test.YtlmmipdgedfboaaYA1Slc
import Derived.Test.YtlmmipdgedfboaaYA4HHost1
section
namespace Go.Proofs.Ytlmmipdgedfboaa.F
open Go.RowKit Go.Shelf Go.Proofs.YtlmmipdgedfboaaW.PrintWords Go.Proofs.YtlmmipdgedfboaaW.PrintLast Go.Proofs.YtlmmipdgedfboaaW.PrintMore
set_option linter.unusedVariables false
set_option linter.unusedSimpArgs false
theorem mp_keep_snoc (p : S53 → Bool) (l : List S53) {j : Nat} (hj : j < l.length) : (l.take (j + 1)).filter (fun x => !p x) = (l.take j).filter (fun x => !p x) ++ (if p l[j] then [] else [l[j]]) := by
  rw [List.take_succ_eq_append_getElem hj, List.filter_append]
  simp only [List.filter_cons, List.filter_nil]
  cases p l[j] <;> rfl
set_option maxHeartbeats 8000000 in
set_option maxRecDepth 100000 in
theorem mp_delf.calls (p : S53 → Bool) (pf : Nat) (cp : Array Value) (eg : ∀ args w, (callFunc pf args).run Try.prog w = .ok (.enter pf args) w) (g cap : Nat) (l : List S53) (w : World) (ho : OwnB mpE 53 w g cap l) (hl : l.length ≤ 1000000)
    (HP : ∀ (x : S53) (W : World), w.grownBy W (some g) → Calls Try.prog pf (#[.agg #[.int .u64 x.f0, .int .i64 x.f1]] ++ cp) W fun e w' => e = .returned (.bool (p x)) ∧ Below W.heap.size W w') :
    Calls Try.prog 33 #[.slice (some ⟨g, 0, none⟩) l.length cap, .func (.func pf) #[] cp] w fun ex w' => ex = .returned (.slice (some ⟨g, 0, none⟩) (l.filter (fun x => !p x)).length cap) ∧ OwnB mpE 53 w' g cap (l.filter (fun x => !p x)) ∧ w.grownBy w' (some g) := by
  have IX := Lib.hid (mp_idx.calls p pf cp eg (some ⟨g, 0, none⟩) cap l w (mp_C ho) ho.len_le hl (fun x W hb => HP x W (grown_of_below hb)))
  have HE := Lib.hid HP
  have HO := Lib.hid ho
  have hlc := ho.len_le
  have hcm := ho.cap_le
  clear HP ho
  rcases sIdx_cases p l with ⟨h1, h2⟩ | ⟨k0, hk0, h1, h2, h3⟩
  · rw [h1] at IX
    have ef : l.filter (fun x => !p x) = l := List.filter_eq_self.2 (fun x hx => by rw [h2 x hx]; rfl)
    rw [ef]
    clear h1 h2 ef
    go_enter Try.func33, Try.ntmps33
    go_wp2_with (go_at_call 63; (with_reducible refine IX.out.mono ?_); rintro e w1 ⟨rfl, hb⟩)
    go_ret
    exact ⟨rfl, HO.out.below hb, grown_of_below hb⟩
  · rw [h1] at IX
    have e0 : (l.take k0).filter (fun x => !p x) = l.take k0 := List.filter_eq_self.2 (fun x hx => by rw [h3 x hx]; rfl)
    have e1 : (l.take (k0 + 1)).filter (fun x => !p x) = l.take k0 := by
      rw [mp_keep_snoc p l hk0, h2, e0]
      simp
    have E1 := Lib.hid e1
    have hne1 : ((k0 : Int) == -1) = false := beq_eq_false_iff_ne.2 (by omega)
    clear h1 h2 h3 e0 e1
    go_enter Try.func33, Try.ntmps33
    go_wp2_with (go_at_call 63; (with_reducible refine IX.out.mono ?_); rintro e w1 ⟨rfl, hb⟩; have HB1 := Lib.hid hb; clear hb)
    go_loopw [5, 6, 7] (fun t5 t6 t7 wr => ∃ (i j : Nat) (m : List S53), t5 = .int .i64 i ∧ t6 = .int .i64 j ∧ i < j ∧ j ≤ l.length ∧ Hid (m.length = l.length ∧ m.take i = (l.take j).filter (fun x => !p x) ∧ m.drop j = l.drop j) ∧ Hid (OwnB mpE 53 wr g cap m) ∧ Hid (w.grownBy wr (some g))) (fun _ t6 _ _ => l.length - (intOf t6).toNat)
    case atStart => exact ⟨k0, k0 + 1, l, rfl, by go_num, by omega, by omega, Lib.hid ⟨rfl, E1.out.symm, rfl⟩, Lib.hid (HO.out.below HB1.out), Lib.hid (grown_of_below HB1.out)⟩
    case round =>
      obtain ⟨i, j, m, rfl, rfl, hij, hjl, I, O, G⟩ := hrel
      have hml := I.out.1
      have ML := Lib.hid hml
      by_cases hlt : j < l.length
      · have hjm : j < m.length := by omega
        have c0 := O.out.cell mpE_2 hjm (j := 0) (by omega)
        have c1 := O.out.cell mpE_2 hjm (j := 1) (by omega)
        have ex : m[j] = l[j] := by
          have := I.out.2.2
          rw [List.drop_eq_getElem_cons hjm, List.drop_eq_getElem_cons hlt] at this
          exact (List.cons.inj this).1
        have KS := Lib.hid (mp_keep_snoc p l hlt)
        rw [ex] at c0 c1
        have HX := Lib.hid (HE.out l[j])
        generalize l[j] = x at c0 c1 HX KS
        simp only [mpE, List.getElem?_cons_zero, List.getElem?_cons_succ, Nat.add_zero] at c0 c1
        clear hml ex
        have hu := Try.underlying53
        go_wp2_with (fail)
        have B0 : Below wr.heap.size wr (wr.alloc (.cells #[.int .u64 x.f0, .int .i64 x.f1] 53)) := (Below.refl _ wr).alloc (Nat.le_refl _) _
        have hN := blk_new wr (.cells #[.int .u64 x.f0, .int .i64 x.f1] 53)
        refine (HX.out _ (grown_trans G.out (grown_of_below B0))).mono ?_
        rintro ex w2 ⟨rfl, hb2⟩
        have O2 := Lib.hid ((O.out.below B0).below hb2)
        have hN2 := (hb2.block _ (sblk_lt hN)).trans hN
        have G2 := Lib.hid (grown_trans G.out (grown_trans (grown_of_below B0) (grown_of_below hb2)))
        cases hq : p x
        · rw [hq] at KS
          have d0 : w2.cell? ⟨wr.heap.size, 0, none⟩ = some (.int .u64 x.f0) := (sblk_cell hN2 0).trans rfl
          have d1 : w2.cell? ⟨wr.heap.size, 1, none⟩ = some (.int .i64 x.f1) := (sblk_cell hN2 1).trans rfl
          have e0 := O2.out.cell mpE_2 (show i < m.length by have := ML.out; omega) (j := 0) (by omega)
          have e1 := O2.out.cell mpE_2 (show i < m.length by have := ML.out; omega) (j := 1) (by omega)
          have z0 := O2.out.free (i * 2)
          have z1 := O2.out.free (i * 2 + 1)
          generalize m[i]'(by have := ML.out; omega) = y at e0 e1
          simp only [mpE, List.getElem?_cons_zero, List.getElem?_cons_succ, Nat.add_zero] at e0 e1
          clear hb2 hN hN2 B0 c0 c1 hq
          go_wp2
          have hmi : m.take i = (l.take j).filter (fun x => !p x) := I.out.2.1
          have hil : i ≤ m.length := by have := ML.out; omega
          refine ⟨⟨i + 1, j + 1, m.take i ++ [x] ++ m.drop (i + 1), by go_num, by go_num, by omega, by omega, Lib.hid ⟨?_, ?_, ?_⟩, Lib.hid (O2.out.put mpE_2 i [x] hil (by have := ML.out; simp; omega)), Lib.hid (grown_trans G2.out (grown_setCells (i * 2) ([x].flatMap mpE)))⟩, by simp [intOf]; omega⟩
          · have := ML.out
            rw [List.length_append, List.length_append, List.length_take, List.length_drop, List.length_singleton]
            omega
          · rw [KS.out, ← hmi, List.take_left' (by rw [List.length_append, List.length_take, List.length_singleton]; omega)]
            simp
          · have hd := congrArg (List.drop 1) I.out.2.2
            rw [List.drop_drop, List.drop_drop] at hd
            rw [← hd, List.drop_append, List.drop_eq_nil_of_le (by rw [List.length_append, List.length_take, List.length_singleton]; omega), List.nil_append, List.drop_drop]
            congr 1
            rw [List.length_append, List.length_take, List.length_singleton]
            omega
        · rw [hq] at KS
          clear hb2 hN hN2 B0 c0 c1 hq
          go_wp2
          refine ⟨⟨i, j + 1, m, rfl, by go_num, by omega, by omega, Lib.hid ⟨ML.out, ?_, ?_⟩, O2, G2⟩, by simp [intOf]; omega⟩
          · rw [KS.out, I.out.2.1]
            simp
          · have hd := congrArg (List.drop 1) I.out.2.2
            rwa [List.drop_drop, List.drop_drop] at hd
      · obtain rfl : j = l.length := by omega
        have hi1 : (i : Int) ≤ (l.length : Int) := by omega
        have hci : ¬ (cap = i) := by omega
        have hz : ∀ w, (zeroValue 53).run Try.prog w = .ok (.agg #[(.int .u64 0), (.int .i64 0)]) w := fun w => by kernel_rfl
        have hzl : (Builtin.zeroCells (.agg #[(.int .u64 0), (.int .i64 0)] : Value).cells (l.length - i)).toList.length = (l.length - i) * 2 := by simp [Builtin.zeroCells, Value.cells]
        have hcl : ∀ ty c, (Builtin.clear_ #[22] ty #[.slice (some ⟨g, i * 2, none⟩) (l.length - i) c]).run Try.prog wr = .ok (.tuple #[]) (wr.setCells g (i * 2) (Builtin.zeroCells (.agg #[(.int .u64 0), (.int .i64 0)] : Value).cells (l.length - i)).toList) := fun ty c =>
          run_clear_own wr _ _ ty _ _ Try.underlying22 hz g (i * 2) _ _ (by omega) rfl (fun q hq => O.out.there (by omega)) (fun q _ => O.out.free _) (by
            intro v hv
            simp only [Builtin.zeroCells, Value.cells] at hv
            simp at hv
            obtain ⟨q, _, rfl⟩ := hv
            rcases (show q % 2 = 0 ∨ q % 2 = 1 by omega) with h | h
            · rw [h]; rfl
            · rw [h]; rfl)
        have ID := Lib.hid I
        clear hml
        go_wp2
        go_ret
        have hef : l.filter (fun x => !p x) = m.take i := by rw [ID.out.2.1, List.take_length]
        have hlen : (m.take i).length = i := by rw [List.length_take, ID.out.1]; omega
        rw [hef]
        refine ⟨?_, ?_, grown_trans G.out (grown_setCells _ _)⟩
        · rw [hlen]
          rfl
        · exact (O.out.take mpE_2 i).behind mpE_2 (i * 2) _ (by rw [hlen]; omega) (by show i * 2 + (Builtin.zeroCells (.agg #[(.int .u64 0), (.int .i64 0)] : Value).cells (l.length - i)).toList.length ≤ cap * 2; rw [hzl]; omega)
set_option maxHeartbeats 4000000 in
theorem cl_any.calls (p : S55 → Bool) (pf : Nat) (cp : Array Value) (eg : ∀ args w, (callFunc pf args).run Try.prog w = .ok (.enter pf args) w) (A : Option Addr) (c : Nat) (l : List S55) (w : World) (hr : Kd.C k55 w A l.length l) (hc : l.length ≤ c) (hl : l.length ≤ 1000000)
    (HP : ∀ (x : S55) (W : World), Below w.heap.size w W → Calls Try.prog pf (#[.agg #[.int .u64 x.f0, .int .u64 x.f1]] ++ cp) W fun e w' => e = .returned (.bool (p x)) ∧ Below W.heap.size W w') :
    Calls Try.prog 53 #[.slice A l.length c, .func (.func pf) #[] cp] w fun ex w' => ex = .returned (.bool (l.any p)) ∧ Below w.heap.size w w' := by
  have IX := Lib.hid (cl_idx.calls p pf cp eg A c l w hr hc hl HP)
  rw [← sIdx_any]
  clear HP hr
  generalize sIdx p l = q at IX ⊢
  go_enter Try.func53, Try.ntmps53
  go_wp2_with (go_at_call 64; (with_reducible refine IX.out.mono ?_); rintro e w1 ⟨rfl, hb⟩)
  go_ret
  exact ⟨rfl, hb⟩
end Go.Proofs.Ytlmmipdgedfboaa.F
end
