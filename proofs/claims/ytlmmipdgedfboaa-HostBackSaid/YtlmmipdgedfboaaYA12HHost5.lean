import Derived.Below
import Derived.Deep.Draws
import Derived.Deep.AppendLies
import Derived.Maps.AppendAt
import Derived.OwnWalk
import Derived.Laws.BytesArg
import Derived.Laws.MakeOwn
import Derived.Laws.OwnMore
import Derived.Deep.OwnRows
import Derived.Tactics
import Derived.Lib.ConvBytes
import Derived.Laws.Slices
import Derived.WalkKit
import Derived.KernelRfl
import Derived.RowKit3
import Derived.Deep.LoopGhost
import Derived.Deep.QuietTactic
import Derived.BigQuiet
import Derived.WideLaws
import Derived.Deep.DeepCutAuto
import Derived.Deep.CutBlock
import Derived.Deep.RegionHeld3
import Derived.Laws.Rows
import Derived.Lib.AppendStr
import Derived.ArgAppend
import Derived.Laws.IdiomCopy
import Derived.RowKit
import Derived.OrdersHeld
import Derived.Laws.BitsLemmas
import Derived.Laws.StructEq
import Derived.OwnWalkIn
import Derived.WalkSmall
import Derived.Laws.ResultCell
import Derived.ProofKit
import Derived.Lib.Hide
import Derived.Shelf.RegionOpen
import Derived.Shelf.Abstract
import Derived.Lib.SliceRun
import Derived.Shelf.Spec.SlicesInsertGrow
import Derived.Test.YtlmmipdgedfboaaZF0
import Derived.Test.YtlmmipdgedfboaaYA0
import Derived.Test.YtlmmipdgedfboaaYA1HHost0
import Derived.Test.YtlmmipdgedfboaaYA7Slc
import Derived.Test.YtlmmipdgedfboaaYA8HHost1
import Derived.Test.YtlmmipdgedfboaaYA9HHost2
import Derived.Test.YtlmmipdgedfboaaYA10
section
namespace Go.Proofs.Ytlmmipdgedfboaa.F
open Go.RowKit Go.Shelf Go.Proofs.YtlmmipdgedfboaaW.PrintWords Go.Proofs.YtlmmipdgedfboaaW.PrintLast Go.Proofs.YtlmmipdgedfboaaW.PrintMore
set_option linter.unusedVariables false
set_option linter.unusedSimpArgs false
def setL (a u : Int) (l : List S55) : List S55 :=
  if has clK a l = true then (if u = 0 then l.eraseIdx (lowB clK a l) else l.set (lowB clK a l) ⟨a, u⟩) else if u = 0 then l else l.take (lowB clK a l) ++ [⟨a, u⟩] ++ l.drop (lowB clK a l)
theorem cl_set1 {w : World} {g cap : Nat} {l : List S55} (h : OwnB clE 55 w g cap l) {i : Nat} (hi : i < l.length) (u : Int) : OwnB clE 55 (w.setCell ⟨g, i * 2 + 1, none⟩ (.int .u64 u)) g cap (l.set i ⟨l[i].f0, u⟩) := by
  have hp := h.put clE_2 i [(⟨l[i].f0, u⟩ : S55)] (by omega) (by have := h.len_le; simp; omega)
  have hc := h.cell clE_2 hi (j := 0) (by omega)
  obtain ⟨cur, h0, h1, h5, h3, h4⟩ := h
  obtain ⟨cur', a0, a1, a2⟩ := setCells_row [Value.int .u64 u] (i * 2 + 1) w cur h0 (by simp; omega)
  obtain ⟨cur2, b0, b1, b2⟩ := setCells_row [Value.int .u64 l[i].f0, Value.int .u64 u] (i * 2) w cur h0 (by simp; omega)
  have hcl : cur.toList.length = cap * 2 := by rw [Array.length_toList, h1]
  have hx : cur.toList[i * 2]'(by omega) = .int .u64 l[i].f0 := by
    rw [sblk_cell h0, Nat.add_zero, ← Array.getElem?_toList, List.getElem?_eq_getElem (by omega)] at hc
    exact Option.some.inj hc
  have he : cur' = cur2 := by
    apply Array.toList_inj.1
    rw [a2, b2, List.take_succ_eq_append_getElem (by omega), hx]
    simp
  have hl : l.set i ⟨l[i].f0, u⟩ = l.take i ++ [(⟨l[i].f0, u⟩ : S55)] ++ l.drop (i + [(⟨l[i].f0, u⟩ : S55)].length) := by
    rw [List.set_eq_take_append_cons_drop, if_pos hi]
    simp
  rw [hl]
  exact hp.move (a0.trans (by rw [he]; exact b0.symm))
set_option maxHeartbeats 8000000 in
set_option maxRecDepth 100000 in
theorem host_set.calls (B : Nat) (ok : Nat → Prop) (v : Value) (l : List S55) (a u : Int) (w : World) (hR : Kd.R k55 55 w B ok v l) (hB : B ≤ w.heap.size) (hl : l.length ≤ 1000000) (hs : Rises clK l) :
    Calls Try.prog 29 #[v, .int .u64 a, .int .u64 u] w fun e w' => ∃ v', e = .returned v' ∧ Kd.R k55 55 w' B (fun _ => True) v' (setL a u l) ∧ Below B w w' := by
  obtain ⟨A, c, rfl, hlc, hC⟩ := Kd.R_reads hR
  have PL := Lib.hid (cl_place.calls 59 set_key.calls (fun _ _ => rfl) A c l a w hC hlc hl hs)
  have hlo := lowB_le clK a l
  have hh := has_lowB clK (k := a) hs
  have RR := Lib.hid hR
  have HBB := Lib.hid hB
  unfold setL
  clear hR hs hC hB
  cases hhas : has clK a l
  · rw [hhas] at PL
    rw [if_neg (by simp)]
    clear hh hhas
    generalize lowB clK a l = i at PL hlo ⊢
    by_cases hu : u = 0
    · subst hu
      rw [if_pos rfl]
      go_enter Try.func29, Try.ntmps29
      go_wp2_with (go_at_call 58; (with_reducible refine PL.out.mono ?_); rintro e w1 ⟨rfl, hb⟩)
      go_ret
      exact ⟨_, rfl, Kd.R_mono (Kd.R_below RR.out hb) (fun _ _ => trivial), hb.mono HBB.out⟩
    · rw [if_neg hu]
      have hu2 : (u == 0) = false := beq_eq_false_iff_ne.2 hu
      go_enter Try.func29, Try.ntmps29
      go_wp2_with (go_at_call 58; (with_reducible refine PL.out.mono ?_); rintro e w1 ⟨rfl, hb⟩; have R1 := Lib.hid (Kd.R_below RR.out hb); have B1 := Lib.hid hb; clear hb)
      have B2 : Below w1.heap.size w1 (w1.alloc (.cells #[.int .u64 a, .int .u64 u] 55)) := (Below.refl _ w1).alloc (Nat.le_refl _) _
      have OV : OwnB clE 55 (w1.alloc (.cells #[.int .u64 a, .int .u64 u] 55)) w1.heap.size 1 [⟨a, u⟩] := ⟨_, blk_new w1 _, rfl, by omega, by simp, rfl⟩
      have hs1 : (w1.alloc (.cells #[.int .u64 a, .int .u64 u] 55)).heap.size = w1.heap.size + 1 := World.size_alloc _ _
      rcases cl_own R1.out with ⟨hv, hn⟩ | ⟨g, cap, hv, hg, ho⟩
      · subst hn
        obtain rfl : i = 0 := by simpa using hlo
        injection hv with hA _ hcc
        subst hA; subst hcc
        refine (cl_ins_nil.calls w1.heap.size 1 [⟨a, u⟩] _ OV (by simp) (by simp)).mono ?_
        rintro e w2 ⟨g', cap', rfl, h1, h2, h3⟩
        have O2 := Lib.hid h1
        have G2 := Lib.hid (show B ≤ g' by have := B1.out.size; have := HBB.out; omega)
        have B3 := Lib.hid ((B1.out.mono HBB.out).trans ((B2.mono (Nat.le_trans HBB.out B1.out.size)).trans (h3.mono (by have := B1.out.size; have := HBB.out; omega))))
        clear h1 h2 h3 OV B2 hs1
        go_wp2
        go_ret
        exact ⟨_, rfl, cl_R O2.out G2.out, B3.out⟩
      · injection hv with hA _ hcc
        subst hA; subst hcc
        refine (cl_ins.calls g c w1.heap.size 1 i l [⟨a, u⟩] _ (ho.below B2) OV (by have := ho.lt; omega) hl (by simp) (by simp) hlo).mono ?_
        rintro e w2 ⟨g', cap', rfl, h1, h2, h3⟩
        have O2 := Lib.hid h1
        have G2 := Lib.hid (show B ≤ g' by have := B1.out.size; have := HBB.out; rcases h2 with h | h <;> omega)
        have B3 := Lib.hid ((B1.out.mono HBB.out).trans ((B2.mono (Nat.le_trans HBB.out B1.out.size)).trans (below_of_grown (Below.refl _ _) h3 hg (by have := B1.out.size; have := HBB.out; omega))))
        have L2 := Lib.hid (show (l.take i ++ [(⟨a, u⟩ : S55)] ++ l.drop i).length = l.length + [(⟨a, u⟩ : S55)].length by rw [List.length_append, List.length_append, List.length_take, List.length_drop]; omega)
        clear h1 h2 h3 OV B2 hs1 ho hg
        go_wp2
        go_ret
        have hRR := cl_R O2.out G2.out
        rw [L2.out] at hRR
        exact ⟨_, rfl, hRR, B3.out⟩
  · rw [hhas] at PL hh
    rw [if_pos rfl]
    clear hhas
    generalize lowB clK a l = i at PL hlo hh ⊢
    have hi : i < l.length := by
      rcases Nat.lt_or_ge i l.length with h | h
      · exact h
      · rw [List.getElem?_eq_none h] at hh
        cases hh
    rw [List.getElem?_eq_getElem hi] at hh
    have hx : l[i].f0 = a := of_decide_eq_true hh.symm
    clear hh
    rcases cl_own RR.out with ⟨_, h5⟩ | ⟨g, cap, hv, hg, ho⟩
    · subst h5
      simp at hi
    injection hv with hA _ hcc
    subst hA; subst hcc
    have HO := Lib.hid ho
    have HG := Lib.hid hg
    have HX := Lib.hid hx
    clear ho hg hx
    by_cases hu : u = 0
    · subst hu
      rw [if_pos rfl]
      go_enter Try.func29, Try.ntmps29
      go_wp2_with (go_at_call 58; (with_reducible refine PL.out.mono ?_); rintro e w1 ⟨rfl, hb⟩; have O1 := Lib.hid (HO.out.below hb); have B1 := Lib.hid hb; clear hb)
      have hd := cl_del.calls g c i (i + 1) l w1 O1.out hl hi rfl
      rw [show ((i + 1 : Nat) : Int) = (i : Int) + 1 from rfl] at hd
      refine hd.mono ?_
      clear hd
      rintro e w2 ⟨rfl, h1, h2⟩
      have O2 := Lib.hid h1
      have B2 := Lib.hid (below_of_grown (B1.out.mono HBB.out) h2 HG.out (Nat.le_trans HBB.out B1.out.size))
      have L2 := Lib.hid (show (l.eraseIdx i).length = l.length - 1 from List.length_eraseIdx_of_lt hi)
      clear h1 h2
      go_wp2
      go_ret
      have hRR := cl_R O2.out HG.out
      rw [L2.out] at hRR
      exact ⟨_, rfl, hRR, B2.out⟩
    · rw [if_neg hu]
      have hu2 : (u == 0) = false := beq_eq_false_iff_ne.2 hu
      go_enter Try.func29, Try.ntmps29
      go_wp2_with (go_at_call 58; (with_reducible refine PL.out.mono ?_); rintro e w1 ⟨rfl, hb⟩; have O1 := Lib.hid (HO.out.below hb); have B1 := Lib.hid hb; clear hb; have e1 := O1.out.cell clE_2 hi (j := 1) (by omega); have z1 := O1.out.free (i * 2 + 1); simp only [clE, List.getElem?_cons_succ, List.getElem?_cons_zero] at e1)
      have h2 := cl_set1 O1.out hi u
      rw [HX.out] at h2
      have hRR := cl_R h2 HG.out
      rw [List.length_set] at hRR
      exact bodyPost_ret (v := .slice (some ⟨g, 0, none⟩) l.length c) (by simp [results, Try.results29, go_sem]) rfl ⟨_, rfl, hRR, (B1.out.mono HBB.out).setCell HG.out _⟩
end Go.Proofs.Ytlmmipdgedfboaa.F
end
