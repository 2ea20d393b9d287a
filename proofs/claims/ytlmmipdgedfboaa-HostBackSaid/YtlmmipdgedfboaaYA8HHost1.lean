import Derived.Below
import Derived.Deep.Draws
import Derived.Deep.AppendLies
import Derived.Maps.AppendAt
import Derived.OwnWalk
import Derived.Laws.BytesArg
import Derived.Laws.MakeOwn
import Derived.Laws.OwnMore
import Derived.Deep.OwnRows
import Derived.Tactics
import Derived.Lib.ConvBytes
import Derived.Laws.Slices
import Derived.WalkKit
import Derived.KernelRfl
import Derived.RowKit3
import Derived.Deep.LoopGhost
import Derived.Deep.QuietTactic
import Derived.BigQuiet
import Derived.WideLaws
import Derived.Deep.DeepCutAuto
import Derived.Deep.CutBlock
import Derived.Deep.RegionHeld3
import Derived.Laws.Rows
import Derived.Lib.AppendStr
import Derived.ArgAppend
import Derived.Laws.IdiomCopy
import Derived.RowKit
import Derived.OrdersHeld
import Derived.Laws.BitsLemmas
import Derived.Laws.StructEq
import Derived.OwnWalkIn
import Derived.ProofKit
import Derived.Lib.Hide
import Derived.Shelf.RegionOpen
import Derived.Shelf.Abstract
import Derived.Lib.SliceRun
import Derived.Test.YtlmmipdgedfboaaZF0
import Derived.Test.YtlmmipdgedfboaaYA7Slc
section
namespace Go.Proofs.Ytlmmipdgedfboaa.F
open Go.RowKit Go.Shelf Go.Proofs.YtlmmipdgedfboaaW.PrintWords Go.Proofs.YtlmmipdgedfboaaW.PrintLast Go.Proofs.YtlmmipdgedfboaaW.PrintMore
set_option linter.unusedVariables false
set_option linter.unusedSimpArgs false
def mpE (x : S53) : List Value := [.int .u64 x.f0, .int .i64 x.f1]
theorem mpE_2 (x : S53) : (mpE x).length = 2 := rfl
theorem mpE_one (x : S53) : ∀ v ∈ mpE x, v.oneCell' = true := by
  intro v hv
  rcases List.mem_cons.1 hv with rfl | hv
  · rfl
  · rw [List.mem_singleton.1 hv]
    rfl
theorem mp_flat_one (l : List S53) : ∀ v ∈ l.flatMap mpE, v.oneCell' = true := by
  intro v hv
  obtain ⟨x, _, hx⟩ := List.mem_flatMap.1 hv
  exact mpE_one x v hx
theorem mp_R {w : World} {g cap B : Nat} {l : List S53} (h : OwnB mpE 53 w g cap l) (hg : B ≤ g) : Kd.R k53 53 w B (fun _ => True) (.slice (some ⟨g, 0, none⟩) l.length cap) l := by
  obtain ⟨cur, h0, h1, h2, h3, h4⟩ := h
  refine ⟨fun _ _ => trivial, l.flatMap mpE, ⟨flat_len mpE_2 l, .inr ⟨g, cap, cur, rfl, hg, h0, h3, by unfold maxLen; exact h2, h1, h4⟩⟩, flat_len mpE_2 l, fun j x hj => ?_⟩
  obtain ⟨hl, hx⟩ := List.getElem?_eq_some_iff.1 hj
  have e : ((l.flatMap mpE).drop (j * 2)).take 2 = [.int .u64 x.f0, .int .i64 x.f1] := by
    rw [flat_drop mpE_2, List.drop_eq_getElem_cons hl, List.flatMap_cons, List.take_left' (mpE_2 _), hx]
    rfl
  show (k53).M w B _ x (((l.flatMap mpE).drop (j * 2)).take 2)
  rw [e]
  exact k53_mkM _ _ _ _
theorem mp_flat_of {w : World} {B : Nat} {ok : Nat → Prop} : ∀ {l : List S53} {cs : List Value}, Reps ((k53).M w B ok) 2 l cs → cs = l.flatMap mpE
  | [], cs, h => by
    have := h.1
    simp at this
    simp [this]
  | x :: l, cs, h => by
    obtain ⟨h1, h2⟩ := h
    have hx := h2 0 x rfl
    have hx := k53_openM hx
    rw [Nat.zero_mul, List.drop_zero] at hx
    have ih := mp_flat_of (l := l) (cs := cs.drop 2) ⟨by rw [List.length_drop, h1, List.length_cons]; omega, fun j y hj => by
      have := h2 (j + 1) y (by simpa using hj)
      rwa [show (j + 1) * 2 = 2 + j * 2 by omega, ← List.drop_drop] at this⟩
    rw [List.flatMap_cons, ← ih, ← List.take_append_drop 2 cs, hx]
    simp [mpE]
theorem mp_own {w : World} {B : Nat} {ok : Nat → Prop} {v : Value} {l : List S53} (h : Kd.R k53 53 w B ok v l) : (v = .slice none 0 0 ∧ l = []) ∨ ∃ g cap, v = .slice (some ⟨g, 0, none⟩) l.length cap ∧ B ≤ g ∧ OwnB mpE 53 w g cap l := by
  obtain ⟨_, inner, ⟨h1, h2⟩, h3⟩ := h
  have hin := mp_flat_of h3
  rcases h2 with ⟨rfl, hn⟩ | ⟨g, cap, cur, rfl, hg, hh, hnc, hcm, hcs, ht⟩
  · exact .inl ⟨rfl, List.eq_nil_of_length_eq_zero hn⟩
  · exact .inr ⟨g, cap, rfl, hg, cur, hh, hcs, by unfold maxLen at hcm; exact hcm, hnc, by rw [← hin]; exact ht⟩
theorem mp_C {w : World} {g cap : Nat} {l : List S53} (h : OwnB mpE 53 w g cap l) : Kd.C k53 w (some ⟨g, 0, none⟩) l.length l := by
  obtain ⟨A, c, e, _, hC⟩ := Kd.R_reads (mp_R h (Nat.zero_le g))
  cases e
  exact hC
theorem mp_get {l : List S53} {k : Nat} (h : k < l.length) : rd_T53 l (k : Int) = l[k] := by
  unfold rd_T53
  simp [h]
set_option maxHeartbeats 4000000 in
set_option maxRecDepth 100000 in
theorem mp_clone.calls (A : Option Addr) (c : Nat) (l : List S53) (w : World) (hr : Kd.C k53 w A l.length l) (hc : l.length ≤ c) (hl : l.length ≤ 1000000) :
    Calls Try.prog 34 #[.slice A l.length c] w fun e w' => ∃ v : Value, e = .returned v ∧ Kd.R k53 53 w' w.heap.size (fun _ => True) v l ∧ Below w.heap.size w w' := by
  cases A with
  | none =>
    have e : l = [] := by
      rcases Nat.eq_zero_or_pos l.length with h | h
      · exact List.eq_nil_of_length_eq_zero h
      · obtain ⟨ad, h2, _⟩ := hr.2.2 h
        cases h2
    subst e
    clear hr
    have q22 : ∀ (w : World) (a : Option Addr) (n c n' c' : Nat), (binOp .eql 22 (.slice a n c) (.slice none n' c')).run Try.prog w = .ok (.bool a.isNone) w := fun w a n c n' c' => Lib.run_eql_slice_nil w _ _ a n c n' c' Try.underlying22
    go_enter Try.func34, Try.ntmps34
    go_wp2
    go_ret
    exact ⟨_, rfl, Kd.R_nil _ _ _ _ _, Below.refl _ _⟩
  | some ad =>
    have HB0 : Below w.heap.size w (w.alloc (.cells #[] 53)) := (Below.refl _ w).alloc (Nat.le_refl _) _
    have HC := Lib.hid (Kd.C_below hr HB0)
    have HO := Lib.hid (mp_R (l := []) (B := w.heap.size) (cap := 0) (g := w.heap.size) (w := w.alloc (.cells #[] 53)) ⟨#[], blk_new w _, rfl, by omega, by simp, rfl⟩ (Nat.le_refl _))
    have HB := Lib.hid HB0
    clear hr HB0
    have q22 : ∀ (w : World) (a : Option Addr) (n c n' c' : Nat), (binOp .eql 22 (.slice a n c) (.slice none n' c')).run Try.prog w = .ok (.bool a.isNone) w := fun w a n c n' c' => Lib.run_eql_slice_nil w _ _ a n c n' c' Try.underlying22
    go_enter Try.func34, Try.ntmps34
    go_wp2_with (at_builtin; refine Kd.R_append_rows k53 (w0 := w) (Rr := (k53).K w) w.heap.size rfl _ _ 22 53 (.agg #[(.int .u64 0), (.int .i64 0)]) 16 rfl Try.underlying22 info53 rfl (by decide) (by omega) _ [] l _ _ _ (fun _ => True) (fun _ => False) rfl rfl ?q1 ?q2 ?q3 (fun _ h => h.elim) (fun _ _ => trivial) ?q4 ?q5 ?q6 ?_)
    case q1 => exact HO.out
    case q2 => exact HC.out
    case q3 =>
      intro x cs h
      rw [k53_open h]
      exact k53_mkM _ _ _ _
    case q4 => exact HB.out
    case q5 => exact HB.out.size
    case q6 => simp only [List.length_nil]; omega
    intro v1 w1 h1 h2 _ _
    have H1 := Lib.hid h1
    have H2 := Lib.hid h2
    clear h1 h2
    go_wp2
    go_ret
    exact ⟨_, rfl, by simpa using H1.out, H2.out⟩
set_option maxHeartbeats 4000000 in
set_option maxRecDepth 100000 in
theorem mp_idx.calls (p : S53 → Bool) (pf : Nat) (cp : Array Value) (eg : ∀ args w, (callFunc pf args).run Try.prog w = .ok (.enter pf args) w) (A : Option Addr) (c : Nat) (l : List S53) (w : World) (hr : Kd.C k53 w A l.length l) (hc : l.length ≤ c) (hl : l.length ≤ 1000000)
    (HP : ∀ (x : S53) (W : World), Below w.heap.size w W → Calls Try.prog pf (#[.agg #[.int .u64 x.f0, .int .i64 x.f1]] ++ cp) W fun e w' => e = .returned (.bool (p x)) ∧ Below W.heap.size W w') :
    Calls Try.prog 63 #[.slice A l.length c, .func (.func pf) #[] cp] w fun ex w' => ex = .returned (.int .i64 (sIdx p l)) ∧ Below w.heap.size w w' := by
  have HE := Lib.hid HP
  have HN := Lib.hid (fun h => sIdx_none p l h)
  have HA := Lib.hid (fun k hk hn h => sIdx_at p l k hk hn h)
  generalize sIdx p l = R at HN HA ⊢
  have HR := Lib.hid hr
  clear hr HP
  go_enter Try.func63, Try.ntmps63
  go_wp2
  go_loopw [8] (fun t wr => ∃ k : Nat, t = .int .i64 k ∧ k ≤ l.length ∧ Hid (∀ j (hj : j < l.length), j < k → p l[j] = false) ∧ Hid (Below w.heap.size w wr)) (fun t _ => l.length - (intOf t).toNat)
  case atStart => exact ⟨0, rfl, Nat.zero_le _, Lib.hid (fun j _ hj => by omega), Lib.hid (Below.refl _ _)⟩
  case round =>
    obtain ⟨k, rfl, hk, hn, hB⟩ := hrel
    by_cases hlt : k < l.length
    · obtain ⟨ad, rfl, c0, c1⟩ := at_T53 (Kd.C_below HR.out hB.out) (k : Int) (by omega) (by omega)
      rw [mp_get hlt, Int.toNat_natCast] at c0 c1
      have HX := Lib.hid (HE.out l[k] _ hB.out)
      have HA' := Lib.hid (fun h => HA.out k hlt (fun j hj => hn.out j (by omega) hj) h)
      have HS := Lib.hid (show ∀ h : p l[k] = false, ∀ j (hj : j < l.length), j < k + 1 → p l[j] = false from fun h j hj hjk => by
        rcases Nat.lt_or_ge j k with h1 | h1
        · exact hn.out j hj h1
        · obtain rfl : j = k := by omega
          exact h)
      generalize l[k] = x at c0 c1 HX HA' HS
      cases hb : p x
      · have HS' := Lib.hid (HS.out hb)
        rw [hb] at HX
        clear hb HS HA'
        go_wp2_with (go_at_fn pf; (with_reducible refine HX.out.mono ?_); rintro ex w2 ⟨rfl, hb2⟩)
        refine ⟨⟨k + 1, by go_num, hlt, HS', Lib.hid (hB.out.trans (hb2.mono hB.out.size))⟩, by simp [intOf]; omega⟩
      · have hR := HA'.out hb
        subst hR
        rw [hb] at HX
        clear hb HS HA' HA HN
        go_wp2_with (go_at_fn pf; (with_reducible refine HX.out.mono ?_); rintro ex w2 ⟨rfl, hb2⟩)
        go_ret
        exact ⟨rfl, hB.out.trans (hb2.mono hB.out.size)⟩
    · have e4 : k = l.length := by omega
      have hR := HN.out (fun x hx => by
        obtain ⟨j, hj, rfl⟩ := List.getElem_of_mem hx
        exact hn.out j hj (by omega))
      subst hR
      clear hn HA HN
      subst e4
      go_wp2
      go_ret
      exact ⟨rfl, hB.out⟩
set_option maxHeartbeats 4000000 in
theorem mp_any.calls (p : S53 → Bool) (pf : Nat) (cp : Array Value) (eg : ∀ args w, (callFunc pf args).run Try.prog w = .ok (.enter pf args) w) (A : Option Addr) (c : Nat) (l : List S53) (w : World) (hr : Kd.C k53 w A l.length l) (hc : l.length ≤ c) (hl : l.length ≤ 1000000)
    (HP : ∀ (x : S53) (W : World), Below w.heap.size w W → Calls Try.prog pf (#[.agg #[.int .u64 x.f0, .int .i64 x.f1]] ++ cp) W fun e w' => e = .returned (.bool (p x)) ∧ Below W.heap.size W w') :
    Calls Try.prog 39 #[.slice A l.length c, .func (.func pf) #[] cp] w fun ex w' => ex = .returned (.bool (l.any p)) ∧ Below w.heap.size w w' := by
  have IX := Lib.hid (mp_idx.calls p pf cp eg A c l w hr hc hl HP)
  rw [← sIdx_any]
  clear HP hr
  generalize sIdx p l = q at IX ⊢
  go_enter Try.func39, Try.ntmps39
  go_wp2_with (go_at_call 63; (with_reducible refine IX.out.mono ?_); rintro e w1 ⟨rfl, hb⟩)
  go_ret
  exact ⟨rfl, hb⟩
def clE (x : S55) : List Value := [.int .u64 x.f0, .int .u64 x.f1]
theorem clE_2 (x : S55) : (clE x).length = 2 := rfl
theorem clE_one (x : S55) : ∀ v ∈ clE x, v.oneCell' = true := by
  intro v hv
  rcases List.mem_cons.1 hv with rfl | hv
  · rfl
  · rw [List.mem_singleton.1 hv]
    rfl
theorem cl_flat_one (l : List S55) : ∀ v ∈ l.flatMap clE, v.oneCell' = true := by
  intro v hv
  obtain ⟨x, _, hx⟩ := List.mem_flatMap.1 hv
  exact clE_one x v hx
theorem cl_R {w : World} {g cap B : Nat} {l : List S55} (h : OwnB clE 55 w g cap l) (hg : B ≤ g) : Kd.R k55 55 w B (fun _ => True) (.slice (some ⟨g, 0, none⟩) l.length cap) l := by
  obtain ⟨cur, h0, h1, h2, h3, h4⟩ := h
  refine ⟨fun _ _ => trivial, l.flatMap clE, ⟨flat_len clE_2 l, .inr ⟨g, cap, cur, rfl, hg, h0, h3, by unfold maxLen; exact h2, h1, h4⟩⟩, flat_len clE_2 l, fun j x hj => ?_⟩
  obtain ⟨hl, hx⟩ := List.getElem?_eq_some_iff.1 hj
  have e : ((l.flatMap clE).drop (j * 2)).take 2 = [.int .u64 x.f0, .int .u64 x.f1] := by
    rw [flat_drop clE_2, List.drop_eq_getElem_cons hl, List.flatMap_cons, List.take_left' (clE_2 _), hx]
    rfl
  show (k55).M w B _ x (((l.flatMap clE).drop (j * 2)).take 2)
  rw [e]
  exact k55_mkM _ _ _ _
theorem cl_flat_of {w : World} {B : Nat} {ok : Nat → Prop} : ∀ {l : List S55} {cs : List Value}, Reps ((k55).M w B ok) 2 l cs → cs = l.flatMap clE
  | [], cs, h => by
    have := h.1
    simp at this
    simp [this]
  | x :: l, cs, h => by
    obtain ⟨h1, h2⟩ := h
    have hx := h2 0 x rfl
    have hx := k55_openM hx
    rw [Nat.zero_mul, List.drop_zero] at hx
    have ih := cl_flat_of (l := l) (cs := cs.drop 2) ⟨by rw [List.length_drop, h1, List.length_cons]; omega, fun j y hj => by
      have := h2 (j + 1) y (by simpa using hj)
      rwa [show (j + 1) * 2 = 2 + j * 2 by omega, ← List.drop_drop] at this⟩
    rw [List.flatMap_cons, ← ih, ← List.take_append_drop 2 cs, hx]
    simp [clE]
theorem cl_own {w : World} {B : Nat} {ok : Nat → Prop} {v : Value} {l : List S55} (h : Kd.R k55 55 w B ok v l) : (v = .slice none 0 0 ∧ l = []) ∨ ∃ g cap, v = .slice (some ⟨g, 0, none⟩) l.length cap ∧ B ≤ g ∧ OwnB clE 55 w g cap l := by
  obtain ⟨_, inner, ⟨h1, h2⟩, h3⟩ := h
  have hin := cl_flat_of h3
  rcases h2 with ⟨rfl, hn⟩ | ⟨g, cap, cur, rfl, hg, hh, hnc, hcm, hcs, ht⟩
  · exact .inl ⟨rfl, List.eq_nil_of_length_eq_zero hn⟩
  · exact .inr ⟨g, cap, rfl, hg, cur, hh, hcs, by unfold maxLen at hcm; exact hcm, hnc, by rw [← hin]; exact ht⟩
theorem cl_C {w : World} {g cap : Nat} {l : List S55} (h : OwnB clE 55 w g cap l) : Kd.C k55 w (some ⟨g, 0, none⟩) l.length l := by
  obtain ⟨A, c, e, _, hC⟩ := Kd.R_reads (cl_R h (Nat.zero_le g))
  cases e
  exact hC
set_option maxHeartbeats 4000000 in
set_option maxRecDepth 100000 in
theorem cl_clone.calls (A : Option Addr) (c : Nat) (l : List S55) (w : World) (hr : Kd.C k55 w A l.length l) (hc : l.length ≤ c) (hl : l.length ≤ 1000000) :
    Calls Try.prog 30 #[.slice A l.length c] w fun e w' => ∃ v : Value, e = .returned v ∧ Kd.R k55 55 w' w.heap.size (fun _ => True) v l ∧ Below w.heap.size w w' := by
  cases A with
  | none =>
    have e : l = [] := by
      rcases Nat.eq_zero_or_pos l.length with h | h
      · exact List.eq_nil_of_length_eq_zero h
      · obtain ⟨ad, h2, _⟩ := hr.2.2 h
        cases h2
    subst e
    clear hr
    have q22 : ∀ (w : World) (a : Option Addr) (n c n' c' : Nat), (binOp .eql 23 (.slice a n c) (.slice none n' c')).run Try.prog w = .ok (.bool a.isNone) w := fun w a n c n' c' => Lib.run_eql_slice_nil w _ _ a n c n' c' Try.underlying23
    go_enter Try.func30, Try.ntmps30
    go_wp2
    go_ret
    exact ⟨_, rfl, Kd.R_nil _ _ _ _ _, Below.refl _ _⟩
  | some ad =>
    have HB0 : Below w.heap.size w (w.alloc (.cells #[] 55)) := (Below.refl _ w).alloc (Nat.le_refl _) _
    have HC := Lib.hid (Kd.C_below hr HB0)
    have HO := Lib.hid (cl_R (l := []) (B := w.heap.size) (cap := 0) (g := w.heap.size) (w := w.alloc (.cells #[] 55)) ⟨#[], blk_new w _, rfl, by omega, by simp, rfl⟩ (Nat.le_refl _))
    have HB := Lib.hid HB0
    clear hr HB0
    have q22 : ∀ (w : World) (a : Option Addr) (n c n' c' : Nat), (binOp .eql 23 (.slice a n c) (.slice none n' c')).run Try.prog w = .ok (.bool a.isNone) w := fun w a n c n' c' => Lib.run_eql_slice_nil w _ _ a n c n' c' Try.underlying23
    go_enter Try.func30, Try.ntmps30
    go_wp2_with (at_builtin; refine Kd.R_append_rows k55 (w0 := w) (Rr := (k55).K w) w.heap.size rfl _ _ 23 55 (.agg #[(.int .u64 0), (.int .u64 0)]) 16 rfl Try.underlying23 info55 rfl (by decide) (by omega) _ [] l _ _ _ (fun _ => True) (fun _ => False) rfl rfl ?q1 ?q2 ?q3 (fun _ h => h.elim) (fun _ _ => trivial) ?q4 ?q5 ?q6 ?_)
    case q1 => exact HO.out
    case q2 => exact HC.out
    case q3 =>
      intro x cs h
      rw [k55_open h]
      exact k55_mkM _ _ _ _
    case q4 => exact HB.out
    case q5 => exact HB.out.size
    case q6 => simp only [List.length_nil]; omega
    intro v1 w1 h1 h2 _ _
    have H1 := Lib.hid h1
    have H2 := Lib.hid h2
    clear h1 h2
    go_wp2
    go_ret
    exact ⟨_, rfl, by simpa using H1.out, H2.out⟩
end Go.Proofs.Ytlmmipdgedfboaa.F
end
