import Derived.Test.YtgkjdpdmmlalcaaVZF0
import Derived.Test.YtgkjdpdmmlalcaaVA0
section
namespace Go.Proofs.Ytgkjdpdmmlalcaa.F
open Go.RowKit Go.Shelf Go.Proofs.YtgkjdpdmmlalcaaW.PrintWords Go.Proofs.YtgkjdpdmmlalcaaW.PrintLast Go.Proofs.YtgkjdpdmmlalcaaW.PrintMore
set_option linter.unusedVariables false
set_option linter.unusedSimpArgs false
def mpE (x : S83) : List Value := [.int .u64 x.f0, .int .i64 x.f1]
theorem mpE_2 (x : S83) : (mpE x).length = 2 := rfl
theorem mpE_one (x : S83) : ∀ v ∈ mpE x, v.oneCell' = true := by
  intro v hv
  rcases List.mem_cons.1 hv with rfl | hv
  · rfl
  · rw [List.mem_singleton.1 hv]
    rfl
theorem mp_flat_one (l : List S83) : ∀ v ∈ l.flatMap mpE, v.oneCell' = true := by
  intro v hv
  obtain ⟨x, _, hx⟩ := List.mem_flatMap.1 hv
  exact mpE_one x v hx
theorem mp_R {w : World} {g cap B : Nat} {l : List S83} (h : OwnB mpE 83 w g cap l) (hg : B ≤ g) : Kd.R k83 83 w B (fun _ => True) (.slice (some ⟨g, 0, none⟩) l.length cap) l := by
  obtain ⟨cur, h0, h1, h2, h3, h4⟩ := h
  refine ⟨fun _ _ => trivial, l.flatMap mpE, ⟨flat_len mpE_2 l, .inr ⟨g, cap, cur, rfl, hg, h0, h3, by unfold maxLen; exact h2, h1, h4⟩⟩, flat_len mpE_2 l, fun j x hj => ?_⟩
  obtain ⟨hl, hx⟩ := List.getElem?_eq_some_iff.1 hj
  have e : ((l.flatMap mpE).drop (j * 2)).take 2 = [.int .u64 x.f0, .int .i64 x.f1] := by
    rw [flat_drop mpE_2, List.drop_eq_getElem_cons hl, List.flatMap_cons, List.take_left' (mpE_2 _), hx]
    rfl
  show (k83).M w B _ x (((l.flatMap mpE).drop (j * 2)).take 2)
  rw [e]
  exact k83_mkM _ _ _ _
theorem mp_flat_of {w : World} {B : Nat} {ok : Nat → Prop} : ∀ {l : List S83} {cs : List Value}, Reps ((k83).M w B ok) 2 l cs → cs = l.flatMap mpE
  | [], cs, h => by
    have := h.1
    simp at this
    simp [this]
  | x :: l, cs, h => by
    obtain ⟨h1, h2⟩ := h
    have hx := h2 0 x rfl
    have hx := k83_openM hx
    rw [Nat.zero_mul, List.drop_zero] at hx
    have ih := mp_flat_of (l := l) (cs := cs.drop 2) ⟨by rw [List.length_drop, h1, List.length_cons]; omega, fun j y hj => by
      have := h2 (j + 1) y (by simpa using hj)
      rwa [show (j + 1) * 2 = 2 + j * 2 by omega, ← List.drop_drop] at this⟩
    rw [List.flatMap_cons, ← ih, ← List.take_append_drop 2 cs, hx]
    simp [mpE]
theorem mp_own {w : World} {B : Nat} {ok : Nat → Prop} {v : Value} {l : List S83} (h : Kd.R k83 83 w B ok v l) : (v = .slice none 0 0 ∧ l = []) ∨ ∃ g cap, v = .slice (some ⟨g, 0, none⟩) l.length cap ∧ B ≤ g ∧ OwnB mpE 83 w g cap l := by
  obtain ⟨_, inner, ⟨h1, h2⟩, h3⟩ := h
  have hin := mp_flat_of h3
  rcases h2 with ⟨rfl, hn⟩ | ⟨g, cap, cur, rfl, hg, hh, hnc, hcm, hcs, ht⟩
  · exact .inl ⟨rfl, List.eq_nil_of_length_eq_zero hn⟩
  · exact .inr ⟨g, cap, rfl, hg, cur, hh, hcs, by unfold maxLen at hcm; exact hcm, hnc, by rw [← hin]; exact ht⟩
theorem mp_C {w : World} {g cap : Nat} {l : List S83} (h : OwnB mpE 83 w g cap l) : Kd.C k83 w (some ⟨g, 0, none⟩) l.length l := by
  obtain ⟨A, c, e, _, hC⟩ := Kd.R_reads (mp_R h (Nat.zero_le g))
  cases e
  exact hC
theorem mp_get {l : List S83} {k : Nat} (h : k < l.length) : rd_T83 l (k : Int) = l[k] := by
  unfold rd_T83
  simp [h]
set_option maxHeartbeats 4000000 in
set_option maxRecDepth 100000 in
theorem mp_clone.calls (A : Option Addr) (c : Nat) (l : List S83) (w : World) (hr : Kd.C k83 w A l.length l) (hc : l.length ≤ c) (hl : l.length ≤ 1000000) :
    Calls Try.prog 128 #[.slice A l.length c] w fun e w' => ∃ v : Value, e = .returned v ∧ Kd.R k83 83 w' w.heap.size (fun _ => True) v l ∧ Below w.heap.size w w' := by
  cases A with
  | none =>
    have e : l = [] := by
      rcases Nat.eq_zero_or_pos l.length with h | h
      · exact List.eq_nil_of_length_eq_zero h
      · obtain ⟨ad, h2, _⟩ := hr.2.2 h
        cases h2
    subst e
    clear hr
    have q22 : ∀ (w : World) (a : Option Addr) (n c n' c' : Nat), (binOp .eql 22 (.slice a n c) (.slice none n' c')).run Try.prog w = .ok (.bool a.isNone) w := fun w a n c n' c' => Lib.run_eql_slice_nil w _ _ a n c n' c' Try.underlying22
    go_enter Try.func128, Try.ntmps128
    go_wp2
    go_ret
    exact ⟨_, rfl, Kd.R_nil _ _ _ _ _, Below.refl _ _⟩
  | some ad =>
    have HB0 : Below w.heap.size w (w.alloc (.cells #[] 83)) := (Below.refl _ w).alloc (Nat.le_refl _) _
    have HC := Lib.hid (Kd.C_below hr HB0)
    have HO := Lib.hid (mp_R (l := []) (B := w.heap.size) (cap := 0) (g := w.heap.size) (w := w.alloc (.cells #[] 83)) ⟨#[], blk_new w _, rfl, by omega, by simp, rfl⟩ (Nat.le_refl _))
    have HB := Lib.hid HB0
    clear hr HB0
    have q22 : ∀ (w : World) (a : Option Addr) (n c n' c' : Nat), (binOp .eql 22 (.slice a n c) (.slice none n' c')).run Try.prog w = .ok (.bool a.isNone) w := fun w a n c n' c' => Lib.run_eql_slice_nil w _ _ a n c n' c' Try.underlying22
    go_enter Try.func128, Try.ntmps128
    go_wp2_with (at_builtin; refine Kd.R_append_rows k83 (w0 := w) (Rr := (k83).K w) w.heap.size rfl _ _ 22 83 (.agg #[(.int .u64 0), (.int .i64 0)]) 16 rfl Try.underlying22 info83 rfl (by decide) (by omega) _ [] l _ _ _ (fun _ => True) (fun _ => False) rfl rfl ?q1 ?q2 ?q3 (fun _ h => h.elim) (fun _ _ => trivial) ?q4 ?q5 ?q6 ?_)
    case q1 => exact HO.out
    case q2 => exact HC.out
    case q3 =>
      intro x cs h
      rw [k83_open h]
      exact k83_mkM _ _ _ _
    case q4 => exact HB.out
    case q5 => exact HB.out.size
    case q6 => simp only [List.length_nil]; omega
    intro v1 w1 h1 h2 _ _
    have H1 := Lib.hid h1
    have H2 := Lib.hid h2
    clear h1 h2
    go_wp2
    go_ret
    exact ⟨_, rfl, by simpa using H1.out, H2.out⟩
set_option maxHeartbeats 4000000 in
set_option maxRecDepth 100000 in
theorem mp_idx.calls (p : S83 → Bool) (pf : Nat) (cp : Array Value) (eg : ∀ args w, (callFunc pf args).run Try.prog w = .ok (.enter pf args) w) (A : Option Addr) (c : Nat) (l : List S83) (w : World) (hr : Kd.C k83 w A l.length l) (hc : l.length ≤ c) (hl : l.length ≤ 1000000)
    (HP : ∀ (x : S83) (W : World), Below w.heap.size w W → Calls Try.prog pf (#[.agg #[.int .u64 x.f0, .int .i64 x.f1]] ++ cp) W fun e w' => e = .returned (.bool (p x)) ∧ Below W.heap.size W w') :
    Calls Try.prog 150 #[.slice A l.length c, .func (.func pf) #[] cp] w fun ex w' => ex = .returned (.int .i64 (sIdx p l)) ∧ Below w.heap.size w w' := by
  have HE := Lib.hid HP
  have HN := Lib.hid (fun h => sIdx_none p l h)
  have HA := Lib.hid (fun k hk hn h => sIdx_at p l k hk hn h)
  generalize sIdx p l = R at HN HA ⊢
  have HR := Lib.hid hr
  clear hr HP
  go_enter Try.func150, Try.ntmps150
  go_wp2
  go_loopw [8] (fun t wr => ∃ k : Nat, t = .int .i64 k ∧ k ≤ l.length ∧ Hid (∀ j (hj : j < l.length), j < k → p l[j] = false) ∧ Hid (Below w.heap.size w wr)) (fun t _ => l.length - (intOf t).toNat)
  case atStart => exact ⟨0, rfl, Nat.zero_le _, Lib.hid (fun j _ hj => by omega), Lib.hid (Below.refl _ _)⟩
  case round =>
    obtain ⟨k, rfl, hk, hn, hB⟩ := hrel
    by_cases hlt : k < l.length
    · obtain ⟨ad, rfl, c0, c1⟩ := at_T83 (Kd.C_below HR.out hB.out) (k : Int) (by omega) (by omega)
      rw [mp_get hlt, Int.toNat_natCast] at c0 c1
      have HX := Lib.hid (HE.out l[k] _ hB.out)
      have HA' := Lib.hid (fun h => HA.out k hlt (fun j hj => hn.out j (by omega) hj) h)
      have HS := Lib.hid (show ∀ h : p l[k] = false, ∀ j (hj : j < l.length), j < k + 1 → p l[j] = false from fun h j hj hjk => by
        rcases Nat.lt_or_ge j k with h1 | h1
        · exact hn.out j hj h1
        · obtain rfl : j = k := by omega
          exact h)
      generalize l[k] = x at c0 c1 HX HA' HS
      cases hb : p x
      · have HS' := Lib.hid (HS.out hb)
        rw [hb] at HX
        clear hb HS HA'
        go_wp2_with (go_at_fn pf; (with_reducible refine HX.out.mono ?_); rintro ex w2 ⟨rfl, hb2⟩)
        refine ⟨⟨k + 1, by go_num, hlt, HS', Lib.hid (hB.out.trans (hb2.mono hB.out.size))⟩, by simp [intOf]; omega⟩
      · have hR := HA'.out hb
        subst hR
        rw [hb] at HX
        clear hb HS HA' HA HN
        go_wp2_with (go_at_fn pf; (with_reducible refine HX.out.mono ?_); rintro ex w2 ⟨rfl, hb2⟩)
        go_ret
        exact ⟨rfl, hB.out.trans (hb2.mono hB.out.size)⟩
    have e4 : k = l.length := by omega
    have hR := HN.out (fun x hx => by
      obtain ⟨j, hj, rfl⟩ := List.getElem_of_mem hx
      exact hn.out j hj (by omega))
    subst hR
    clear hn HA HN
    subst e4
    go_wp2
    go_ret
    exact ⟨rfl, hB.out⟩
set_option maxHeartbeats 4000000 in
theorem mp_any.calls (p : S83 → Bool) (pf : Nat) (cp : Array Value) (eg : ∀ args w, (callFunc pf args).run Try.prog w = .ok (.enter pf args) w) (A : Option Addr) (c : Nat) (l : List S83) (w : World) (hr : Kd.C k83 w A l.length l) (hc : l.length ≤ c) (hl : l.length ≤ 1000000)
    (HP : ∀ (x : S83) (W : World), Below w.heap.size w W → Calls Try.prog pf (#[.agg #[.int .u64 x.f0, .int .i64 x.f1]] ++ cp) W fun e w' => e = .returned (.bool (p x)) ∧ Below W.heap.size W w') :
    Calls Try.prog 123 #[.slice A l.length c, .func (.func pf) #[] cp] w fun ex w' => ex = .returned (.bool (l.any p)) ∧ Below w.heap.size w w' := by
  have IX := Lib.hid (mp_idx.calls p pf cp eg A c l w hr hc hl HP)
  rw [← sIdx_any]
  clear HP hr
  generalize sIdx p l = q at IX ⊢
  go_enter Try.func123, Try.ntmps123
  go_wp2_with (go_at_call 150; (with_reducible refine IX.out.mono ?_); rintro e w1 ⟨rfl, hb⟩)
  go_ret
  exact ⟨rfl, hb⟩
theorem mp_keep_snoc (p : S83 → Bool) (l : List S83) {j : Nat} (hj : j < l.length) : (l.take (j + 1)).filter (fun x => !p x) = (l.take j).filter (fun x => !p x) ++ (if p l[j] then [] else [l[j]]) := by
  rw [List.take_succ_eq_append_getElem hj, List.filter_append]
  simp only [List.filter_cons, List.filter_nil]
  cases p l[j] <;> rfl
set_option maxHeartbeats 8000000 in
set_option maxRecDepth 100000 in
theorem mp_delf.calls (p : S83 → Bool) (pf : Nat) (cp : Array Value) (eg : ∀ args w, (callFunc pf args).run Try.prog w = .ok (.enter pf args) w) (g cap : Nat) (l : List S83) (w : World) (ho : OwnB mpE 83 w g cap l) (hl : l.length ≤ 1000000)
    (HP : ∀ (x : S83) (W : World), w.grownBy W (some g) → Calls Try.prog pf (#[.agg #[.int .u64 x.f0, .int .i64 x.f1]] ++ cp) W fun e w' => e = .returned (.bool (p x)) ∧ Below W.heap.size W w') :
    Calls Try.prog 134 #[.slice (some ⟨g, 0, none⟩) l.length cap, .func (.func pf) #[] cp] w fun ex w' => ex = .returned (.slice (some ⟨g, 0, none⟩) (l.filter (fun x => !p x)).length cap) ∧ OwnB mpE 83 w' g cap (l.filter (fun x => !p x)) ∧ w.grownBy w' (some g) := by
  have IX := Lib.hid (mp_idx.calls p pf cp eg (some ⟨g, 0, none⟩) cap l w (mp_C ho) ho.len_le hl (fun x W hb => HP x W (grown_of_below hb)))
  have HE := Lib.hid HP
  have HO := Lib.hid ho
  have hlc := ho.len_le
  have hcm := ho.cap_le
  clear HP ho
  rcases sIdx_cases p l with ⟨h1, h2⟩ | ⟨k0, hk0, h1, h2, h3⟩
  · rw [h1] at IX
    have ef : l.filter (fun x => !p x) = l := List.filter_eq_self.2 (fun x hx => by rw [h2 x hx]; rfl)
    rw [ef]
    clear h1 h2 ef
    go_enter Try.func134, Try.ntmps134
    go_wp2_with (go_at_call 150; (with_reducible refine IX.out.mono ?_); rintro e w1 ⟨rfl, hb⟩)
    go_ret
    exact ⟨rfl, HO.out.below hb, grown_of_below hb⟩
  · rw [h1] at IX
    have e0 : (l.take k0).filter (fun x => !p x) = l.take k0 := List.filter_eq_self.2 (fun x hx => by rw [h3 x hx]; rfl)
    have e1 : (l.take (k0 + 1)).filter (fun x => !p x) = l.take k0 := by
      rw [mp_keep_snoc p l hk0, h2, e0]
      simp
    have E1 := Lib.hid e1
    have hne1 : ((k0 : Int) == -1) = false := beq_eq_false_iff_ne.2 (by omega)
    clear h1 h2 h3 e0 e1
    go_enter Try.func134, Try.ntmps134
    go_wp2_with (go_at_call 150; (with_reducible refine IX.out.mono ?_); rintro e w1 ⟨rfl, hb⟩; have HB1 := Lib.hid hb; clear hb)
    go_loopw [5, 6, 7] (fun t5 t6 t7 wr => ∃ (i j : Nat) (m : List S83), t5 = .int .i64 i ∧ t6 = .int .i64 j ∧ i < j ∧ j ≤ l.length ∧ Hid (m.length = l.length ∧ m.take i = (l.take j).filter (fun x => !p x) ∧ m.drop j = l.drop j) ∧ Hid (OwnB mpE 83 wr g cap m) ∧ Hid (w.grownBy wr (some g))) (fun _ t6 _ _ => l.length - (intOf t6).toNat)
    case atStart => exact ⟨k0, k0 + 1, l, rfl, by go_num, by omega, by omega, Lib.hid ⟨rfl, E1.out.symm, rfl⟩, Lib.hid (HO.out.below HB1.out), Lib.hid (grown_of_below HB1.out)⟩
    case round =>
      obtain ⟨i, j, m, rfl, rfl, hij, hjl, I, O, G⟩ := hrel
      have hml := I.out.1
      have ML := Lib.hid hml
      by_cases hlt : j < l.length
      · have hjm : j < m.length := by omega
        have c0 := O.out.cell mpE_2 hjm (j := 0) (by omega)
        have c1 := O.out.cell mpE_2 hjm (j := 1) (by omega)
        have ex : m[j] = l[j] := by
          have := I.out.2.2
          rw [List.drop_eq_getElem_cons hjm, List.drop_eq_getElem_cons hlt] at this
          exact (List.cons.inj this).1
        have KS := Lib.hid (mp_keep_snoc p l hlt)
        rw [ex] at c0 c1
        have HX := Lib.hid (HE.out l[j])
        generalize l[j] = x at c0 c1 HX KS
        simp only [mpE, List.getElem?_cons_zero, List.getElem?_cons_succ, Nat.add_zero] at c0 c1
        clear hml ex
        have hu := Try.underlying83
        go_wp2_with (fail)
        have B0 : Below wr.heap.size wr (wr.alloc (.cells #[.int .u64 x.f0, .int .i64 x.f1] 83)) := (Below.refl _ wr).alloc (Nat.le_refl _) _
        have hN := blk_new wr (.cells #[.int .u64 x.f0, .int .i64 x.f1] 83)
        refine (HX.out _ (grown_trans G.out (grown_of_below B0))).mono ?_
        rintro ex w2 ⟨rfl, hb2⟩
        have O2 := Lib.hid ((O.out.below B0).below hb2)
        have hN2 := (hb2.block _ (sblk_lt hN)).trans hN
        have G2 := Lib.hid (grown_trans G.out (grown_trans (grown_of_below B0) (grown_of_below hb2)))
        cases hq : p x
        · rw [hq] at KS
          have d0 : w2.cell? ⟨wr.heap.size, 0, none⟩ = some (.int .u64 x.f0) := (sblk_cell hN2 0).trans rfl
          have d1 : w2.cell? ⟨wr.heap.size, 1, none⟩ = some (.int .i64 x.f1) := (sblk_cell hN2 1).trans rfl
          have e0 := O2.out.cell mpE_2 (show i < m.length by have := ML.out; omega) (j := 0) (by omega)
          have e1 := O2.out.cell mpE_2 (show i < m.length by have := ML.out; omega) (j := 1) (by omega)
          have z0 := O2.out.free (i * 2)
          have z1 := O2.out.free (i * 2 + 1)
          generalize m[i]'(by have := ML.out; omega) = y at e0 e1
          simp only [mpE, List.getElem?_cons_zero, List.getElem?_cons_succ, Nat.add_zero] at e0 e1
          clear hb2 hN hN2 B0 c0 c1 hq
          go_wp2
          have hmi : m.take i = (l.take j).filter (fun x => !p x) := I.out.2.1
          have hil : i ≤ m.length := by have := ML.out; omega
          refine ⟨⟨i + 1, j + 1, m.take i ++ [x] ++ m.drop (i + 1), by go_num, by go_num, by omega, by omega, Lib.hid ⟨?_, ?_, ?_⟩, Lib.hid (O2.out.put mpE_2 i [x] hil (by have := ML.out; simp; omega)), Lib.hid (grown_trans G2.out (grown_setCells (i * 2) ([x].flatMap mpE)))⟩, by simp [intOf]; omega⟩
          · have := ML.out
            rw [List.length_append, List.length_append, List.length_take, List.length_drop, List.length_singleton]
            omega
          · rw [KS.out, ← hmi, List.take_left' (by rw [List.length_append, List.length_take, List.length_singleton]; omega)]
            simp
          · have hd := congrArg (List.drop 1) I.out.2.2
            rw [List.drop_drop, List.drop_drop] at hd
            rw [← hd, List.drop_append, List.drop_eq_nil_of_le (by rw [List.length_append, List.length_take, List.length_singleton]; omega), List.nil_append, List.drop_drop]
            congr 1
            rw [List.length_append, List.length_take, List.length_singleton]
            omega
        · rw [hq] at KS
          clear hb2 hN hN2 B0 c0 c1 hq
          go_wp2
          refine ⟨⟨i, j + 1, m, rfl, by go_num, by omega, by omega, Lib.hid ⟨ML.out, ?_, ?_⟩, O2, G2⟩, by simp [intOf]; omega⟩
          · rw [KS.out, I.out.2.1]
            simp
          · have hd := congrArg (List.drop 1) I.out.2.2
            rwa [List.drop_drop, List.drop_drop] at hd
      obtain rfl : j = l.length := by omega
      have hi1 : (i : Int) ≤ (l.length : Int) := by omega
      have hci : ¬ (cap = i) := by omega
      have hz : ∀ w, (zeroValue 83).run Try.prog w = .ok (.agg #[(.int .u64 0), (.int .i64 0)]) w := fun w => by kernel_rfl
      have hzl : (Builtin.zeroCells (.agg #[(.int .u64 0), (.int .i64 0)] : Value).cells (l.length - i)).toList.length = (l.length - i) * 2 := by simp [Builtin.zeroCells, Value.cells]
      have hcl : ∀ ty c, (Builtin.clear_ #[22] ty #[.slice (some ⟨g, i * 2, none⟩) (l.length - i) c]).run Try.prog wr = .ok (.tuple #[]) (wr.setCells g (i * 2) (Builtin.zeroCells (.agg #[(.int .u64 0), (.int .i64 0)] : Value).cells (l.length - i)).toList) := fun ty c =>
        run_clear_own wr _ _ ty _ _ Try.underlying22 hz g (i * 2) _ _ (by omega) rfl (fun q hq => O.out.there (by omega)) (fun q _ => O.out.free _) (by
          intro v hv
          simp only [Builtin.zeroCells, Value.cells] at hv
          simp at hv
          obtain ⟨q, _, rfl⟩ := hv
          rcases (show q % 2 = 0 ∨ q % 2 = 1 by omega) with h | h
          · rw [h]; rfl
          · rw [h]; rfl)
      have ID := Lib.hid I
      clear hml
      go_wp2
      go_ret
      have hef : l.filter (fun x => !p x) = m.take i := by rw [ID.out.2.1, List.take_length]
      have hlen : (m.take i).length = i := by rw [List.length_take, ID.out.1]; omega
      rw [hef]
      refine ⟨?_, ?_, grown_trans G.out (grown_setCells _ _)⟩
      · rw [hlen]
        rfl
      · exact (O.out.take mpE_2 i).behind mpE_2 (i * 2) _ (by rw [hlen]; omega) (by show i * 2 + (Builtin.zeroCells (.agg #[(.int .u64 0), (.int .i64 0)] : Value).cells (l.length - i)).toList.length ≤ cap * 2; rw [hzl]; omega)
def clE (x : S88) : List Value := [.int .u64 x.f0, .int .u64 x.f1]
theorem clE_2 (x : S88) : (clE x).length = 2 := rfl
theorem cl_R {w : World} {g cap B : Nat} {l : List S88} (h : OwnB clE 88 w g cap l) (hg : B ≤ g) : Kd.R k88 88 w B (fun _ => True) (.slice (some ⟨g, 0, none⟩) l.length cap) l := by
  obtain ⟨cur, h0, h1, h2, h3, h4⟩ := h
  refine ⟨fun _ _ => trivial, l.flatMap clE, ⟨flat_len clE_2 l, .inr ⟨g, cap, cur, rfl, hg, h0, h3, by unfold maxLen; exact h2, h1, h4⟩⟩, flat_len clE_2 l, fun j x hj => ?_⟩
  obtain ⟨hl, hx⟩ := List.getElem?_eq_some_iff.1 hj
  have e : ((l.flatMap clE).drop (j * 2)).take 2 = [.int .u64 x.f0, .int .u64 x.f1] := by
    rw [flat_drop clE_2, List.drop_eq_getElem_cons hl, List.flatMap_cons, List.take_left' (clE_2 _), hx]
    rfl
  show (k88).M w B _ x (((l.flatMap clE).drop (j * 2)).take 2)
  rw [e]
  exact k88_mkM _ _ _ _
theorem cl_flat_of {w : World} {B : Nat} {ok : Nat → Prop} : ∀ {l : List S88} {cs : List Value}, Reps ((k88).M w B ok) 2 l cs → cs = l.flatMap clE
  | [], cs, h => by
    have := h.1
    simp at this
    simp [this]
  | x :: l, cs, h => by
    obtain ⟨h1, h2⟩ := h
    have hx := h2 0 x rfl
    have hx := k88_openM hx
    rw [Nat.zero_mul, List.drop_zero] at hx
    have ih := cl_flat_of (l := l) (cs := cs.drop 2) ⟨by rw [List.length_drop, h1, List.length_cons]; omega, fun j y hj => by
      have := h2 (j + 1) y (by simpa using hj)
      rwa [show (j + 1) * 2 = 2 + j * 2 by omega, ← List.drop_drop] at this⟩
    rw [List.flatMap_cons, ← ih, ← List.take_append_drop 2 cs, hx]
    simp [clE]
theorem cl_own {w : World} {B : Nat} {ok : Nat → Prop} {v : Value} {l : List S88} (h : Kd.R k88 88 w B ok v l) : (v = .slice none 0 0 ∧ l = []) ∨ ∃ g cap, v = .slice (some ⟨g, 0, none⟩) l.length cap ∧ B ≤ g ∧ OwnB clE 88 w g cap l := by
  obtain ⟨_, inner, ⟨h1, h2⟩, h3⟩ := h
  have hin := cl_flat_of h3
  rcases h2 with ⟨rfl, hn⟩ | ⟨g, cap, cur, rfl, hg, hh, hnc, hcm, hcs, ht⟩
  · exact .inl ⟨rfl, List.eq_nil_of_length_eq_zero hn⟩
  · exact .inr ⟨g, cap, rfl, hg, cur, hh, hcs, by unfold maxLen at hcm; exact hcm, hnc, by rw [← hin]; exact ht⟩
theorem cl_C {w : World} {g cap : Nat} {l : List S88} (h : OwnB clE 88 w g cap l) : Kd.C k88 w (some ⟨g, 0, none⟩) l.length l := by
  obtain ⟨A, c, e, _, hC⟩ := Kd.R_reads (cl_R h (Nat.zero_le g))
  cases e
  exact hC
theorem cl_get {l : List S88} {k : Nat} (h : k < l.length) : rd_T88 l (k : Int) = l[k] := by
  unfold rd_T88
  simp [h]
set_option maxHeartbeats 4000000 in
set_option maxRecDepth 100000 in
theorem cl_clone.calls (A : Option Addr) (c : Nat) (l : List S88) (w : World) (hr : Kd.C k88 w A l.length l) (hc : l.length ≤ c) (hl : l.length ≤ 1000000) :
    Calls Try.prog 106 #[.slice A l.length c] w fun e w' => ∃ v : Value, e = .returned v ∧ Kd.R k88 88 w' w.heap.size (fun _ => True) v l ∧ Below w.heap.size w w' := by
  cases A with
  | none =>
    have e : l = [] := by
      rcases Nat.eq_zero_or_pos l.length with h | h
      · exact List.eq_nil_of_length_eq_zero h
      · obtain ⟨ad, h2, _⟩ := hr.2.2 h
        cases h2
    subst e
    clear hr
    have q22 : ∀ (w : World) (a : Option Addr) (n c n' c' : Nat), (binOp .eql 23 (.slice a n c) (.slice none n' c')).run Try.prog w = .ok (.bool a.isNone) w := fun w a n c n' c' => Lib.run_eql_slice_nil w _ _ a n c n' c' Try.underlying23
    go_enter Try.func106, Try.ntmps106
    go_wp2
    go_ret
    exact ⟨_, rfl, Kd.R_nil _ _ _ _ _, Below.refl _ _⟩
  | some ad =>
    have HB0 : Below w.heap.size w (w.alloc (.cells #[] 88)) := (Below.refl _ w).alloc (Nat.le_refl _) _
    have HC := Lib.hid (Kd.C_below hr HB0)
    have HO := Lib.hid (cl_R (l := []) (B := w.heap.size) (cap := 0) (g := w.heap.size) (w := w.alloc (.cells #[] 88)) ⟨#[], blk_new w _, rfl, by omega, by simp, rfl⟩ (Nat.le_refl _))
    have HB := Lib.hid HB0
    clear hr HB0
    have q22 : ∀ (w : World) (a : Option Addr) (n c n' c' : Nat), (binOp .eql 23 (.slice a n c) (.slice none n' c')).run Try.prog w = .ok (.bool a.isNone) w := fun w a n c n' c' => Lib.run_eql_slice_nil w _ _ a n c n' c' Try.underlying23
    go_enter Try.func106, Try.ntmps106
    go_wp2_with (at_builtin; refine Kd.R_append_rows k88 (w0 := w) (Rr := (k88).K w) w.heap.size rfl _ _ 23 88 (.agg #[(.int .u64 0), (.int .u64 0)]) 16 rfl Try.underlying23 info88 rfl (by decide) (by omega) _ [] l _ _ _ (fun _ => True) (fun _ => False) rfl rfl ?q1 ?q2 ?q3 (fun _ h => h.elim) (fun _ _ => trivial) ?q4 ?q5 ?q6 ?_)
    case q1 => exact HO.out
    case q2 => exact HC.out
    case q3 =>
      intro x cs h
      rw [k88_open h]
      exact k88_mkM _ _ _ _
    case q4 => exact HB.out
    case q5 => exact HB.out.size
    case q6 => simp only [List.length_nil]; omega
    intro v1 w1 h1 h2 _ _
    have H1 := Lib.hid h1
    have H2 := Lib.hid h2
    clear h1 h2
    go_wp2
    go_ret
    exact ⟨_, rfl, by simpa using H1.out, H2.out⟩
set_option maxHeartbeats 4000000 in
set_option maxRecDepth 100000 in
theorem cl_idx.calls (p : S88 → Bool) (pf : Nat) (cp : Array Value) (eg : ∀ args w, (callFunc pf args).run Try.prog w = .ok (.enter pf args) w) (A : Option Addr) (c : Nat) (l : List S88) (w : World) (hr : Kd.C k88 w A l.length l) (hc : l.length ≤ c) (hl : l.length ≤ 1000000)
    (HP : ∀ (x : S88) (W : World), Below w.heap.size w W → Calls Try.prog pf (#[.agg #[.int .u64 x.f0, .int .u64 x.f1]] ++ cp) W fun e w' => e = .returned (.bool (p x)) ∧ Below W.heap.size W w') :
    Calls Try.prog 157 #[.slice A l.length c, .func (.func pf) #[] cp] w fun ex w' => ex = .returned (.int .i64 (sIdx p l)) ∧ Below w.heap.size w w' := by
  have HE := Lib.hid HP
  have HN := Lib.hid (fun h => sIdx_none p l h)
  have HA := Lib.hid (fun k hk hn h => sIdx_at p l k hk hn h)
  generalize sIdx p l = R at HN HA ⊢
  have HR := Lib.hid hr
  clear hr HP
  go_enter Try.func157, Try.ntmps157
  go_wp2
  go_loopw [8] (fun t wr => ∃ k : Nat, t = .int .i64 k ∧ k ≤ l.length ∧ Hid (∀ j (hj : j < l.length), j < k → p l[j] = false) ∧ Hid (Below w.heap.size w wr)) (fun t _ => l.length - (intOf t).toNat)
  case atStart => exact ⟨0, rfl, Nat.zero_le _, Lib.hid (fun j _ hj => by omega), Lib.hid (Below.refl _ _)⟩
  case round =>
    obtain ⟨k, rfl, hk, hn, hB⟩ := hrel
    by_cases hlt : k < l.length
    · obtain ⟨ad, rfl, c0, c1⟩ := at_T88 (Kd.C_below HR.out hB.out) (k : Int) (by omega) (by omega)
      rw [cl_get hlt, Int.toNat_natCast] at c0 c1
      have HX := Lib.hid (HE.out l[k] _ hB.out)
      have HA' := Lib.hid (fun h => HA.out k hlt (fun j hj => hn.out j (by omega) hj) h)
      have HS := Lib.hid (show ∀ h : p l[k] = false, ∀ j (hj : j < l.length), j < k + 1 → p l[j] = false from fun h j hj hjk => by
        rcases Nat.lt_or_ge j k with h1 | h1
        · exact hn.out j hj h1
        · obtain rfl : j = k := by omega
          exact h)
      generalize l[k] = x at c0 c1 HX HA' HS
      cases hb : p x
      · have HS' := Lib.hid (HS.out hb)
        rw [hb] at HX
        clear hb HS HA'
        go_wp2_with (go_at_fn pf; (with_reducible refine HX.out.mono ?_); rintro ex w2 ⟨rfl, hb2⟩)
        refine ⟨⟨k + 1, by go_num, hlt, HS', Lib.hid (hB.out.trans (hb2.mono hB.out.size))⟩, by simp [intOf]; omega⟩
      · have hR := HA'.out hb
        subst hR
        rw [hb] at HX
        clear hb HS HA' HA HN
        go_wp2_with (go_at_fn pf; (with_reducible refine HX.out.mono ?_); rintro ex w2 ⟨rfl, hb2⟩)
        go_ret
        exact ⟨rfl, hB.out.trans (hb2.mono hB.out.size)⟩
    have e4 : k = l.length := by omega
    have hR := HN.out (fun x hx => by
      obtain ⟨j, hj, rfl⟩ := List.getElem_of_mem hx
      exact hn.out j hj (by omega))
    subst hR
    clear hn HA HN
    subst e4
    go_wp2
    go_ret
    exact ⟨rfl, hB.out⟩
theorem cl_keep_snoc (p : S88 → Bool) (l : List S88) {j : Nat} (hj : j < l.length) : (l.take (j + 1)).filter (fun x => !p x) = (l.take j).filter (fun x => !p x) ++ (if p l[j] then [] else [l[j]]) := by
  rw [List.take_succ_eq_append_getElem hj, List.filter_append]
  simp only [List.filter_cons, List.filter_nil]
  cases p l[j] <;> rfl
set_option maxHeartbeats 8000000 in
set_option maxRecDepth 100000 in
theorem cl_delf.calls (p : S88 → Bool) (pf : Nat) (cp : Array Value) (eg : ∀ args w, (callFunc pf args).run Try.prog w = .ok (.enter pf args) w) (g cap : Nat) (l : List S88) (w : World) (ho : OwnB clE 88 w g cap l) (hl : l.length ≤ 1000000)
    (HP : ∀ (x : S88) (W : World), w.grownBy W (some g) → Calls Try.prog pf (#[.agg #[.int .u64 x.f0, .int .u64 x.f1]] ++ cp) W fun e w' => e = .returned (.bool (p x)) ∧ Below W.heap.size W w') :
    Calls Try.prog 136 #[.slice (some ⟨g, 0, none⟩) l.length cap, .func (.func pf) #[] cp] w fun ex w' => ex = .returned (.slice (some ⟨g, 0, none⟩) (l.filter (fun x => !p x)).length cap) ∧ OwnB clE 88 w' g cap (l.filter (fun x => !p x)) ∧ w.grownBy w' (some g) := by
  have IX := Lib.hid (cl_idx.calls p pf cp eg (some ⟨g, 0, none⟩) cap l w (cl_C ho) ho.len_le hl (fun x W hb => HP x W (grown_of_below hb)))
  have HE := Lib.hid HP
  have HO := Lib.hid ho
  have hlc := ho.len_le
  have hcm := ho.cap_le
  clear HP ho
  rcases sIdx_cases p l with ⟨h1, h2⟩ | ⟨k0, hk0, h1, h2, h3⟩
  · rw [h1] at IX
    have ef : l.filter (fun x => !p x) = l := List.filter_eq_self.2 (fun x hx => by rw [h2 x hx]; rfl)
    rw [ef]
    clear h1 h2 ef
    go_enter Try.func136, Try.ntmps136
    go_wp2_with (go_at_call 157; (with_reducible refine IX.out.mono ?_); rintro e w1 ⟨rfl, hb⟩)
    go_ret
    exact ⟨rfl, HO.out.below hb, grown_of_below hb⟩
  · rw [h1] at IX
    have e0 : (l.take k0).filter (fun x => !p x) = l.take k0 := List.filter_eq_self.2 (fun x hx => by rw [h3 x hx]; rfl)
    have e1 : (l.take (k0 + 1)).filter (fun x => !p x) = l.take k0 := by
      rw [cl_keep_snoc p l hk0, h2, e0]
      simp
    have E1 := Lib.hid e1
    have hne1 : ((k0 : Int) == -1) = false := beq_eq_false_iff_ne.2 (by omega)
    clear h1 h2 h3 e0 e1
    go_enter Try.func136, Try.ntmps136
    go_wp2_with (go_at_call 157; (with_reducible refine IX.out.mono ?_); rintro e w1 ⟨rfl, hb⟩; have HB1 := Lib.hid hb; clear hb)
    go_loopw [5, 6, 7] (fun t5 t6 t7 wr => ∃ (i j : Nat) (m : List S88), t5 = .int .i64 i ∧ t6 = .int .i64 j ∧ i < j ∧ j ≤ l.length ∧ Hid (m.length = l.length ∧ m.take i = (l.take j).filter (fun x => !p x) ∧ m.drop j = l.drop j) ∧ Hid (OwnB clE 88 wr g cap m) ∧ Hid (w.grownBy wr (some g))) (fun _ t6 _ _ => l.length - (intOf t6).toNat)
    case atStart => exact ⟨k0, k0 + 1, l, rfl, by go_num, by omega, by omega, Lib.hid ⟨rfl, E1.out.symm, rfl⟩, Lib.hid (HO.out.below HB1.out), Lib.hid (grown_of_below HB1.out)⟩
    case round =>
      obtain ⟨i, j, m, rfl, rfl, hij, hjl, I, O, G⟩ := hrel
      have hml := I.out.1
      have ML := Lib.hid hml
      by_cases hlt : j < l.length
      · have hjm : j < m.length := by omega
        have c0 := O.out.cell clE_2 hjm (j := 0) (by omega)
        have c1 := O.out.cell clE_2 hjm (j := 1) (by omega)
        have ex : m[j] = l[j] := by
          have := I.out.2.2
          rw [List.drop_eq_getElem_cons hjm, List.drop_eq_getElem_cons hlt] at this
          exact (List.cons.inj this).1
        have KS := Lib.hid (cl_keep_snoc p l hlt)
        rw [ex] at c0 c1
        have HX := Lib.hid (HE.out l[j])
        generalize l[j] = x at c0 c1 HX KS
        simp only [clE, List.getElem?_cons_zero, List.getElem?_cons_succ, Nat.add_zero] at c0 c1
        clear hml ex
        have hu := Try.underlying88
        go_wp2_with (fail)
        have B0 : Below wr.heap.size wr (wr.alloc (.cells #[.int .u64 x.f0, .int .u64 x.f1] 88)) := (Below.refl _ wr).alloc (Nat.le_refl _) _
        have hN := blk_new wr (.cells #[.int .u64 x.f0, .int .u64 x.f1] 88)
        refine (HX.out _ (grown_trans G.out (grown_of_below B0))).mono ?_
        rintro ex w2 ⟨rfl, hb2⟩
        have O2 := Lib.hid ((O.out.below B0).below hb2)
        have hN2 := (hb2.block _ (sblk_lt hN)).trans hN
        have G2 := Lib.hid (grown_trans G.out (grown_trans (grown_of_below B0) (grown_of_below hb2)))
        cases hq : p x
        · rw [hq] at KS
          have d0 : w2.cell? ⟨wr.heap.size, 0, none⟩ = some (.int .u64 x.f0) := (sblk_cell hN2 0).trans rfl
          have d1 : w2.cell? ⟨wr.heap.size, 1, none⟩ = some (.int .u64 x.f1) := (sblk_cell hN2 1).trans rfl
          have e0 := O2.out.cell clE_2 (show i < m.length by have := ML.out; omega) (j := 0) (by omega)
          have e1 := O2.out.cell clE_2 (show i < m.length by have := ML.out; omega) (j := 1) (by omega)
          have z0 := O2.out.free (i * 2)
          have z1 := O2.out.free (i * 2 + 1)
          generalize m[i]'(by have := ML.out; omega) = y at e0 e1
          simp only [clE, List.getElem?_cons_zero, List.getElem?_cons_succ, Nat.add_zero] at e0 e1
          clear hb2 hN hN2 B0 c0 c1 hq
          go_wp2
          have hmi : m.take i = (l.take j).filter (fun x => !p x) := I.out.2.1
          have hil : i ≤ m.length := by have := ML.out; omega
          refine ⟨⟨i + 1, j + 1, m.take i ++ [x] ++ m.drop (i + 1), by go_num, by go_num, by omega, by omega, Lib.hid ⟨?_, ?_, ?_⟩, Lib.hid (O2.out.put clE_2 i [x] hil (by have := ML.out; simp; omega)), Lib.hid (grown_trans G2.out (grown_setCells (i * 2) ([x].flatMap clE)))⟩, by simp [intOf]; omega⟩
          · have := ML.out
            rw [List.length_append, List.length_append, List.length_take, List.length_drop, List.length_singleton]
            omega
          · rw [KS.out, ← hmi, List.take_left' (by rw [List.length_append, List.length_take, List.length_singleton]; omega)]
            simp
          · have hd := congrArg (List.drop 1) I.out.2.2
            rw [List.drop_drop, List.drop_drop] at hd
            rw [← hd, List.drop_append, List.drop_eq_nil_of_le (by rw [List.length_append, List.length_take, List.length_singleton]; omega), List.nil_append, List.drop_drop]
            congr 1
            rw [List.length_append, List.length_take, List.length_singleton]
            omega
        · rw [hq] at KS
          clear hb2 hN hN2 B0 c0 c1 hq
          go_wp2
          refine ⟨⟨i, j + 1, m, rfl, by go_num, by omega, by omega, Lib.hid ⟨ML.out, ?_, ?_⟩, O2, G2⟩, by simp [intOf]; omega⟩
          · rw [KS.out, I.out.2.1]
            simp
          · have hd := congrArg (List.drop 1) I.out.2.2
            rwa [List.drop_drop, List.drop_drop] at hd
      obtain rfl : j = l.length := by omega
      have hi1 : (i : Int) ≤ (l.length : Int) := by omega
      have hci : ¬ (cap = i) := by omega
      have hz : ∀ w, (zeroValue 88).run Try.prog w = .ok (.agg #[(.int .u64 0), (.int .u64 0)]) w := fun w => by kernel_rfl
      have hzl : (Builtin.zeroCells (.agg #[(.int .u64 0), (.int .u64 0)] : Value).cells (l.length - i)).toList.length = (l.length - i) * 2 := by simp [Builtin.zeroCells, Value.cells]
      have hcl : ∀ ty c, (Builtin.clear_ #[23] ty #[.slice (some ⟨g, i * 2, none⟩) (l.length - i) c]).run Try.prog wr = .ok (.tuple #[]) (wr.setCells g (i * 2) (Builtin.zeroCells (.agg #[(.int .u64 0), (.int .u64 0)] : Value).cells (l.length - i)).toList) := fun ty c =>
        run_clear_own wr _ _ ty _ _ Try.underlying23 hz g (i * 2) _ _ (by omega) rfl (fun q hq => O.out.there (by omega)) (fun q _ => O.out.free _) (by
          intro v hv
          simp only [Builtin.zeroCells, Value.cells] at hv
          simp at hv
          obtain ⟨q, _, rfl⟩ := hv
          rcases (show q % 2 = 0 ∨ q % 2 = 1 by omega) with h | h
          · rw [h]; rfl
          · rw [h]; rfl)
      have ID := Lib.hid I
      clear hml
      go_wp2
      go_ret
      have hef : l.filter (fun x => !p x) = m.take i := by rw [ID.out.2.1, List.take_length]
      have hlen : (m.take i).length = i := by rw [List.length_take, ID.out.1]; omega
      rw [hef]
      refine ⟨?_, ?_, grown_trans G.out (grown_setCells _ _)⟩
      · rw [hlen]
        rfl
      · exact (O.out.take clE_2 i).behind clE_2 (i * 2) _ (by rw [hlen]; omega) (by show i * 2 + (Builtin.zeroCells (.agg #[(.int .u64 0), (.int .u64 0)] : Value).cells (l.length - i)).toList.length ≤ cap * 2; rw [hzl]; omega)
end Go.Proofs.Ytgkjdpdmmlalcaa.F
end
