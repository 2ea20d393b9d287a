import Derived.Test.YtgkjdpdmmlalcaaVZF0
import Derived.Test.YtgkjdpdmmlalcaaVA0
section
namespace Go.Proofs.Ytgkjdpdmmlalcaa.F
open Go.RowKit Go.Shelf Go.Proofs.YtgkjdpdmmlalcaaW.PrintWords Go.Proofs.YtgkjdpdmmlalcaaW.PrintLast Go.Proofs.YtgkjdpdmmlalcaaW.PrintMore
set_option linter.unusedVariables false
set_option linter.unusedSimpArgs false
def pgE (x : S41) : List Value := [.int .u32 x.f0, .int .i64 x.f1]
theorem pgE_2 (x : S41) : (pgE x).length = 2 := rfl
theorem pgE_one (x : S41) : ∀ v ∈ pgE x, v.oneCell' = true := by
  intro v hv
  rcases List.mem_cons.1 hv with rfl | hv
  · rfl
  · rw [List.mem_singleton.1 hv]
    rfl
theorem pg_flat_one (l : List S41) : ∀ v ∈ l.flatMap pgE, v.oneCell' = true := by
  intro v hv
  obtain ⟨x, _, hx⟩ := List.mem_flatMap.1 hv
  exact pgE_one x v hx
theorem pg_R {w : World} {g cap B : Nat} {l : List S41} (h : OwnB pgE 41 w g cap l) (hg : B ≤ g) : Kd.R k41 41 w B (fun _ => True) (.slice (some ⟨g, 0, none⟩) l.length cap) l := by
  obtain ⟨cur, h0, h1, h2, h3, h4⟩ := h
  refine ⟨fun _ _ => trivial, l.flatMap pgE, ⟨flat_len pgE_2 l, .inr ⟨g, cap, cur, rfl, hg, h0, h3, by unfold maxLen; exact h2, h1, h4⟩⟩, flat_len pgE_2 l, fun j x hj => ?_⟩
  obtain ⟨hl, hx⟩ := List.getElem?_eq_some_iff.1 hj
  have e : ((l.flatMap pgE).drop (j * 2)).take 2 = [.int .u32 x.f0, .int .i64 x.f1] := by
    rw [flat_drop pgE_2, List.drop_eq_getElem_cons hl, List.flatMap_cons, List.take_left' (pgE_2 _), hx]
    rfl
  show (k41).M w B _ x (((l.flatMap pgE).drop (j * 2)).take 2)
  rw [e]
  exact k41_mkM _ _ _ _
theorem pg_flat_of {w : World} {B : Nat} {ok : Nat → Prop} : ∀ {l : List S41} {cs : List Value}, Reps ((k41).M w B ok) 2 l cs → cs = l.flatMap pgE
  | [], cs, h => by
    have := h.1
    simp at this
    simp [this]
  | x :: l, cs, h => by
    obtain ⟨h1, h2⟩ := h
    have hx := h2 0 x rfl
    have hx := k41_openM hx
    rw [Nat.zero_mul, List.drop_zero] at hx
    have ih := pg_flat_of (l := l) (cs := cs.drop 2) ⟨by rw [List.length_drop, h1, List.length_cons]; omega, fun j y hj => by
      have := h2 (j + 1) y (by simpa using hj)
      rwa [show (j + 1) * 2 = 2 + j * 2 by omega, ← List.drop_drop] at this⟩
    rw [List.flatMap_cons, ← ih, ← List.take_append_drop 2 cs, hx]
    simp [pgE]
theorem pg_own {w : World} {B : Nat} {ok : Nat → Prop} {v : Value} {l : List S41} (h : Kd.R k41 41 w B ok v l) : (v = .slice none 0 0 ∧ l = []) ∨ ∃ g cap, v = .slice (some ⟨g, 0, none⟩) l.length cap ∧ B ≤ g ∧ OwnB pgE 41 w g cap l := by
  obtain ⟨_, inner, ⟨h1, h2⟩, h3⟩ := h
  have hin := pg_flat_of h3
  rcases h2 with ⟨rfl, hn⟩ | ⟨g, cap, cur, rfl, hg, hh, hnc, hcm, hcs, ht⟩
  · exact .inl ⟨rfl, List.eq_nil_of_length_eq_zero hn⟩
  · exact .inr ⟨g, cap, rfl, hg, cur, hh, hcs, by unfold maxLen at hcm; exact hcm, hnc, by rw [← hin]; exact ht⟩
theorem pg_C {w : World} {g cap : Nat} {l : List S41} (h : OwnB pgE 41 w g cap l) : Kd.C k41 w (some ⟨g, 0, none⟩) l.length l := by
  obtain ⟨A, c, e, _, hC⟩ := Kd.R_reads (pg_R h (Nat.zero_le g))
  cases e
  exact hC
theorem pg_get {l : List S41} {k : Nat} (h : k < l.length) : rd_T41 l (k : Int) = l[k] := by
  unfold rd_T41
  simp [h]
set_option maxHeartbeats 4000000 in
set_option maxRecDepth 100000 in
theorem pg_clone.calls (A : Option Addr) (c : Nat) (l : List S41) (w : World) (hr : Kd.C k41 w A l.length l) (hc : l.length ≤ c) (hl : l.length ≤ 1000000) :
    Calls Try.prog 119 #[.slice A l.length c] w fun e w' => ∃ v : Value, e = .returned v ∧ Kd.R k41 41 w' w.heap.size (fun _ => True) v l ∧ Below w.heap.size w w' := by
  cases A with
  | none =>
    have e : l = [] := by
      rcases Nat.eq_zero_or_pos l.length with h | h
      · exact List.eq_nil_of_length_eq_zero h
      · obtain ⟨ad, h2, _⟩ := hr.2.2 h
        cases h2
    subst e
    clear hr
    have q22 : ∀ (w : World) (a : Option Addr) (n c n' c' : Nat), (binOp .eql 27 (.slice a n c) (.slice none n' c')).run Try.prog w = .ok (.bool a.isNone) w := fun w a n c n' c' => Lib.run_eql_slice_nil w _ _ a n c n' c' Try.underlying27
    go_enter Try.func119, Try.ntmps119
    go_wp2
    go_ret
    exact ⟨_, rfl, Kd.R_nil _ _ _ _ _, Below.refl _ _⟩
  | some ad =>
    have HB0 : Below w.heap.size w (w.alloc (.cells #[] 41)) := (Below.refl _ w).alloc (Nat.le_refl _) _
    have HC := Lib.hid (Kd.C_below hr HB0)
    have HO := Lib.hid (pg_R (l := []) (B := w.heap.size) (cap := 0) (g := w.heap.size) (w := w.alloc (.cells #[] 41)) ⟨#[], blk_new w _, rfl, by omega, by simp, rfl⟩ (Nat.le_refl _))
    have HB := Lib.hid HB0
    clear hr HB0
    have q22 : ∀ (w : World) (a : Option Addr) (n c n' c' : Nat), (binOp .eql 27 (.slice a n c) (.slice none n' c')).run Try.prog w = .ok (.bool a.isNone) w := fun w a n c n' c' => Lib.run_eql_slice_nil w _ _ a n c n' c' Try.underlying27
    go_enter Try.func119, Try.ntmps119
    go_wp2_with (at_builtin; refine Kd.R_append_rows k41 (w0 := w) (Rr := (k41).K w) w.heap.size rfl _ _ 27 41 (.agg #[(.int .u32 0), (.int .i64 0)]) 16 rfl Try.underlying27 info41 rfl (by decide) (by omega) _ [] l _ _ _ (fun _ => True) (fun _ => False) rfl rfl ?q1 ?q2 ?q3 (fun _ h => h.elim) (fun _ _ => trivial) ?q4 ?q5 ?q6 ?_)
    case q1 => exact HO.out
    case q2 => exact HC.out
    case q3 =>
      intro x cs h
      rw [k41_open h]
      exact k41_mkM _ _ _ _
    case q4 => exact HB.out
    case q5 => exact HB.out.size
    case q6 => simp only [List.length_nil]; omega
    intro v1 w1 h1 h2 _ _
    have H1 := Lib.hid h1
    have H2 := Lib.hid h2
    clear h1 h2
    go_wp2
    go_ret
    exact ⟨_, rfl, by simpa using H1.out, H2.out⟩
set_option maxHeartbeats 4000000 in
set_option maxRecDepth 100000 in
theorem pg_idx.calls (p : S41 → Bool) (pf : Nat) (cp : Array Value) (eg : ∀ args w, (callFunc pf args).run Try.prog w = .ok (.enter pf args) w) (A : Option Addr) (c : Nat) (l : List S41) (w : World) (hr : Kd.C k41 w A l.length l) (hc : l.length ≤ c) (hl : l.length ≤ 1000000)
    (HP : ∀ (x : S41) (W : World), Below w.heap.size w W → Calls Try.prog pf (#[.agg #[.int .u32 x.f0, .int .i64 x.f1]] ++ cp) W fun e w' => e = .returned (.bool (p x)) ∧ Below W.heap.size W w') :
    Calls Try.prog 116 #[.slice A l.length c, .func (.func pf) #[] cp] w fun ex w' => ex = .returned (.int .i64 (sIdx p l)) ∧ Below w.heap.size w w' := by
  have HE := Lib.hid HP
  have HN := Lib.hid (fun h => sIdx_none p l h)
  have HA := Lib.hid (fun k hk hn h => sIdx_at p l k hk hn h)
  generalize sIdx p l = R at HN HA ⊢
  have HR := Lib.hid hr
  clear hr HP
  go_enter Try.func116, Try.ntmps116
  go_wp2
  go_loopw [8] (fun t wr => ∃ k : Nat, t = .int .i64 k ∧ k ≤ l.length ∧ Hid (∀ j (hj : j < l.length), j < k → p l[j] = false) ∧ Hid (Below w.heap.size w wr)) (fun t _ => l.length - (intOf t).toNat)
  case atStart => exact ⟨0, rfl, Nat.zero_le _, Lib.hid (fun j _ hj => by omega), Lib.hid (Below.refl _ _)⟩
  case round =>
    obtain ⟨k, rfl, hk, hn, hB⟩ := hrel
    by_cases hlt : k < l.length
    · obtain ⟨ad, rfl, c0, c1⟩ := at_T41 (Kd.C_below HR.out hB.out) (k : Int) (by omega) (by omega)
      rw [pg_get hlt, Int.toNat_natCast] at c0 c1
      have HX := Lib.hid (HE.out l[k] _ hB.out)
      have HA' := Lib.hid (fun h => HA.out k hlt (fun j hj => hn.out j (by omega) hj) h)
      have HS := Lib.hid (show ∀ h : p l[k] = false, ∀ j (hj : j < l.length), j < k + 1 → p l[j] = false from fun h j hj hjk => by
        rcases Nat.lt_or_ge j k with h1 | h1
        · exact hn.out j hj h1
        · obtain rfl : j = k := by omega
          exact h)
      generalize l[k] = x at c0 c1 HX HA' HS
      cases hb : p x
      · have HS' := Lib.hid (HS.out hb)
        rw [hb] at HX
        clear hb HS HA'
        go_wp2_with (go_at_fn pf; (with_reducible refine HX.out.mono ?_); rintro ex w2 ⟨rfl, hb2⟩)
        refine ⟨⟨k + 1, by go_num, hlt, HS', Lib.hid (hB.out.trans (hb2.mono hB.out.size))⟩, by simp [intOf]; omega⟩
      · have hR := HA'.out hb
        subst hR
        rw [hb] at HX
        clear hb HS HA' HA HN
        go_wp2_with (go_at_fn pf; (with_reducible refine HX.out.mono ?_); rintro ex w2 ⟨rfl, hb2⟩)
        go_ret
        exact ⟨rfl, hB.out.trans (hb2.mono hB.out.size)⟩
    have e4 : k = l.length := by omega
    have hR := HN.out (fun x hx => by
      obtain ⟨j, hj, rfl⟩ := List.getElem_of_mem hx
      exact hn.out j hj (by omega))
    subst hR
    clear hn HA HN
    subst e4
    go_wp2
    go_ret
    exact ⟨rfl, hB.out⟩
set_option maxHeartbeats 4000000 in
theorem pg_any.calls (p : S41 → Bool) (pf : Nat) (cp : Array Value) (eg : ∀ args w, (callFunc pf args).run Try.prog w = .ok (.enter pf args) w) (A : Option Addr) (c : Nat) (l : List S41) (w : World) (hr : Kd.C k41 w A l.length l) (hc : l.length ≤ c) (hl : l.length ≤ 1000000)
    (HP : ∀ (x : S41) (W : World), Below w.heap.size w W → Calls Try.prog pf (#[.agg #[.int .u32 x.f0, .int .i64 x.f1]] ++ cp) W fun e w' => e = .returned (.bool (p x)) ∧ Below W.heap.size W w') :
    Calls Try.prog 90 #[.slice A l.length c, .func (.func pf) #[] cp] w fun ex w' => ex = .returned (.bool (l.any p)) ∧ Below w.heap.size w w' := by
  have IX := Lib.hid (pg_idx.calls p pf cp eg A c l w hr hc hl HP)
  rw [← sIdx_any]
  clear HP hr
  generalize sIdx p l = q at IX ⊢
  go_enter Try.func90, Try.ntmps90
  go_wp2_with (go_at_call 116; (with_reducible refine IX.out.mono ?_); rintro e w1 ⟨rfl, hb⟩)
  go_ret
  exact ⟨rfl, hb⟩
theorem pg_keep_snoc (p : S41 → Bool) (l : List S41) {j : Nat} (hj : j < l.length) : (l.take (j + 1)).filter (fun x => !p x) = (l.take j).filter (fun x => !p x) ++ (if p l[j] then [] else [l[j]]) := by
  rw [List.take_succ_eq_append_getElem hj, List.filter_append]
  simp only [List.filter_cons, List.filter_nil]
  cases p l[j] <;> rfl
set_option maxHeartbeats 8000000 in
set_option maxRecDepth 100000 in
theorem pg_delf.calls (p : S41 → Bool) (pf : Nat) (cp : Array Value) (eg : ∀ args w, (callFunc pf args).run Try.prog w = .ok (.enter pf args) w) (g cap : Nat) (l : List S41) (w : World) (ho : OwnB pgE 41 w g cap l) (hl : l.length ≤ 1000000)
    (HP : ∀ (x : S41) (W : World), w.grownBy W (some g) → Calls Try.prog pf (#[.agg #[.int .u32 x.f0, .int .i64 x.f1]] ++ cp) W fun e w' => e = .returned (.bool (p x)) ∧ Below W.heap.size W w') :
    Calls Try.prog 118 #[.slice (some ⟨g, 0, none⟩) l.length cap, .func (.func pf) #[] cp] w fun ex w' => ex = .returned (.slice (some ⟨g, 0, none⟩) (l.filter (fun x => !p x)).length cap) ∧ OwnB pgE 41 w' g cap (l.filter (fun x => !p x)) ∧ w.grownBy w' (some g) := by
  have IX := Lib.hid (pg_idx.calls p pf cp eg (some ⟨g, 0, none⟩) cap l w (pg_C ho) ho.len_le hl (fun x W hb => HP x W (grown_of_below hb)))
  have HE := Lib.hid HP
  have HO := Lib.hid ho
  have hlc := ho.len_le
  have hcm := ho.cap_le
  clear HP ho
  rcases sIdx_cases p l with ⟨h1, h2⟩ | ⟨k0, hk0, h1, h2, h3⟩
  · rw [h1] at IX
    have ef : l.filter (fun x => !p x) = l := List.filter_eq_self.2 (fun x hx => by rw [h2 x hx]; rfl)
    rw [ef]
    clear h1 h2 ef
    go_enter Try.func118, Try.ntmps118
    go_wp2_with (go_at_call 116; (with_reducible refine IX.out.mono ?_); rintro e w1 ⟨rfl, hb⟩)
    go_ret
    exact ⟨rfl, HO.out.below hb, grown_of_below hb⟩
  · rw [h1] at IX
    have e0 : (l.take k0).filter (fun x => !p x) = l.take k0 := List.filter_eq_self.2 (fun x hx => by rw [h3 x hx]; rfl)
    have e1 : (l.take (k0 + 1)).filter (fun x => !p x) = l.take k0 := by
      rw [pg_keep_snoc p l hk0, h2, e0]
      simp
    have E1 := Lib.hid e1
    have hne1 : ((k0 : Int) == -1) = false := beq_eq_false_iff_ne.2 (by omega)
    clear h1 h2 h3 e0 e1
    go_enter Try.func118, Try.ntmps118
    go_wp2_with (go_at_call 116; (with_reducible refine IX.out.mono ?_); rintro e w1 ⟨rfl, hb⟩; have HB1 := Lib.hid hb; clear hb)
    go_loopw [5, 6, 7] (fun t5 t6 t7 wr => ∃ (i j : Nat) (m : List S41), t5 = .int .i64 i ∧ t6 = .int .i64 j ∧ i < j ∧ j ≤ l.length ∧ Hid (m.length = l.length ∧ m.take i = (l.take j).filter (fun x => !p x) ∧ m.drop j = l.drop j) ∧ Hid (OwnB pgE 41 wr g cap m) ∧ Hid (w.grownBy wr (some g))) (fun _ t6 _ _ => l.length - (intOf t6).toNat)
    case atStart => exact ⟨k0, k0 + 1, l, rfl, by go_num, by omega, by omega, Lib.hid ⟨rfl, E1.out.symm, rfl⟩, Lib.hid (HO.out.below HB1.out), Lib.hid (grown_of_below HB1.out)⟩
    case round =>
      obtain ⟨i, j, m, rfl, rfl, hij, hjl, I, O, G⟩ := hrel
      have hml := I.out.1
      have ML := Lib.hid hml
      by_cases hlt : j < l.length
      · have hjm : j < m.length := by omega
        have c0 := O.out.cell pgE_2 hjm (j := 0) (by omega)
        have c1 := O.out.cell pgE_2 hjm (j := 1) (by omega)
        have ex : m[j] = l[j] := by
          have := I.out.2.2
          rw [List.drop_eq_getElem_cons hjm, List.drop_eq_getElem_cons hlt] at this
          exact (List.cons.inj this).1
        have KS := Lib.hid (pg_keep_snoc p l hlt)
        rw [ex] at c0 c1
        have HX := Lib.hid (HE.out l[j])
        generalize l[j] = x at c0 c1 HX KS
        simp only [pgE, List.getElem?_cons_zero, List.getElem?_cons_succ, Nat.add_zero] at c0 c1
        clear hml ex
        have hu := Try.underlying41
        go_wp2_with (fail)
        have B0 : Below wr.heap.size wr (wr.alloc (.cells #[.int .u32 x.f0, .int .i64 x.f1] 41)) := (Below.refl _ wr).alloc (Nat.le_refl _) _
        have hN := blk_new wr (.cells #[.int .u32 x.f0, .int .i64 x.f1] 41)
        refine (HX.out _ (grown_trans G.out (grown_of_below B0))).mono ?_
        rintro ex w2 ⟨rfl, hb2⟩
        have O2 := Lib.hid ((O.out.below B0).below hb2)
        have hN2 := (hb2.block _ (sblk_lt hN)).trans hN
        have G2 := Lib.hid (grown_trans G.out (grown_trans (grown_of_below B0) (grown_of_below hb2)))
        cases hq : p x
        · rw [hq] at KS
          have d0 : w2.cell? ⟨wr.heap.size, 0, none⟩ = some (.int .u32 x.f0) := (sblk_cell hN2 0).trans rfl
          have d1 : w2.cell? ⟨wr.heap.size, 1, none⟩ = some (.int .i64 x.f1) := (sblk_cell hN2 1).trans rfl
          have e0 := O2.out.cell pgE_2 (show i < m.length by have := ML.out; omega) (j := 0) (by omega)
          have e1 := O2.out.cell pgE_2 (show i < m.length by have := ML.out; omega) (j := 1) (by omega)
          have z0 := O2.out.free (i * 2)
          have z1 := O2.out.free (i * 2 + 1)
          generalize m[i]'(by have := ML.out; omega) = y at e0 e1
          simp only [pgE, List.getElem?_cons_zero, List.getElem?_cons_succ, Nat.add_zero] at e0 e1
          clear hb2 hN hN2 B0 c0 c1 hq
          go_wp2
          have hmi : m.take i = (l.take j).filter (fun x => !p x) := I.out.2.1
          have hil : i ≤ m.length := by have := ML.out; omega
          refine ⟨⟨i + 1, j + 1, m.take i ++ [x] ++ m.drop (i + 1), by go_num, by go_num, by omega, by omega, Lib.hid ⟨?_, ?_, ?_⟩, Lib.hid (O2.out.put pgE_2 i [x] hil (by have := ML.out; simp; omega)), Lib.hid (grown_trans G2.out (grown_setCells (i * 2) ([x].flatMap pgE)))⟩, by simp [intOf]; omega⟩
          · have := ML.out
            rw [List.length_append, List.length_append, List.length_take, List.length_drop, List.length_singleton]
            omega
          · rw [KS.out, ← hmi, List.take_left' (by rw [List.length_append, List.length_take, List.length_singleton]; omega)]
            simp
          · have hd := congrArg (List.drop 1) I.out.2.2
            rw [List.drop_drop, List.drop_drop] at hd
            rw [← hd, List.drop_append, List.drop_eq_nil_of_le (by rw [List.length_append, List.length_take, List.length_singleton]; omega), List.nil_append, List.drop_drop]
            congr 1
            rw [List.length_append, List.length_take, List.length_singleton]
            omega
        · rw [hq] at KS
          clear hb2 hN hN2 B0 c0 c1 hq
          go_wp2
          refine ⟨⟨i, j + 1, m, rfl, by go_num, by omega, by omega, Lib.hid ⟨ML.out, ?_, ?_⟩, O2, G2⟩, by simp [intOf]; omega⟩
          · rw [KS.out, I.out.2.1]
            simp
          · have hd := congrArg (List.drop 1) I.out.2.2
            rwa [List.drop_drop, List.drop_drop] at hd
      obtain rfl : j = l.length := by omega
      have hi1 : (i : Int) ≤ (l.length : Int) := by omega
      have hci : ¬ (cap = i) := by omega
      have hz : ∀ w, (zeroValue 41).run Try.prog w = .ok (.agg #[(.int .u32 0), (.int .i64 0)]) w := fun w => by kernel_rfl
      have hzl : (Builtin.zeroCells (.agg #[(.int .u32 0), (.int .i64 0)] : Value).cells (l.length - i)).toList.length = (l.length - i) * 2 := by simp [Builtin.zeroCells, Value.cells]
      have hcl : ∀ ty c, (Builtin.clear_ #[27] ty #[.slice (some ⟨g, i * 2, none⟩) (l.length - i) c]).run Try.prog wr = .ok (.tuple #[]) (wr.setCells g (i * 2) (Builtin.zeroCells (.agg #[(.int .u32 0), (.int .i64 0)] : Value).cells (l.length - i)).toList) := fun ty c =>
        run_clear_own wr _ _ ty _ _ Try.underlying27 hz g (i * 2) _ _ (by omega) rfl (fun q hq => O.out.there (by omega)) (fun q _ => O.out.free _) (by
          intro v hv
          simp only [Builtin.zeroCells, Value.cells] at hv
          simp at hv
          obtain ⟨q, _, rfl⟩ := hv
          rcases (show q % 2 = 0 ∨ q % 2 = 1 by omega) with h | h
          · rw [h]; rfl
          · rw [h]; rfl)
      have ID := Lib.hid I
      clear hml
      go_wp2
      go_ret
      have hef : l.filter (fun x => !p x) = m.take i := by rw [ID.out.2.1, List.take_length]
      have hlen : (m.take i).length = i := by rw [List.length_take, ID.out.1]; omega
      rw [hef]
      refine ⟨?_, ?_, grown_trans G.out (grown_setCells _ _)⟩
      · rw [hlen]
        rfl
      · exact (O.out.take pgE_2 i).behind pgE_2 (i * 2) _ (by rw [hlen]; omega) (by show i * 2 + (Builtin.zeroCells (.agg #[(.int .u32 0), (.int .i64 0)] : Value).cells (l.length - i)).toList.length ≤ cap * 2; rw [hzl]; omega)
def pgIns (g i : Nat) (l vs : List S41) (w : World) (e : Ending) (w' : World) : Prop := ∃ g' cap', e = .returned (.slice (some ⟨g', 0, none⟩) (l.length + vs.length) cap') ∧ OwnB pgE 41 w' g' cap' (l.take i ++ vs ++ l.drop i) ∧ (g' = g ∨ w.heap.size ≤ g') ∧ w.grownBy w' (some g)
set_option maxHeartbeats 4000000 in
set_option maxRecDepth 100000 in
/-- at the end -/
theorem pg_ins_end (g cap gv vc i : Nat) (l vs : List S41) (w : World) (ho : OwnB pgE 41 w g cap l) (hv : OwnB pgE 41 w gv vc vs) (hg : gv ≠ g) (hl : l.length ≤ 1000000) (hvl : vs.length ≤ 1000000) (hv0 : 0 < vs.length) (hi : i = l.length) :
    Calls Try.prog 98 #[.slice (some ⟨g, 0, none⟩) l.length cap, .int .i64 i, .slice (some ⟨gv, 0, none⟩) vs.length vc] w (pgIns g i l vs w) := by
  subst hi
  have hn1 : l.length ≤ cap := ho.len_le
  have hc63 : cap ≤ 9223372036854775807 := ho.cap_le
  have hglt := ho.lt
  have HO := Lib.hid (pg_R ho (Nat.zero_le g))
  have HV := Lib.hid (pg_C hv)
  have hz1 : ¬ ((vs.length : Int) = 0) := by omega
  have hgs := ho.lt
  clear ho hv
  by_cases hcc : cap = l.length
  all_goals
    go_enter Try.func98, Try.ntmps98
    go_wp2_with (at_builtin; refine Kd.R_append_rows k41 (w0 := w) (Rr := (k41).K w) 0 rfl _ _ 27 41 (.agg #[(.int .u32 0), (.int .i64 0)]) 16 rfl Try.underlying27 info41 rfl (by decide) (by omega) _ l vs _ _ _ (fun _ => True) (fun _ => False) rfl rfl HO.out HV.out ?q3 (fun _ h => h.elim) (fun _ _ => trivial) ?q4 ?q5 ?q6 ?_)
    case q3 =>
      intro x cs h
      rw [k41_open h]
      exact k41_mkM _ _ _ _
    case q4 => exact Below.refl _ w
    case q5 => exact Nat.zero_le _
    case q6 => omega
    intro v1 w1 h1 _ h3 h4
    rcases pg_own h1 with ⟨_, h5⟩ | ⟨g', cap', rfl, _, h6⟩
    · have := congrArg List.length h5
      rw [List.length_append] at this
      simp only [List.length_nil] at this
      omega
    have H3 := Lib.hid h3
    have H6 := Lib.hid h6
    have H4 := Lib.hid (show g' = g ∨ w.heap.size ≤ g' by
      rcases h4 with h4 | ⟨b, hb, hle⟩
      · exact .inl (by simpa [Value.ownBlock] using h4)
      · have : g' = b := by simpa [Value.ownBlock] using hb
        exact .inr (this ▸ hle))
    rw [List.length_append]
    clear h1 h3 h4 h6
    go_wp2
    go_ret
    refine ⟨g', cap', rfl, ?_, H4.out, H3.out⟩
    rw [List.take_length, List.drop_length, List.append_nil]
    exact H6.out
set_option maxHeartbeats 8000000 in
set_option maxRecDepth 100000 in
/-- within, and there is room -/
theorem pg_ins_room (g cap gv vc i : Nat) (l vs : List S41) (w : World) (ho : OwnB pgE 41 w g cap l) (hv : OwnB pgE 41 w gv vc vs) (hg : gv ≠ g) (hl : l.length ≤ 1000000) (hvl : vs.length ≤ 1000000) (hv0 : 0 < vs.length) (hi : i < l.length) (hroom : l.length + vs.length ≤ cap) :
    Calls Try.prog 98 #[.slice (some ⟨g, 0, none⟩) l.length cap, .int .i64 i, .slice (some ⟨gv, 0, none⟩) vs.length vc] w (pgIns g i l vs w) := by
  have hc63 : cap ≤ 9223372036854775807 := ho.cap_le
  have hglt := ho.lt
  have hvlt := hv.lt
  obtain ⟨n, hn⟩ : ∃ n, n = l.length := ⟨_, rfl⟩
  obtain ⟨m, hm⟩ : ∃ m, m = vs.length := ⟨_, rfl⟩
  have hdl : (l.drop i).length = n - i := by rw [List.length_drop, hn]
  have hz1 : ¬ ((m : Int) = 0) := by omega
  have hz2 : ¬ ((i : Int) = (n : Int)) := by omega
  have hsz : (Try.prog.info? 41).map (·.size) = some 2 := by kernel_rfl
  have hzs : ∀ w, (Go.sizeOf 41).run Try.prog w = .ok 2 w := fun w => by kernel_rfl
  obtain ⟨curg, hgb, hgs, hgc, _, _⟩ := id ho
  obtain ⟨curv, hvb, hvs, _, hvl', _⟩ := id hv
  have hov : ∀ lb cb, (callFunc 132 #[.slice (some ⟨gv, 0, none⟩) m vc, .slice (some ⟨g, (i + m) * 2, none⟩) lb cb]).run Try.prog w = .ok (.value (.bool false)) w := fun lb cb => by
    rw [run_callFunc_extern (fn := Try.f132) (by kernel_rfl) (by kernel_rfl) (by kernel_rfl) (by kernel_rfl) (e := Extern.SlicesOverlaps.overlaps #[27, 27] #[4]) (by kernel_rfl),
      Lib.run_overlaps_apart w 27 4 41 Try.underlying27 2 hzs ⟨gv, 0, none⟩ ⟨g, (i + m) * 2, none⟩ m vc lb cb hg 41 41 curv.size curg.size (by simp [World.shape?, hvb]) (by simp [World.shape?, hgb]) (by omega) (sblk_free hvb _) (sblk_free hvb _)]
    rfl
  have hvone := pg_flat_one vs
  have hdone := pg_flat_one (l.drop i)
  have hdfl := flat_len pgE_2 (l.drop i)
  have hvfl := flat_len pgE_2 vs
  rw [hdl] at hdfl
  have hcs : ∀ j v, ((l.drop i).flatMap pgE)[j]? = some v → w.cell? ⟨g, i * 2 + j, none⟩ = some v := fun j v hj => by
    rw [← flat_drop pgE_2, List.getElem?_drop] at hj
    obtain ⟨hlt, _⟩ := List.getElem?_eq_some_iff.1 hj
    rw [flat_len pgE_2] at hlt
    have h := ho.cell pgE_2 (show (i * 2 + j) / 2 < l.length by omega) (show (i * 2 + j) % 2 < 2 by omega)
    have h' := flat_get pgE_2 (show (i * 2 + j) / 2 < l.length by omega) (show (i * 2 + j) % 2 < 2 by omega)
    rw [show (i * 2 + j) / 2 * 2 + (i * 2 + j) % 2 = i * 2 + j by omega] at h h'
    rw [h, ← h', hj]
  have hvs' : ∀ j v, (vs.flatMap pgE)[j]? = some v → w.cell? ⟨gv, j, none⟩ = some v := fun j v hj => by
    obtain ⟨hlt, _⟩ := List.getElem?_eq_some_iff.1 hj
    rw [flat_len pgE_2] at hlt
    have h := hv.cell pgE_2 (show j / 2 < vs.length by omega) (show j % 2 < 2 by omega)
    have h' := flat_get pgE_2 (show j / 2 < vs.length by omega) (show j % 2 < 2 by omega)
    rw [show j / 2 * 2 + j % 2 = j by omega] at h h'
    rw [h, ← h', hj]
  have hw1 : IntKind.i64.wrap ((i : Int) + (m : Int)) = (i : Int) + (m : Int) := by rw [IntKind.wrap_i64]; omega
  have hb1 : (0 : Int) ≤ (i : Int) + (m : Int) := by omega
  have hin : i ≤ n := by omega
  have htn : ((i : Int) + (m : Int)).toNat = i + m := by omega
  have hb2 : ¬ (cap = i + m) := by omega
  have hb3 : (i : Int) ≤ (n : Int) + (m : Int) := by omega
  have hb4 : ¬ (cap = i) := by omega
  have hcp1 : ∀ ty dc sc, (Builtin.copy_ #[27, 27] ty #[.slice (some ⟨g, (i + m) * 2, none⟩) (n + m - (i + m)) dc, .slice (some ⟨g, i * 2, none⟩) (n + m - i) sc]).run Try.prog w.drew = .ok (goInt (Nat.min (n + m - i) (n + m - (i + m)))) (w.drew.setCells g ((i + m) * 2) ((l.drop i).flatMap pgE)) := fun ty dc sc =>
    run_copy_own w.drew _ _ ty 41 2 g ((i + m) * 2) (n + m - (i + m)) dc ⟨g, i * 2, none⟩ (n + m - i) sc _ Try.underlying27 hsz (by rw [hdfl, show Nat.min (n + m - i) (n + m - (i + m)) = n - i by simp only [Nat.min_def]; split <;> omega])
      (fun j v hj => by rw [Addr.add_lit]; exact hcs j v hj) (fun j hj => by rw [hdfl] at hj; exact ho.there (by omega)) (fun j _ => ho.free _) hdone
  obtain ⟨W1, hW1⟩ : ∃ W1, W1 = w.drew.setCells g ((i + m) * 2) ((l.drop i).flatMap pgE) := ⟨_, rfl⟩
  have hcell1 : ∀ x, x.block ≠ g → W1.cell? x = w.cell? x := fun x hx => by
    rw [hW1, World.cell?_setCells_out g _ _ _ _ (fun h _ => absurd h hx)]
    rfl
  have hthere : ∀ j, j < cap * 2 → (W1.cell? ⟨g, j, none⟩).isSome = true := fun j hj => by
    obtain ⟨c1, a0, a1, _⟩ := setCells_row ((l.drop i).flatMap pgE) ((i + m) * 2) w.drew curg hgb (by rw [hdfl]; omega)
    rw [hW1, sblk_cell a0, Array.getElem?_eq_getElem (by omega)]
    rfl
  have hfree : ∀ x, W1.frozen? x = w.frozen? x := fun x => by
    rw [hW1, World.frozen?_setCells]
    rfl
  have hcp2 : ∀ (W : World), (∀ x, W.cell? x = W1.cell? x) → (∀ x, W.frozen? x = W1.frozen? x) → ∀ ty dc, (Builtin.copy_ #[27, 27] ty #[.slice (some ⟨g, i * 2, none⟩) (n + m - i) dc, .slice (some ⟨gv, 0, none⟩) m vc]).run Try.prog W = .ok (goInt (Nat.min m (n + m - i))) (W.setCells g (i * 2) (vs.flatMap pgE)) := fun W hWc hWf ty dc =>
    run_copy_own W _ _ ty 41 2 g (i * 2) (n + m - i) dc ⟨gv, 0, none⟩ m vc _ Try.underlying27 hsz (by rw [hvfl, hm, show Nat.min vs.length (n + vs.length - i) = vs.length by simp only [Nat.min_def]; split <;> omega])
      (fun j v hj => by rw [Addr.add_lit, Nat.zero_add, hWc, hcell1 _ hg]; exact hvs' j v hj)
      (fun j hj => by rw [hvfl] at hj; rw [hWc]; exact hthere _ (by omega)) (fun j _ => by rw [hWf, hfree]; exact ho.free _) hvone
  rw [← hW1] at hcp1
  have HW := Lib.hid hW1
  have HO := Lib.hid ho
  have LN := Lib.hid hn
  have LM := Lib.hid hm
  have mixed : Try.prog.follows Departure.mixedOrders = true := by kernel_rfl
  unfold pgIns
  rw [← hn, ← hm]
  rw [← hn] at hi hroom hl
  rw [← hm] at hroom hvl hv0
  clear hcs hvs' hcell1 hthere hfree hW1 ho hv hvfl hdfl hvone hdone hgb hvb hgs hvs hgc hvl' hn hm hdl
  go_enter Try.func98, Try.ntmps98
  go_wp2_with (fail)
  go_region_law_o (refine step_copy_runI rfl _ _ 27 27 rfl _ _ (by simp [Act.eval, Act.put]) (by simp [Act.eval, Act.put]) (hcp1 _ _ _) ?_)
  go_wp2_with (at_builtin; refine wpList_copy_runI _ rfl _ _ 27 27 rfl _ _ rfl rfl (hcp2 _ (fun _ => rfl) (fun _ => rfl) _ _) ?_)
  go_ret
  refine ⟨g, cap, rfl, ?_, .inl rfl, ?_⟩
  · have h := (HO.out.move (w' := w.drew) rfl).insert pgE_2 i vs (by rw [← LN.out]; omega) (by rw [← LN.out, ← LM.out]; exact hroom) (w1 := W1) (by rw [HW.out, LM.out])
    exact h
  · rw [HW.out]
    exact grown_trans (grown_of_below ((Below.refl _ w).drew)) (grown_trans (grown_setCells _ _) (grown_setCells _ _))
set_option maxHeartbeats 8000000 in
set_option maxRecDepth 100000 in
/-- within, and there is no room -/
theorem pg_ins_grow (g cap gv vc i : Nat) (l vs : List S41) (w : World) (ho : OwnB pgE 41 w g cap l) (hv : OwnB pgE 41 w gv vc vs) (hg : gv ≠ g) (hl : l.length ≤ 1000000) (hvl : vs.length ≤ 1000000) (hv0 : 0 < vs.length) (hi : i < l.length) (hroom : cap < l.length + vs.length) :
    Calls Try.prog 98 #[.slice (some ⟨g, 0, none⟩) l.length cap, .int .i64 i, .slice (some ⟨gv, 0, none⟩) vs.length vc] w (pgIns g i l vs w) := by
  have hc63 : cap ≤ 9223372036854775807 := ho.cap_le
  have hnc : l.length ≤ cap := ho.len_le
  have hglt := ho.lt
  have hvlt := hv.lt
  obtain ⟨n, hn⟩ : ∃ n, n = l.length := ⟨_, rfl⟩
  obtain ⟨m, hm⟩ : ∃ m, m = vs.length := ⟨_, rfl⟩
  have hdl : (l.drop i).length = n - i := by rw [List.length_drop, hn]
  have hz1 : ¬ ((m : Int) = 0) := by omega
  have hz2 : ¬ ((i : Int) = (n : Int)) := by omega
  have hsz : (Try.prog.info? 41).map (·.size) = some 2 := by kernel_rfl
  obtain ⟨i0, hi0, hii⟩ := Option.map_eq_some_iff.1 info41
  simp only [Prod.mk.injEq] at hii
  obtain ⟨hz0, hzs, hzb⟩ := hii
  have hvone := pg_flat_one vs
  have hdone := pg_flat_one (l.drop i)
  have hdfl := flat_len pgE_2 (l.drop i)
  have hvfl := flat_len pgE_2 vs
  rw [hdl] at hdfl
  have hcs0 : ∀ j v, (l.flatMap pgE)[j]? = some v → w.cell? ⟨g, j, none⟩ = some v := fun j v hj => by
    obtain ⟨hlt, _⟩ := List.getElem?_eq_some_iff.1 hj
    rw [flat_len pgE_2] at hlt
    have h := ho.cell pgE_2 (show j / 2 < l.length by omega) (show j % 2 < 2 by omega)
    have h' := flat_get pgE_2 (show j / 2 < l.length by omega) (show j % 2 < 2 by omega)
    rw [show j / 2 * 2 + j % 2 = j by omega] at h h'
    rw [h, ← h', hj]
  have hcs : ∀ j v, ((l.drop i).flatMap pgE)[j]? = some v → w.cell? ⟨g, i * 2 + j, none⟩ = some v := fun j v hj => by
    rw [← flat_drop pgE_2, List.getElem?_drop] at hj
    exact hcs0 _ _ hj
  have hvs' : ∀ j v, (vs.flatMap pgE)[j]? = some v → w.cell? ⟨gv, j, none⟩ = some v := fun j v hj => by
    obtain ⟨hlt, _⟩ := List.getElem?_eq_some_iff.1 hj
    rw [flat_len pgE_2] at hlt
    have h := hv.cell pgE_2 (show j / 2 < vs.length by omega) (show j % 2 < 2 by omega)
    have h' := flat_get pgE_2 (show j / 2 < vs.length by omega) (show j % 2 < 2 by omega)
    rw [show j / 2 * 2 + j % 2 = j by omega] at h h'
    rw [h, ← h', hj]
  have hkk : (n : Int) + (m : Int) - (i : Int) = ((n + m - i : Nat) : Int) := by omega
  have hik : i + (n + m - i) = n + m := by omega
  have htf : ((l.take i).flatMap pgE).length = i * 2 := by rw [flat_len pgE_2, List.length_take]; omega
  have hold : (Builtin.firstCells i0.size i (.slice (some ⟨g, 0, none⟩) i cap)).run Try.prog w.drew = .ok ((l.take i).flatMap pgE).toArray w.drew := by
    rw [hzs]
    exact run_firstCells_some w.drew 2 i ⟨g, 0, none⟩ i cap ((l.take i).flatMap pgE) (by rw [htf]) (fun j v hj => by
      rw [Addr.add_lit, Nat.zero_add]
      rw [← flat_take pgE_2, List.getElem?_take] at hj
      split at hj
      · exact hcs0 j v hj
      · cases hj)
  have hrz : ∀ ty, (Builtin.append_ #[27, 3] ty #[.slice (some ⟨g, 0, none⟩) i cap, .int .i64 ((n : Int) + (m : Int) - (i : Int))]).run Try.prog w =
      .ok (.slice (some ⟨w.heap.size, 0, none⟩) (n + m) (grownCap w (n + m) cap 41)) (w.drew.alloc (.cells (((l.take i).flatMap pgE).toArray ++ Builtin.zeroCells (.agg #[(.int .u32 0), (.int .i64 0)] : Value).cells (n + m - i) ++ Builtin.zeroCells (.agg #[(.int .u32 0), (.int .i64 0)] : Value).cells (grownCap w (n + m) cap 41 - (n + m))) 41)) := fun ty => by
    have h := Lib.run_append_grow_zeros (P := Try.prog) w 27 3 ty 41 i0 _ .i64 .i64 Try.underlying27 Try.underlying3 hi0 hz0 (some ⟨g, 0, none⟩) i cap _ hold (n + m - i) (by omega) (by omega) (by omega) (by omega) (by rw [hzb]; omega) (by rw [hzb, hik]; exact growslice_fits (by omega) (by omega))
    rw [hik] at h
    rw [hkk]
    exact h
  obtain ⟨G, hG⟩ : ∃ G, G = grownCap w (n + m) cap 41 := ⟨_, rfl⟩
  obtain ⟨ROW, hROW⟩ : ∃ ROW : Array Value, ROW = ((l.take i).flatMap pgE).toArray ++ Builtin.zeroCells (.agg #[(.int .u32 0), (.int .i64 0)] : Value).cells (n + m - i) ++ Builtin.zeroCells (.agg #[(.int .u32 0), (.int .i64 0)] : Value).cells (G - (n + m)) := ⟨_, rfl⟩
  rw [← hG] at hrz
  rw [← hROW] at hrz
  have hGn : n + m ≤ G := by rw [hG]; exact grownCap_ge w _ _ _
  have hG63 : G ≤ 9223372036854775807 := by
    have := grownCap_le_maxLen w (n + m) cap 41 (by unfold maxLen; omega)
    rw [← hG] at this
    unfold maxLen at this
    exact this
  have hRs : ROW.size = G * 2 := by
    rw [hROW]
    simp only [Array.size_append, List.size_toArray, htf, Builtin.zeroCells, Value.cells]
    simp
    omega
  obtain ⟨W1, hW1⟩ : ∃ W1, W1 = w.drew.alloc (.cells ROW 41) := ⟨_, rfl⟩
  rw [← hW1] at hrz
  have hblk : W1.heap[w.heap.size]? = some (.cells ROW 41 (0, 0)) := by rw [hW1]; exact blk_new w.drew _
  have O1 : OwnB pgE 41 W1 w.heap.size G (l.take i) := ⟨ROW, hblk, hRs, hG63, by rw [List.length_take]; omega, by
    rw [hROW, List.length_take, show min i l.length = i by omega, Array.toList_append, Array.toList_append, List.append_assoc]
    exact List.take_left' htf⟩
  have hti : (l.take i).length = i := by rw [List.length_take]; omega
  have O2 : OwnB pgE 41 (W1.setCells w.heap.size (i * 2) (vs.flatMap pgE)) w.heap.size G (l.take i ++ vs) := by
    have h := O1.put pgE_2 i vs (by rw [hti]; omega) (by omega)
    rwa [List.take_of_length_le (by rw [hti]; omega), List.drop_eq_nil_of_le (by rw [hti]; omega), List.append_nil] at h
  have hl2 : (l.take i ++ vs).length = i + m := by rw [List.length_append, hti, hm]
  have O3 : ∀ W : World, W.heap[w.heap.size]? = (W1.setCells w.heap.size (i * 2) (vs.flatMap pgE)).heap[w.heap.size]? → OwnB pgE 41 (W.setCells w.heap.size ((i + m) * 2) ((l.drop i).flatMap pgE)) w.heap.size G (l.take i ++ vs ++ l.drop i) := fun W hW => by
    have h := (O2.move hW).put pgE_2 (i + m) (l.drop i) (by omega) (by rw [hdl]; omega)
    have e1 : (l.take i ++ vs).take (i + m) = l.take i ++ vs := List.take_of_length_le (by omega)
    have e2 : (l.take i ++ vs).drop (i + m + (l.drop i).length) = [] := List.drop_eq_nil_of_le (by omega)
    rwa [e1, e2, List.append_nil] at h
  have hold' : ∀ b j v, b < w.heap.size → w.cell? ⟨b, j, none⟩ = some v → W1.cell? ⟨b, j, none⟩ = some v := fun b j v hb h => by
    have hB : Below w.heap.size w W1 := by rw [hW1]; exact ((Below.refl _ w).drew).alloc (Nat.le_refl _) _
    rw [hB.cell (p := ⟨b, j, none⟩) hb]
    exact h
  have hcpA : ∀ (W : World), (∀ x, W.cell? x = W1.cell? x) → (∀ x, W.frozen? x = W1.frozen? x) → ∀ ty dc, (Builtin.copy_ #[27, 27] ty #[.slice (some ⟨w.heap.size, i * 2, none⟩) (n + m - i) dc, .slice (some ⟨gv, 0, none⟩) m vc]).run Try.prog W = .ok (goInt (Nat.min m (n + m - i))) (W.setCells w.heap.size (i * 2) (vs.flatMap pgE)) := fun W hWc hWf ty dc =>
    run_copy_own W _ _ ty 41 2 w.heap.size (i * 2) (n + m - i) dc ⟨gv, 0, none⟩ m vc _ Try.underlying27 hsz (by rw [hvfl, hm, show Nat.min vs.length (n + vs.length - i) = vs.length by simp only [Nat.min_def]; split <;> omega])
      (fun j v hj => by rw [Addr.add_lit, Nat.zero_add, hWc]; exact hold' _ _ _ hvlt (hvs' j v hj))
      (fun j hj => by rw [hvfl] at hj; rw [hWc]; exact O1.there (by omega)) (fun j _ => by rw [hWf]; exact O1.free _) hvone
  have hcpB : ∀ (W : World), (∀ x, W.cell? x = (W1.setCells w.heap.size (i * 2) (vs.flatMap pgE)).cell? x) → (∀ x, W.frozen? x = (W1.setCells w.heap.size (i * 2) (vs.flatMap pgE)).frozen? x) → ∀ ty dc sc, (Builtin.copy_ #[27, 27] ty #[.slice (some ⟨w.heap.size, (i + m) * 2, none⟩) (n + m - (i + m)) dc, .slice (some ⟨g, i * 2, none⟩) (n - i) sc]).run Try.prog W = .ok (goInt (Nat.min (n - i) (n + m - (i + m)))) (W.setCells w.heap.size ((i + m) * 2) ((l.drop i).flatMap pgE)) := fun W hWc hWf ty dc sc =>
    run_copy_own W _ _ ty 41 2 w.heap.size ((i + m) * 2) (n + m - (i + m)) dc ⟨g, i * 2, none⟩ (n - i) sc _ Try.underlying27 hsz (by rw [hdfl, show Nat.min (n - i) (n + m - (i + m)) = n - i by simp only [Nat.min_def]; split <;> omega])
      (fun j v hj => by
        rw [Addr.add_lit, hWc, World.cell?_setCells_out _ _ _ _ _ (fun h _ => by have : g = w.heap.size := h; omega)]
        exact hold' _ _ _ hglt (hcs j v hj))
      (fun j hj => by rw [hdfl] at hj; rw [hWc]; exact O2.there (by omega)) (fun j _ => by rw [hWf]; exact O2.free _) hdone
  have mixed : Try.prog.follows Departure.mixedOrders = true := by kernel_rfl
  have hGi : ¬ (G = i) := by omega
  have hGim : ¬ (G = i + m) := by omega
  have hci : ¬ (cap = i) := by omega
  have hw1 : IntKind.i64.wrap ((i : Int) + (m : Int)) = (i : Int) + (m : Int) := by rw [IntKind.wrap_i64]; omega
  have hb1 : (0 : Int) ≤ (i : Int) + (m : Int) := by omega
  have hin : i ≤ n := by omega
  have htn : ((i : Int) + (m : Int)).toNat = i + m := by omega
  have hb3 : (i : Int) ≤ (n : Int) := by omega
  have hz3 : (cap : Int) < (n : Int) + (m : Int) := by omega
  have HW := Lib.hid hW1
  have OO := Lib.hid O3
  unfold pgIns
  rw [← hn, ← hm]
  rw [← hn] at hi hroom hl hnc
  rw [← hm] at hroom hvl hv0
  clear hkk hik hold hROW hG hRs hblk O1 O2 O3 hti hl2 hold' hcs0 hcs hvs' hvfl hdfl hvone hdone hn hm hdl htf hi0 hz0 hzs hzb ho hv hW1
  go_enter Try.func98, Try.ntmps98
  go_wp2_with (first
    | (at_builtin; refine Lib.wpList_append_run _ rfl _ _ _ _ rfl _ _ rfl rfl _ _ (hrz _) ?_)
    | (at_builtin; refine wpList_copy_runI _ rfl _ _ 27 27 rfl _ _ rfl rfl (hcpA _ (fun _ => rfl) (fun _ => rfl) _ _) ?_))
  go_region_law_o (refine step_copy_runI rfl _ _ 27 27 rfl (.slice (some ⟨w.heap.size, (i + m) * 2, none⟩) (n + m - (i + m)) (G - (i + m))) (.slice (some ⟨g, i * 2, none⟩) (n - i) (cap - i)) (by simp [Act.eval, Act.put]) (by simp [Act.eval, Act.put]) (hcpB (W1.setCells w.heap.size (i * 2) (vs.flatMap pgE)).drew (fun _ => rfl) (fun _ => rfl) 3 (G - (i + m)) (cap - i)) ?_)
  go_wp2
  go_ret
  refine ⟨w.heap.size, G, rfl, OO.out _ rfl, .inr (Nat.le_refl _), ?_⟩
  rw [HW.out]
  have B1 : Below w.heap.size w (w.drew.alloc (.cells ROW 41)) := ((Below.refl _ w).drew).alloc (Nat.le_refl _) _
  have hs : (w.drew.alloc (.cells ROW 41)).heap.size = w.heap.size + 1 := World.size_alloc _ _
  exact grown_of_below ((B1.grown (grown_setCells (w := w.drew.alloc (.cells ROW 41)) (i * 2) (vs.flatMap pgE)) (by rw [hs]; omega) (fun k hk => by injection hk with hk; omega)).drew.grown (grown_setCells _ _) (by show w.heap.size ≤ ((w.drew.alloc (.cells ROW 41)).setCells _ _ _).heap.size; rw [(setCells_same _ _ _ _).2.2.2, hs]; omega) (fun k hk => by injection hk with hk; omega))
theorem pg_ins.calls (g cap gv vc i : Nat) (l vs : List S41) (w : World) (ho : OwnB pgE 41 w g cap l) (hv : OwnB pgE 41 w gv vc vs) (hg : gv ≠ g) (hl : l.length ≤ 1000000) (hvl : vs.length ≤ 1000000) (hv0 : 0 < vs.length) (hi : i ≤ l.length) : Calls Try.prog 98 #[.slice (some ⟨g, 0, none⟩) l.length cap, .int .i64 i, .slice (some ⟨gv, 0, none⟩) vs.length vc] w (pgIns g i l vs w) := by
  rcases Nat.eq_or_lt_of_le hi with h | h
  · exact pg_ins_end g cap gv vc i l vs w ho hv hg hl hvl hv0 h
  · by_cases hr : l.length + vs.length ≤ cap
    · exact pg_ins_room g cap gv vc i l vs w ho hv hg hl hvl hv0 h hr
    · exact pg_ins_grow g cap gv vc i l vs w ho hv hg hl hvl hv0 h (by omega)
set_option maxHeartbeats 4000000 in
set_option maxRecDepth 100000 in
/-- Insert into nothing -/
theorem pg_ins_nil.calls (gv vc : Nat) (vs : List S41) (w : World) (hv : OwnB pgE 41 w gv vc vs) (hvl : vs.length ≤ 1000000) (hv0 : 0 < vs.length) :
    Calls Try.prog 98 #[.slice none 0 0, .int .i64 0, .slice (some ⟨gv, 0, none⟩) vs.length vc] w fun e w' => ∃ g' cap', e = .returned (.slice (some ⟨g', 0, none⟩) vs.length cap') ∧ OwnB pgE 41 w' g' cap' vs ∧ w.heap.size ≤ g' ∧ Below w.heap.size w w' := by
  have HO := Lib.hid (Kd.R_nil k41 41 w w.heap.size (fun _ => True))
  have HV := Lib.hid (pg_C hv)
  have hz1 : ¬ ((vs.length : Int) = 0) := by omega
  clear hv
  go_enter Try.func98, Try.ntmps98
  go_wp2_with (at_builtin; refine Kd.R_append_rows k41 (w0 := w) (Rr := (k41).K w) w.heap.size rfl _ _ 27 41 (.agg #[(.int .u32 0), (.int .i64 0)]) 16 rfl Try.underlying27 info41 rfl (by decide) (by omega) _ [] vs _ _ _ (fun _ => True) (fun _ => False) rfl rfl HO.out HV.out ?q3 (fun _ h => h.elim) (fun _ _ => trivial) ?q4 ?q5 ?q6 ?_)
  case q3 =>
    intro x cs h
    rw [k41_open h]
    exact k41_mkM _ _ _ _
  case q4 => exact Below.refl _ w
  case q5 => exact Nat.le_refl _
  case q6 => simp only [List.length_nil]; omega
  intro v1 w1 h1 h2 _ _
  rcases pg_own h1 with ⟨_, h5⟩ | ⟨g', cap', rfl, h5, h6⟩
  · subst h5
    exact absurd hv0 (by simp)
  have H2 := Lib.hid h2
  have H5 := Lib.hid h5
  have H6 := Lib.hid h6
  clear h1 h2 h5 h6
  go_wp2
  go_ret
  exact ⟨g', cap', rfl, H6.out, H5.out, H2.out⟩
end Go.Proofs.Ytgkjdpdmmlalcaa.F
end
