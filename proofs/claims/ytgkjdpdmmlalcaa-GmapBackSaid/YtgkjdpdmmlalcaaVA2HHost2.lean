import Derived.Test.YtgkjdpdmmlalcaaVZF0
import Derived.Test.YtgkjdpdmmlalcaaVA0
import Derived.Test.YtgkjdpdmmlalcaaVA1HHost1
section
namespace Go.Proofs.Ytgkjdpdmmlalcaa.F
open Go.RowKit Go.Shelf Go.Proofs.YtgkjdpdmmlalcaaW.PrintWords Go.Proofs.YtgkjdpdmmlalcaaW.PrintLast Go.Proofs.YtgkjdpdmmlalcaaW.PrintMore
set_option linter.unusedVariables false
set_option linter.unusedSimpArgs false
def mpIns (g i : Nat) (l vs : List S83) (w : World) (e : Ending) (w' : World) : Prop := ∃ g' cap', e = .returned (.slice (some ⟨g', 0, none⟩) (l.length + vs.length) cap') ∧ OwnB mpE 83 w' g' cap' (l.take i ++ vs ++ l.drop i) ∧ (g' = g ∨ w.heap.size ≤ g') ∧ w.grownBy w' (some g)
set_option maxHeartbeats 4000000 in
set_option maxRecDepth 100000 in
/-- at the end -/
theorem mp_ins_end (g cap gv vc i : Nat) (l vs : List S83) (w : World) (ho : OwnB mpE 83 w g cap l) (hv : OwnB mpE 83 w gv vc vs) (hg : gv ≠ g) (hl : l.length ≤ 1000000) (hvl : vs.length ≤ 1000000) (hv0 : 0 < vs.length) (hi : i = l.length) :
    Calls Try.prog 127 #[.slice (some ⟨g, 0, none⟩) l.length cap, .int .i64 i, .slice (some ⟨gv, 0, none⟩) vs.length vc] w (mpIns g i l vs w) := by
  subst hi
  have hn1 : l.length ≤ cap := ho.len_le
  have hc63 : cap ≤ 9223372036854775807 := ho.cap_le
  have hglt := ho.lt
  have HO := Lib.hid (mp_R ho (Nat.zero_le g))
  have HV := Lib.hid (mp_C hv)
  have hz1 : ¬ ((vs.length : Int) = 0) := by omega
  have hgs := ho.lt
  clear ho hv
  by_cases hcc : cap = l.length
  all_goals
    go_enter Try.func127, Try.ntmps127
    go_wp2_with (at_builtin; refine Kd.R_append_rows k83 (w0 := w) (Rr := (k83).K w) 0 rfl _ _ 22 83 (.agg #[(.int .u64 0), (.int .i64 0)]) 16 rfl Try.underlying22 info83 rfl (by decide) (by omega) _ l vs _ _ _ (fun _ => True) (fun _ => False) rfl rfl HO.out HV.out ?q3 (fun _ h => h.elim) (fun _ _ => trivial) ?q4 ?q5 ?q6 ?_)
    case q3 =>
      intro x cs h
      rw [k83_open h]
      exact k83_mkM _ _ _ _
    case q4 => exact Below.refl _ w
    case q5 => exact Nat.zero_le _
    case q6 => omega
    intro v1 w1 h1 _ h3 h4
    rcases mp_own h1 with ⟨_, h5⟩ | ⟨g', cap', rfl, _, h6⟩
    · have := congrArg List.length h5
      rw [List.length_append] at this
      simp only [List.length_nil] at this
      omega
    have H3 := Lib.hid h3
    have H6 := Lib.hid h6
    have H4 := Lib.hid (show g' = g ∨ w.heap.size ≤ g' by
      rcases h4 with h4 | ⟨b, hb, hle⟩
      · exact .inl (by simpa [Value.ownBlock] using h4)
      · have : g' = b := by simpa [Value.ownBlock] using hb
        exact .inr (this ▸ hle))
    rw [List.length_append]
    clear h1 h3 h4 h6
    go_wp2
    go_ret
    refine ⟨g', cap', rfl, ?_, H4.out, H3.out⟩
    rw [List.take_length, List.drop_length, List.append_nil]
    exact H6.out
set_option maxHeartbeats 8000000 in
set_option maxRecDepth 100000 in
/-- within, and there is room -/
theorem mp_ins_room (g cap gv vc i : Nat) (l vs : List S83) (w : World) (ho : OwnB mpE 83 w g cap l) (hv : OwnB mpE 83 w gv vc vs) (hg : gv ≠ g) (hl : l.length ≤ 1000000) (hvl : vs.length ≤ 1000000) (hv0 : 0 < vs.length) (hi : i < l.length) (hroom : l.length + vs.length ≤ cap) :
    Calls Try.prog 127 #[.slice (some ⟨g, 0, none⟩) l.length cap, .int .i64 i, .slice (some ⟨gv, 0, none⟩) vs.length vc] w (mpIns g i l vs w) := by
  have hc63 : cap ≤ 9223372036854775807 := ho.cap_le
  have hglt := ho.lt
  have hvlt := hv.lt
  obtain ⟨n, hn⟩ : ∃ n, n = l.length := ⟨_, rfl⟩
  obtain ⟨m, hm⟩ : ∃ m, m = vs.length := ⟨_, rfl⟩
  have hdl : (l.drop i).length = n - i := by rw [List.length_drop, hn]
  have hz1 : ¬ ((m : Int) = 0) := by omega
  have hz2 : ¬ ((i : Int) = (n : Int)) := by omega
  have hsz : (Try.prog.info? 83).map (·.size) = some 2 := by kernel_rfl
  have hzs : ∀ w, (Go.sizeOf 83).run Try.prog w = .ok 2 w := fun w => by kernel_rfl
  obtain ⟨curg, hgb, hgs, hgc, _, _⟩ := id ho
  obtain ⟨curv, hvb, hvs, _, hvl', _⟩ := id hv
  have hov : ∀ lb cb, (callFunc 153 #[.slice (some ⟨gv, 0, none⟩) m vc, .slice (some ⟨g, (i + m) * 2, none⟩) lb cb]).run Try.prog w = .ok (.value (.bool false)) w := fun lb cb => by
    rw [run_callFunc_extern (fn := Try.f153) (by kernel_rfl) (by kernel_rfl) (by kernel_rfl) (by kernel_rfl) (e := Extern.SlicesOverlaps.overlaps #[22, 22] #[4]) (by kernel_rfl),
      Lib.run_overlaps_apart w 22 4 83 Try.underlying22 2 hzs ⟨gv, 0, none⟩ ⟨g, (i + m) * 2, none⟩ m vc lb cb hg 83 83 curv.size curg.size (by simp [World.shape?, hvb]) (by simp [World.shape?, hgb]) (by omega) (sblk_free hvb _) (sblk_free hvb _)]
    rfl
  have hvone := mp_flat_one vs
  have hdone := mp_flat_one (l.drop i)
  have hdfl := flat_len mpE_2 (l.drop i)
  have hvfl := flat_len mpE_2 vs
  rw [hdl] at hdfl
  have hcs : ∀ j v, ((l.drop i).flatMap mpE)[j]? = some v → w.cell? ⟨g, i * 2 + j, none⟩ = some v := fun j v hj => by
    rw [← flat_drop mpE_2, List.getElem?_drop] at hj
    obtain ⟨hlt, _⟩ := List.getElem?_eq_some_iff.1 hj
    rw [flat_len mpE_2] at hlt
    have h := ho.cell mpE_2 (show (i * 2 + j) / 2 < l.length by omega) (show (i * 2 + j) % 2 < 2 by omega)
    have h' := flat_get mpE_2 (show (i * 2 + j) / 2 < l.length by omega) (show (i * 2 + j) % 2 < 2 by omega)
    rw [show (i * 2 + j) / 2 * 2 + (i * 2 + j) % 2 = i * 2 + j by omega] at h h'
    rw [h, ← h', hj]
  have hvs' : ∀ j v, (vs.flatMap mpE)[j]? = some v → w.cell? ⟨gv, j, none⟩ = some v := fun j v hj => by
    obtain ⟨hlt, _⟩ := List.getElem?_eq_some_iff.1 hj
    rw [flat_len mpE_2] at hlt
    have h := hv.cell mpE_2 (show j / 2 < vs.length by omega) (show j % 2 < 2 by omega)
    have h' := flat_get mpE_2 (show j / 2 < vs.length by omega) (show j % 2 < 2 by omega)
    rw [show j / 2 * 2 + j % 2 = j by omega] at h h'
    rw [h, ← h', hj]
  have hw1 : IntKind.i64.wrap ((i : Int) + (m : Int)) = (i : Int) + (m : Int) := by rw [IntKind.wrap_i64]; omega
  have hb1 : (0 : Int) ≤ (i : Int) + (m : Int) := by omega
  have hin : i ≤ n := by omega
  have htn : ((i : Int) + (m : Int)).toNat = i + m := by omega
  have hb2 : ¬ (cap = i + m) := by omega
  have hb3 : (i : Int) ≤ (n : Int) + (m : Int) := by omega
  have hb4 : ¬ (cap = i) := by omega
  have hcp1 : ∀ ty dc sc, (Builtin.copy_ #[22, 22] ty #[.slice (some ⟨g, (i + m) * 2, none⟩) (n + m - (i + m)) dc, .slice (some ⟨g, i * 2, none⟩) (n + m - i) sc]).run Try.prog w.drew = .ok (goInt (Nat.min (n + m - i) (n + m - (i + m)))) (w.drew.setCells g ((i + m) * 2) ((l.drop i).flatMap mpE)) := fun ty dc sc =>
    run_copy_own w.drew _ _ ty 83 2 g ((i + m) * 2) (n + m - (i + m)) dc ⟨g, i * 2, none⟩ (n + m - i) sc _ Try.underlying22 hsz (by rw [hdfl, show Nat.min (n + m - i) (n + m - (i + m)) = n - i by simp only [Nat.min_def]; split <;> omega])
      (fun j v hj => by rw [Addr.add_lit]; exact hcs j v hj) (fun j hj => by rw [hdfl] at hj; exact ho.there (by omega)) (fun j _ => ho.free _) hdone
  obtain ⟨W1, hW1⟩ : ∃ W1, W1 = w.drew.setCells g ((i + m) * 2) ((l.drop i).flatMap mpE) := ⟨_, rfl⟩
  have hcell1 : ∀ x, x.block ≠ g → W1.cell? x = w.cell? x := fun x hx => by
    rw [hW1, World.cell?_setCells_out g _ _ _ _ (fun h _ => absurd h hx)]
    rfl
  have hthere : ∀ j, j < cap * 2 → (W1.cell? ⟨g, j, none⟩).isSome = true := fun j hj => by
    obtain ⟨c1, a0, a1, _⟩ := setCells_row ((l.drop i).flatMap mpE) ((i + m) * 2) w.drew curg hgb (by rw [hdfl]; omega)
    rw [hW1, sblk_cell a0, Array.getElem?_eq_getElem (by omega)]
    rfl
  have hfree : ∀ x, W1.frozen? x = w.frozen? x := fun x => by
    rw [hW1, World.frozen?_setCells]
    rfl
  have hcp2 : ∀ (W : World), (∀ x, W.cell? x = W1.cell? x) → (∀ x, W.frozen? x = W1.frozen? x) → ∀ ty dc, (Builtin.copy_ #[22, 22] ty #[.slice (some ⟨g, i * 2, none⟩) (n + m - i) dc, .slice (some ⟨gv, 0, none⟩) m vc]).run Try.prog W = .ok (goInt (Nat.min m (n + m - i))) (W.setCells g (i * 2) (vs.flatMap mpE)) := fun W hWc hWf ty dc =>
    run_copy_own W _ _ ty 83 2 g (i * 2) (n + m - i) dc ⟨gv, 0, none⟩ m vc _ Try.underlying22 hsz (by rw [hvfl, hm, show Nat.min vs.length (n + vs.length - i) = vs.length by simp only [Nat.min_def]; split <;> omega])
      (fun j v hj => by rw [Addr.add_lit, Nat.zero_add, hWc, hcell1 _ hg]; exact hvs' j v hj)
      (fun j hj => by rw [hvfl] at hj; rw [hWc]; exact hthere _ (by omega)) (fun j _ => by rw [hWf, hfree]; exact ho.free _) hvone
  rw [← hW1] at hcp1
  have HW := Lib.hid hW1
  have HO := Lib.hid ho
  have LN := Lib.hid hn
  have LM := Lib.hid hm
  have mixed : Try.prog.follows Departure.mixedOrders = true := by kernel_rfl
  unfold mpIns
  rw [← hn, ← hm]
  rw [← hn] at hi hroom hl
  rw [← hm] at hroom hvl hv0
  clear hcs hvs' hcell1 hthere hfree hW1 ho hv hvfl hdfl hvone hdone hgb hvb hgs hvs hgc hvl' hn hm hdl
  go_enter Try.func127, Try.ntmps127
  go_wp2_with (fail)
  go_region_law_o (refine step_copy_runI rfl _ _ 22 22 rfl _ _ (by simp [Act.eval, Act.put]) (by simp [Act.eval, Act.put]) (hcp1 _ _ _) ?_)
  go_wp2_with (at_builtin; refine wpList_copy_runI _ rfl _ _ 22 22 rfl _ _ rfl rfl (hcp2 _ (fun _ => rfl) (fun _ => rfl) _ _) ?_)
  go_ret
  refine ⟨g, cap, rfl, ?_, .inl rfl, ?_⟩
  · have h := (HO.out.move (w' := w.drew) rfl).insert mpE_2 i vs (by rw [← LN.out]; omega) (by rw [← LN.out, ← LM.out]; exact hroom) (w1 := W1) (by rw [HW.out, LM.out])
    exact h
  · rw [HW.out]
    exact grown_trans (grown_of_below ((Below.refl _ w).drew)) (grown_trans (grown_setCells _ _) (grown_setCells _ _))
set_option maxHeartbeats 8000000 in
set_option maxRecDepth 100000 in
/-- within, and there is no room -/
theorem mp_ins_grow (g cap gv vc i : Nat) (l vs : List S83) (w : World) (ho : OwnB mpE 83 w g cap l) (hv : OwnB mpE 83 w gv vc vs) (hg : gv ≠ g) (hl : l.length ≤ 1000000) (hvl : vs.length ≤ 1000000) (hv0 : 0 < vs.length) (hi : i < l.length) (hroom : cap < l.length + vs.length) :
    Calls Try.prog 127 #[.slice (some ⟨g, 0, none⟩) l.length cap, .int .i64 i, .slice (some ⟨gv, 0, none⟩) vs.length vc] w (mpIns g i l vs w) := by
  have hc63 : cap ≤ 9223372036854775807 := ho.cap_le
  have hnc : l.length ≤ cap := ho.len_le
  have hglt := ho.lt
  have hvlt := hv.lt
  obtain ⟨n, hn⟩ : ∃ n, n = l.length := ⟨_, rfl⟩
  obtain ⟨m, hm⟩ : ∃ m, m = vs.length := ⟨_, rfl⟩
  have hdl : (l.drop i).length = n - i := by rw [List.length_drop, hn]
  have hz1 : ¬ ((m : Int) = 0) := by omega
  have hz2 : ¬ ((i : Int) = (n : Int)) := by omega
  have hsz : (Try.prog.info? 83).map (·.size) = some 2 := by kernel_rfl
  obtain ⟨i0, hi0, hii⟩ := Option.map_eq_some_iff.1 info83
  simp only [Prod.mk.injEq] at hii
  obtain ⟨hz0, hzs, hzb⟩ := hii
  have hvone := mp_flat_one vs
  have hdone := mp_flat_one (l.drop i)
  have hdfl := flat_len mpE_2 (l.drop i)
  have hvfl := flat_len mpE_2 vs
  rw [hdl] at hdfl
  have hcs0 : ∀ j v, (l.flatMap mpE)[j]? = some v → w.cell? ⟨g, j, none⟩ = some v := fun j v hj => by
    obtain ⟨hlt, _⟩ := List.getElem?_eq_some_iff.1 hj
    rw [flat_len mpE_2] at hlt
    have h := ho.cell mpE_2 (show j / 2 < l.length by omega) (show j % 2 < 2 by omega)
    have h' := flat_get mpE_2 (show j / 2 < l.length by omega) (show j % 2 < 2 by omega)
    rw [show j / 2 * 2 + j % 2 = j by omega] at h h'
    rw [h, ← h', hj]
  have hcs : ∀ j v, ((l.drop i).flatMap mpE)[j]? = some v → w.cell? ⟨g, i * 2 + j, none⟩ = some v := fun j v hj => by
    rw [← flat_drop mpE_2, List.getElem?_drop] at hj
    exact hcs0 _ _ hj
  have hvs' : ∀ j v, (vs.flatMap mpE)[j]? = some v → w.cell? ⟨gv, j, none⟩ = some v := fun j v hj => by
    obtain ⟨hlt, _⟩ := List.getElem?_eq_some_iff.1 hj
    rw [flat_len mpE_2] at hlt
    have h := hv.cell mpE_2 (show j / 2 < vs.length by omega) (show j % 2 < 2 by omega)
    have h' := flat_get mpE_2 (show j / 2 < vs.length by omega) (show j % 2 < 2 by omega)
    rw [show j / 2 * 2 + j % 2 = j by omega] at h h'
    rw [h, ← h', hj]
  have hkk : (n : Int) + (m : Int) - (i : Int) = ((n + m - i : Nat) : Int) := by omega
  have hik : i + (n + m - i) = n + m := by omega
  have htf : ((l.take i).flatMap mpE).length = i * 2 := by rw [flat_len mpE_2, List.length_take]; omega
  have hold : (Builtin.firstCells i0.size i (.slice (some ⟨g, 0, none⟩) i cap)).run Try.prog w.drew = .ok ((l.take i).flatMap mpE).toArray w.drew := by
    rw [hzs]
    exact run_firstCells_some w.drew 2 i ⟨g, 0, none⟩ i cap ((l.take i).flatMap mpE) (by rw [htf]) (fun j v hj => by
      rw [Addr.add_lit, Nat.zero_add]
      rw [← flat_take mpE_2, List.getElem?_take] at hj
      split at hj
      · exact hcs0 j v hj
      · cases hj)
  have hrz : ∀ ty, (Builtin.append_ #[22, 3] ty #[.slice (some ⟨g, 0, none⟩) i cap, .int .i64 ((n : Int) + (m : Int) - (i : Int))]).run Try.prog w =
      .ok (.slice (some ⟨w.heap.size, 0, none⟩) (n + m) (grownCap w (n + m) cap 83)) (w.drew.alloc (.cells (((l.take i).flatMap mpE).toArray ++ Builtin.zeroCells (.agg #[(.int .u64 0), (.int .i64 0)] : Value).cells (n + m - i) ++ Builtin.zeroCells (.agg #[(.int .u64 0), (.int .i64 0)] : Value).cells (grownCap w (n + m) cap 83 - (n + m))) 83)) := fun ty => by
    have h := Lib.run_append_grow_zeros (P := Try.prog) w 22 3 ty 83 i0 _ .i64 .i64 Try.underlying22 Try.underlying3 hi0 hz0 (some ⟨g, 0, none⟩) i cap _ hold (n + m - i) (by omega) (by omega) (by omega) (by omega) (by rw [hzb]; omega) (by rw [hzb, hik]; exact growslice_fits (by omega) (by omega))
    rw [hik] at h
    rw [hkk]
    exact h
  obtain ⟨G, hG⟩ : ∃ G, G = grownCap w (n + m) cap 83 := ⟨_, rfl⟩
  obtain ⟨ROW, hROW⟩ : ∃ ROW : Array Value, ROW = ((l.take i).flatMap mpE).toArray ++ Builtin.zeroCells (.agg #[(.int .u64 0), (.int .i64 0)] : Value).cells (n + m - i) ++ Builtin.zeroCells (.agg #[(.int .u64 0), (.int .i64 0)] : Value).cells (G - (n + m)) := ⟨_, rfl⟩
  rw [← hG] at hrz
  rw [← hROW] at hrz
  have hGn : n + m ≤ G := by rw [hG]; exact grownCap_ge w _ _ _
  have hG63 : G ≤ 9223372036854775807 := by
    have := grownCap_le_maxLen w (n + m) cap 83 (by unfold maxLen; omega)
    rw [← hG] at this
    unfold maxLen at this
    exact this
  have hRs : ROW.size = G * 2 := by
    rw [hROW]
    simp only [Array.size_append, List.size_toArray, htf, Builtin.zeroCells, Value.cells]
    simp
    omega
  obtain ⟨W1, hW1⟩ : ∃ W1, W1 = w.drew.alloc (.cells ROW 83) := ⟨_, rfl⟩
  rw [← hW1] at hrz
  have hblk : W1.heap[w.heap.size]? = some (.cells ROW 83 (0, 0)) := by rw [hW1]; exact blk_new w.drew _
  have O1 : OwnB mpE 83 W1 w.heap.size G (l.take i) := ⟨ROW, hblk, hRs, hG63, by rw [List.length_take]; omega, by
    rw [hROW, List.length_take, show min i l.length = i by omega, Array.toList_append, Array.toList_append, List.append_assoc]
    exact List.take_left' htf⟩
  have hti : (l.take i).length = i := by rw [List.length_take]; omega
  have O2 : OwnB mpE 83 (W1.setCells w.heap.size (i * 2) (vs.flatMap mpE)) w.heap.size G (l.take i ++ vs) := by
    have h := O1.put mpE_2 i vs (by rw [hti]; omega) (by omega)
    rwa [List.take_of_length_le (by rw [hti]; omega), List.drop_eq_nil_of_le (by rw [hti]; omega), List.append_nil] at h
  have hl2 : (l.take i ++ vs).length = i + m := by rw [List.length_append, hti, hm]
  have O3 : ∀ W : World, W.heap[w.heap.size]? = (W1.setCells w.heap.size (i * 2) (vs.flatMap mpE)).heap[w.heap.size]? → OwnB mpE 83 (W.setCells w.heap.size ((i + m) * 2) ((l.drop i).flatMap mpE)) w.heap.size G (l.take i ++ vs ++ l.drop i) := fun W hW => by
    have h := (O2.move hW).put mpE_2 (i + m) (l.drop i) (by omega) (by rw [hdl]; omega)
    have e1 : (l.take i ++ vs).take (i + m) = l.take i ++ vs := List.take_of_length_le (by omega)
    have e2 : (l.take i ++ vs).drop (i + m + (l.drop i).length) = [] := List.drop_eq_nil_of_le (by omega)
    rwa [e1, e2, List.append_nil] at h
  have hold' : ∀ b j v, b < w.heap.size → w.cell? ⟨b, j, none⟩ = some v → W1.cell? ⟨b, j, none⟩ = some v := fun b j v hb h => by
    have hB : Below w.heap.size w W1 := by rw [hW1]; exact ((Below.refl _ w).drew).alloc (Nat.le_refl _) _
    rw [hB.cell (p := ⟨b, j, none⟩) hb]
    exact h
  have hcpA : ∀ (W : World), (∀ x, W.cell? x = W1.cell? x) → (∀ x, W.frozen? x = W1.frozen? x) → ∀ ty dc, (Builtin.copy_ #[22, 22] ty #[.slice (some ⟨w.heap.size, i * 2, none⟩) (n + m - i) dc, .slice (some ⟨gv, 0, none⟩) m vc]).run Try.prog W = .ok (goInt (Nat.min m (n + m - i))) (W.setCells w.heap.size (i * 2) (vs.flatMap mpE)) := fun W hWc hWf ty dc =>
    run_copy_own W _ _ ty 83 2 w.heap.size (i * 2) (n + m - i) dc ⟨gv, 0, none⟩ m vc _ Try.underlying22 hsz (by rw [hvfl, hm, show Nat.min vs.length (n + vs.length - i) = vs.length by simp only [Nat.min_def]; split <;> omega])
      (fun j v hj => by rw [Addr.add_lit, Nat.zero_add, hWc]; exact hold' _ _ _ hvlt (hvs' j v hj))
      (fun j hj => by rw [hvfl] at hj; rw [hWc]; exact O1.there (by omega)) (fun j _ => by rw [hWf]; exact O1.free _) hvone
  have hcpB : ∀ (W : World), (∀ x, W.cell? x = (W1.setCells w.heap.size (i * 2) (vs.flatMap mpE)).cell? x) → (∀ x, W.frozen? x = (W1.setCells w.heap.size (i * 2) (vs.flatMap mpE)).frozen? x) → ∀ ty dc sc, (Builtin.copy_ #[22, 22] ty #[.slice (some ⟨w.heap.size, (i + m) * 2, none⟩) (n + m - (i + m)) dc, .slice (some ⟨g, i * 2, none⟩) (n - i) sc]).run Try.prog W = .ok (goInt (Nat.min (n - i) (n + m - (i + m)))) (W.setCells w.heap.size ((i + m) * 2) ((l.drop i).flatMap mpE)) := fun W hWc hWf ty dc sc =>
    run_copy_own W _ _ ty 83 2 w.heap.size ((i + m) * 2) (n + m - (i + m)) dc ⟨g, i * 2, none⟩ (n - i) sc _ Try.underlying22 hsz (by rw [hdfl, show Nat.min (n - i) (n + m - (i + m)) = n - i by simp only [Nat.min_def]; split <;> omega])
      (fun j v hj => by
        rw [Addr.add_lit, hWc, World.cell?_setCells_out _ _ _ _ _ (fun h _ => by have : g = w.heap.size := h; omega)]
        exact hold' _ _ _ hglt (hcs j v hj))
      (fun j hj => by rw [hdfl] at hj; rw [hWc]; exact O2.there (by omega)) (fun j _ => by rw [hWf]; exact O2.free _) hdone
  have mixed : Try.prog.follows Departure.mixedOrders = true := by kernel_rfl
  have hGi : ¬ (G = i) := by omega
  have hGim : ¬ (G = i + m) := by omega
  have hci : ¬ (cap = i) := by omega
  have hw1 : IntKind.i64.wrap ((i : Int) + (m : Int)) = (i : Int) + (m : Int) := by rw [IntKind.wrap_i64]; omega
  have hb1 : (0 : Int) ≤ (i : Int) + (m : Int) := by omega
  have hin : i ≤ n := by omega
  have htn : ((i : Int) + (m : Int)).toNat = i + m := by omega
  have hb3 : (i : Int) ≤ (n : Int) := by omega
  have hz3 : (cap : Int) < (n : Int) + (m : Int) := by omega
  have HW := Lib.hid hW1
  have OO := Lib.hid O3
  unfold mpIns
  rw [← hn, ← hm]
  rw [← hn] at hi hroom hl hnc
  rw [← hm] at hroom hvl hv0
  clear hkk hik hold hROW hG hRs hblk O1 O2 O3 hti hl2 hold' hcs0 hcs hvs' hvfl hdfl hvone hdone hn hm hdl htf hi0 hz0 hzs hzb ho hv hW1
  go_enter Try.func127, Try.ntmps127
  go_wp2_with (first
    | (at_builtin; refine Lib.wpList_append_run _ rfl _ _ _ _ rfl _ _ rfl rfl _ _ (hrz _) ?_)
    | (at_builtin; refine wpList_copy_runI _ rfl _ _ 22 22 rfl _ _ rfl rfl (hcpA _ (fun _ => rfl) (fun _ => rfl) _ _) ?_))
  go_region_law_o (refine step_copy_runI rfl _ _ 22 22 rfl (.slice (some ⟨w.heap.size, (i + m) * 2, none⟩) (n + m - (i + m)) (G - (i + m))) (.slice (some ⟨g, i * 2, none⟩) (n - i) (cap - i)) (by simp [Act.eval, Act.put]) (by simp [Act.eval, Act.put]) (hcpB (W1.setCells w.heap.size (i * 2) (vs.flatMap mpE)).drew (fun _ => rfl) (fun _ => rfl) 3 (G - (i + m)) (cap - i)) ?_)
  go_wp2
  go_ret
  refine ⟨w.heap.size, G, rfl, OO.out _ rfl, .inr (Nat.le_refl _), ?_⟩
  rw [HW.out]
  have B1 : Below w.heap.size w (w.drew.alloc (.cells ROW 83)) := ((Below.refl _ w).drew).alloc (Nat.le_refl _) _
  have hs : (w.drew.alloc (.cells ROW 83)).heap.size = w.heap.size + 1 := World.size_alloc _ _
  exact grown_of_below ((B1.grown (grown_setCells (w := w.drew.alloc (.cells ROW 83)) (i * 2) (vs.flatMap mpE)) (by rw [hs]; omega) (fun k hk => by injection hk with hk; omega)).drew.grown (grown_setCells _ _) (by show w.heap.size ≤ ((w.drew.alloc (.cells ROW 83)).setCells _ _ _).heap.size; rw [(setCells_same _ _ _ _).2.2.2, hs]; omega) (fun k hk => by injection hk with hk; omega))
theorem mp_ins.calls (g cap gv vc i : Nat) (l vs : List S83) (w : World) (ho : OwnB mpE 83 w g cap l) (hv : OwnB mpE 83 w gv vc vs) (hg : gv ≠ g) (hl : l.length ≤ 1000000) (hvl : vs.length ≤ 1000000) (hv0 : 0 < vs.length) (hi : i ≤ l.length) : Calls Try.prog 127 #[.slice (some ⟨g, 0, none⟩) l.length cap, .int .i64 i, .slice (some ⟨gv, 0, none⟩) vs.length vc] w (mpIns g i l vs w) := by
  rcases Nat.eq_or_lt_of_le hi with h | h
  · exact mp_ins_end g cap gv vc i l vs w ho hv hg hl hvl hv0 h
  · by_cases hr : l.length + vs.length ≤ cap
    · exact mp_ins_room g cap gv vc i l vs w ho hv hg hl hvl hv0 h hr
    · exact mp_ins_grow g cap gv vc i l vs w ho hv hg hl hvl hv0 h (by omega)
set_option maxHeartbeats 4000000 in
set_option maxRecDepth 100000 in
/-- Insert into nothing -/
theorem mp_ins_nil.calls (gv vc : Nat) (vs : List S83) (w : World) (hv : OwnB mpE 83 w gv vc vs) (hvl : vs.length ≤ 1000000) (hv0 : 0 < vs.length) :
    Calls Try.prog 127 #[.slice none 0 0, .int .i64 0, .slice (some ⟨gv, 0, none⟩) vs.length vc] w fun e w' => ∃ g' cap', e = .returned (.slice (some ⟨g', 0, none⟩) vs.length cap') ∧ OwnB mpE 83 w' g' cap' vs ∧ w.heap.size ≤ g' ∧ Below w.heap.size w w' := by
  have HO := Lib.hid (Kd.R_nil k83 83 w w.heap.size (fun _ => True))
  have HV := Lib.hid (mp_C hv)
  have hz1 : ¬ ((vs.length : Int) = 0) := by omega
  clear hv
  go_enter Try.func127, Try.ntmps127
  go_wp2_with (at_builtin; refine Kd.R_append_rows k83 (w0 := w) (Rr := (k83).K w) w.heap.size rfl _ _ 22 83 (.agg #[(.int .u64 0), (.int .i64 0)]) 16 rfl Try.underlying22 info83 rfl (by decide) (by omega) _ [] vs _ _ _ (fun _ => True) (fun _ => False) rfl rfl HO.out HV.out ?q3 (fun _ h => h.elim) (fun _ _ => trivial) ?q4 ?q5 ?q6 ?_)
  case q3 =>
    intro x cs h
    rw [k83_open h]
    exact k83_mkM _ _ _ _
  case q4 => exact Below.refl _ w
  case q5 => exact Nat.le_refl _
  case q6 => simp only [List.length_nil]; omega
  intro v1 w1 h1 h2 _ _
  rcases mp_own h1 with ⟨_, h5⟩ | ⟨g', cap', rfl, h5, h6⟩
  · subst h5
    exact absurd hv0 (by simp)
  have H2 := Lib.hid h2
  have H5 := Lib.hid h5
  have H6 := Lib.hid h6
  clear h1 h2 h5 h6
  go_wp2
  go_ret
  exact ⟨g', cap', rfl, H6.out, H5.out, H2.out⟩
theorem mp_insR.calls (B : Nat) (ok : Nat → Prop) (v : Value) (gv vc i : Nat) (l vs : List S83) (w : World) (hR : Kd.R k83 83 w B ok v l) (hB : B ≤ w.heap.size) (hv : OwnB mpE 83 w gv vc vs) (hg : gv < B) (hl : l.length ≤ 1000000) (hvl : vs.length ≤ 1000000) (hv0 : 0 < vs.length) (hi : i ≤ l.length) :
    Calls Try.prog 127 #[v, .int .i64 i, .slice (some ⟨gv, 0, none⟩) vs.length vc] w fun e w' => ∃ g' cap', e = .returned (.slice (some ⟨g', 0, none⟩) (l.length + vs.length) cap') ∧ OwnB mpE 83 w' g' cap' (l.take i ++ vs ++ l.drop i) ∧ B ≤ g' ∧ Below B w w' := by
  rcases mp_own hR with ⟨rfl, rfl⟩ | ⟨g, cap, rfl, hgB, ho⟩
  · obtain rfl : i = 0 := by simpa using hi
    refine (mp_ins_nil.calls gv vc vs w hv hvl hv0).mono ?_
    rintro e w' ⟨g', cap', rfl, h1, h2, h3⟩
    exact ⟨g', cap', by simp, by simpa using h1, Nat.le_trans hB h2, h3.mono hB⟩
  · refine (mp_ins.calls g cap gv vc i l vs w ho hv (by omega) hl hvl hv0 hi).mono ?_
    rintro e w' ⟨g', cap', rfl, h1, h2, h3⟩
    exact ⟨g', cap', rfl, h1, by rcases h2 with rfl | h2 <;> omega, below_of_grown (Below.refl _ _) h3 hgB hB⟩
end Go.Proofs.Ytgkjdpdmmlalcaa.F
end
