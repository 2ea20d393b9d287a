import Derived.Test.YtgkjdpdmmlalcaaKZF0
import Derived.Test.YtgkjdpdmmlalcaaKA0
section
namespace Go.Proofs.Ytgkjdpdmmlalcaa.F
open Go.RowKit Go.Shelf Go.Proofs.YtgkjdpdmmlalcaaW.PrintWords Go.Proofs.YtgkjdpdmmlalcaaW.PrintLast Go.Proofs.YtgkjdpdmmlalcaaW.PrintMore
set_option linter.unusedVariables false
set_option linter.unusedSimpArgs false
def clIns (g i : Nat) (l vs : List S88) (w : World) (e : Ending) (w' : World) : Prop := ∃ g' cap', e = .returned (.slice (some ⟨g', 0, none⟩) (l.length + vs.length) cap') ∧ OwnB clE 88 w' g' cap' (l.take i ++ vs ++ l.drop i) ∧ (g' = g ∨ w.heap.size ≤ g') ∧ w.grownBy w' (some g)
set_option maxHeartbeats 4000000 in
set_option maxRecDepth 100000 in
/-- at the end -/
theorem cl_ins_end (g cap gv vc i : Nat) (l vs : List S88) (w : World) (ho : OwnB clE 88 w g cap l) (hv : OwnB clE 88 w gv vc vs) (hg : gv ≠ g) (hl : l.length ≤ 1000000) (hvl : vs.length ≤ 1000000) (hv0 : 0 < vs.length) (hi : i = l.length) :
    Calls Try.prog 143 #[.slice (some ⟨g, 0, none⟩) l.length cap, .int .i64 i, .slice (some ⟨gv, 0, none⟩) vs.length vc] w (clIns g i l vs w) := by
  subst hi
  have hn1 : l.length ≤ cap := ho.len_le
  have hc63 : cap ≤ 9223372036854775807 := ho.cap_le
  have hglt := ho.lt
  have HO := Lib.hid (cl_R ho (Nat.zero_le g))
  have HV := Lib.hid (cl_C hv)
  have hz1 : ¬ ((vs.length : Int) = 0) := by omega
  have hgs := ho.lt
  clear ho hv
  by_cases hcc : cap = l.length
  all_goals
    go_enter Try.func143, Try.ntmps143
    go_wp2_with (at_builtin; refine Kd.R_append_rows k88 (w0 := w) (Rr := (k88).K w) 0 rfl _ _ 23 88 (.agg #[(.int .u64 0), (.int .u64 0)]) 16 rfl Try.underlying23 info88 rfl (by decide) (by omega) _ l vs _ _ _ (fun _ => True) (fun _ => False) rfl rfl HO.out HV.out ?q3 (fun _ h => h.elim) (fun _ _ => trivial) ?q4 ?q5 ?q6 ?_)
    case q3 =>
      intro x cs h
      rw [k88_open h]
      exact k88_mkM _ _ _ _
    case q4 => exact Below.refl _ w
    case q5 => exact Nat.zero_le _
    case q6 => omega
    intro v1 w1 h1 _ h3 h4
    rcases cl_own h1 with ⟨_, h5⟩ | ⟨g', cap', rfl, _, h6⟩
    · have := congrArg List.length h5
      rw [List.length_append] at this
      simp only [List.length_nil] at this
      omega
    have H3 := Lib.hid h3
    have H6 := Lib.hid h6
    have H4 := Lib.hid (show g' = g ∨ w.heap.size ≤ g' by
      rcases h4 with h4 | ⟨b, hb, hle⟩
      · exact .inl (by simpa [Value.ownBlock] using h4)
      · have : g' = b := by simpa [Value.ownBlock] using hb
        exact .inr (this ▸ hle))
    rw [List.length_append]
    clear h1 h3 h4 h6
    go_wp2
    go_ret
    refine ⟨g', cap', rfl, ?_, H4.out, H3.out⟩
    rw [List.take_length, List.drop_length, List.append_nil]
    exact H6.out
set_option maxHeartbeats 8000000 in
set_option maxRecDepth 100000 in
/-- within, and there is room -/
theorem cl_ins_room (g cap gv vc i : Nat) (l vs : List S88) (w : World) (ho : OwnB clE 88 w g cap l) (hv : OwnB clE 88 w gv vc vs) (hg : gv ≠ g) (hl : l.length ≤ 1000000) (hvl : vs.length ≤ 1000000) (hv0 : 0 < vs.length) (hi : i < l.length) (hroom : l.length + vs.length ≤ cap) :
    Calls Try.prog 143 #[.slice (some ⟨g, 0, none⟩) l.length cap, .int .i64 i, .slice (some ⟨gv, 0, none⟩) vs.length vc] w (clIns g i l vs w) := by
  have hc63 : cap ≤ 9223372036854775807 := ho.cap_le
  have hglt := ho.lt
  have hvlt := hv.lt
  obtain ⟨n, hn⟩ : ∃ n, n = l.length := ⟨_, rfl⟩
  obtain ⟨m, hm⟩ : ∃ m, m = vs.length := ⟨_, rfl⟩
  have hdl : (l.drop i).length = n - i := by rw [List.length_drop, hn]
  have hz1 : ¬ ((m : Int) = 0) := by omega
  have hz2 : ¬ ((i : Int) = (n : Int)) := by omega
  have hsz : (Try.prog.info? 88).map (·.size) = some 2 := by kernel_rfl
  have hzs : ∀ w, (Go.sizeOf 88).run Try.prog w = .ok 2 w := fun w => by kernel_rfl
  obtain ⟨curg, hgb, hgs, hgc, _, _⟩ := id ho
  obtain ⟨curv, hvb, hvs, _, hvl', _⟩ := id hv
  have hov : ∀ lb cb, (callFunc 162 #[.slice (some ⟨gv, 0, none⟩) m vc, .slice (some ⟨g, (i + m) * 2, none⟩) lb cb]).run Try.prog w = .ok (.value (.bool false)) w := fun lb cb => by
    rw [run_callFunc_extern (fn := Try.f162) (by kernel_rfl) (by kernel_rfl) (by kernel_rfl) (by kernel_rfl) (e := Extern.SlicesOverlaps.overlaps #[23, 23] #[4]) (by kernel_rfl),
      Lib.run_overlaps_apart w 23 4 88 Try.underlying23 2 hzs ⟨gv, 0, none⟩ ⟨g, (i + m) * 2, none⟩ m vc lb cb hg 88 88 curv.size curg.size (by simp [World.shape?, hvb]) (by simp [World.shape?, hgb]) (by omega) (sblk_free hvb _) (sblk_free hvb _)]
    rfl
  have hvone := cl_flat_one vs
  have hdone := cl_flat_one (l.drop i)
  have hdfl := flat_len clE_2 (l.drop i)
  have hvfl := flat_len clE_2 vs
  rw [hdl] at hdfl
  have hcs : ∀ j v, ((l.drop i).flatMap clE)[j]? = some v → w.cell? ⟨g, i * 2 + j, none⟩ = some v := fun j v hj => by
    rw [← flat_drop clE_2, List.getElem?_drop] at hj
    obtain ⟨hlt, _⟩ := List.getElem?_eq_some_iff.1 hj
    rw [flat_len clE_2] at hlt
    have h := ho.cell clE_2 (show (i * 2 + j) / 2 < l.length by omega) (show (i * 2 + j) % 2 < 2 by omega)
    have h' := flat_get clE_2 (show (i * 2 + j) / 2 < l.length by omega) (show (i * 2 + j) % 2 < 2 by omega)
    rw [show (i * 2 + j) / 2 * 2 + (i * 2 + j) % 2 = i * 2 + j by omega] at h h'
    rw [h, ← h', hj]
  have hvs' : ∀ j v, (vs.flatMap clE)[j]? = some v → w.cell? ⟨gv, j, none⟩ = some v := fun j v hj => by
    obtain ⟨hlt, _⟩ := List.getElem?_eq_some_iff.1 hj
    rw [flat_len clE_2] at hlt
    have h := hv.cell clE_2 (show j / 2 < vs.length by omega) (show j % 2 < 2 by omega)
    have h' := flat_get clE_2 (show j / 2 < vs.length by omega) (show j % 2 < 2 by omega)
    rw [show j / 2 * 2 + j % 2 = j by omega] at h h'
    rw [h, ← h', hj]
  have hw1 : IntKind.i64.wrap ((i : Int) + (m : Int)) = (i : Int) + (m : Int) := by rw [IntKind.wrap_i64]; omega
  have hb1 : (0 : Int) ≤ (i : Int) + (m : Int) := by omega
  have hin : i ≤ n := by omega
  have htn : ((i : Int) + (m : Int)).toNat = i + m := by omega
  have hb2 : ¬ (cap = i + m) := by omega
  have hb3 : (i : Int) ≤ (n : Int) + (m : Int) := by omega
  have hb4 : ¬ (cap = i) := by omega
  have hcp1 : ∀ ty dc sc, (Builtin.copy_ #[23, 23] ty #[.slice (some ⟨g, (i + m) * 2, none⟩) (n + m - (i + m)) dc, .slice (some ⟨g, i * 2, none⟩) (n + m - i) sc]).run Try.prog w.drew = .ok (goInt (Nat.min (n + m - i) (n + m - (i + m)))) (w.drew.setCells g ((i + m) * 2) ((l.drop i).flatMap clE)) := fun ty dc sc =>
    run_copy_own w.drew _ _ ty 88 2 g ((i + m) * 2) (n + m - (i + m)) dc ⟨g, i * 2, none⟩ (n + m - i) sc _ Try.underlying23 hsz (by rw [hdfl, show Nat.min (n + m - i) (n + m - (i + m)) = n - i by simp only [Nat.min_def]; split <;> omega])
      (fun j v hj => by rw [Addr.add_lit]; exact hcs j v hj) (fun j hj => by rw [hdfl] at hj; exact ho.there (by omega)) (fun j _ => ho.free _) hdone
  obtain ⟨W1, hW1⟩ : ∃ W1, W1 = w.drew.setCells g ((i + m) * 2) ((l.drop i).flatMap clE) := ⟨_, rfl⟩
  have hcell1 : ∀ x, x.block ≠ g → W1.cell? x = w.cell? x := fun x hx => by
    rw [hW1, World.cell?_setCells_out g _ _ _ _ (fun h _ => absurd h hx)]
    rfl
  have hthere : ∀ j, j < cap * 2 → (W1.cell? ⟨g, j, none⟩).isSome = true := fun j hj => by
    obtain ⟨c1, a0, a1, _⟩ := setCells_row ((l.drop i).flatMap clE) ((i + m) * 2) w.drew curg hgb (by rw [hdfl]; omega)
    rw [hW1, sblk_cell a0, Array.getElem?_eq_getElem (by omega)]
    rfl
  have hfree : ∀ x, W1.frozen? x = w.frozen? x := fun x => by
    rw [hW1, World.frozen?_setCells]
    rfl
  have hcp2 : ∀ (W : World), (∀ x, W.cell? x = W1.cell? x) → (∀ x, W.frozen? x = W1.frozen? x) → ∀ ty dc, (Builtin.copy_ #[23, 23] ty #[.slice (some ⟨g, i * 2, none⟩) (n + m - i) dc, .slice (some ⟨gv, 0, none⟩) m vc]).run Try.prog W = .ok (goInt (Nat.min m (n + m - i))) (W.setCells g (i * 2) (vs.flatMap clE)) := fun W hWc hWf ty dc =>
    run_copy_own W _ _ ty 88 2 g (i * 2) (n + m - i) dc ⟨gv, 0, none⟩ m vc _ Try.underlying23 hsz (by rw [hvfl, hm, show Nat.min vs.length (n + vs.length - i) = vs.length by simp only [Nat.min_def]; split <;> omega])
      (fun j v hj => by rw [Addr.add_lit, Nat.zero_add, hWc, hcell1 _ hg]; exact hvs' j v hj)
      (fun j hj => by rw [hvfl] at hj; rw [hWc]; exact hthere _ (by omega)) (fun j _ => by rw [hWf, hfree]; exact ho.free _) hvone
  rw [← hW1] at hcp1
  have HW := Lib.hid hW1
  have HO := Lib.hid ho
  have LN := Lib.hid hn
  have LM := Lib.hid hm
  have mixed : Try.prog.follows Departure.mixedOrders = true := by kernel_rfl
  unfold clIns
  rw [← hn, ← hm]
  rw [← hn] at hi hroom hl
  rw [← hm] at hroom hvl hv0
  clear hcs hvs' hcell1 hthere hfree hW1 ho hv hvfl hdfl hvone hdone hgb hvb hgs hvs hgc hvl' hn hm hdl
  go_enter Try.func143, Try.ntmps143
  go_wp2_with (fail)
  go_region_law_o (refine step_copy_runI rfl _ _ 23 23 rfl _ _ (by simp [Act.eval, Act.put]) (by simp [Act.eval, Act.put]) (hcp1 _ _ _) ?_)
  go_wp2_with (at_builtin; refine wpList_copy_runI _ rfl _ _ 23 23 rfl _ _ rfl rfl (hcp2 _ (fun _ => rfl) (fun _ => rfl) _ _) ?_)
  go_ret
  refine ⟨g, cap, rfl, ?_, .inl rfl, ?_⟩
  · have h := (HO.out.move (w' := w.drew) rfl).insert clE_2 i vs (by rw [← LN.out]; omega) (by rw [← LN.out, ← LM.out]; exact hroom) (w1 := W1) (by rw [HW.out, LM.out])
    exact h
  · rw [HW.out]
    exact grown_trans (grown_of_below ((Below.refl _ w).drew)) (grown_trans (grown_setCells _ _) (grown_setCells _ _))
set_option maxHeartbeats 8000000 in
set_option maxRecDepth 100000 in
/-- within, and there is no room -/
theorem cl_ins_grow (g cap gv vc i : Nat) (l vs : List S88) (w : World) (ho : OwnB clE 88 w g cap l) (hv : OwnB clE 88 w gv vc vs) (hg : gv ≠ g) (hl : l.length ≤ 1000000) (hvl : vs.length ≤ 1000000) (hv0 : 0 < vs.length) (hi : i < l.length) (hroom : cap < l.length + vs.length) :
    Calls Try.prog 143 #[.slice (some ⟨g, 0, none⟩) l.length cap, .int .i64 i, .slice (some ⟨gv, 0, none⟩) vs.length vc] w (clIns g i l vs w) := by
  have hc63 : cap ≤ 9223372036854775807 := ho.cap_le
  have hnc : l.length ≤ cap := ho.len_le
  have hglt := ho.lt
  have hvlt := hv.lt
  obtain ⟨n, hn⟩ : ∃ n, n = l.length := ⟨_, rfl⟩
  obtain ⟨m, hm⟩ : ∃ m, m = vs.length := ⟨_, rfl⟩
  have hdl : (l.drop i).length = n - i := by rw [List.length_drop, hn]
  have hz1 : ¬ ((m : Int) = 0) := by omega
  have hz2 : ¬ ((i : Int) = (n : Int)) := by omega
  have hsz : (Try.prog.info? 88).map (·.size) = some 2 := by kernel_rfl
  obtain ⟨i0, hi0, hii⟩ := Option.map_eq_some_iff.1 info88
  simp only [Prod.mk.injEq] at hii
  obtain ⟨hz0, hzs, hzb⟩ := hii
  have hvone := cl_flat_one vs
  have hdone := cl_flat_one (l.drop i)
  have hdfl := flat_len clE_2 (l.drop i)
  have hvfl := flat_len clE_2 vs
  rw [hdl] at hdfl
  have hcs0 : ∀ j v, (l.flatMap clE)[j]? = some v → w.cell? ⟨g, j, none⟩ = some v := fun j v hj => by
    obtain ⟨hlt, _⟩ := List.getElem?_eq_some_iff.1 hj
    rw [flat_len clE_2] at hlt
    have h := ho.cell clE_2 (show j / 2 < l.length by omega) (show j % 2 < 2 by omega)
    have h' := flat_get clE_2 (show j / 2 < l.length by omega) (show j % 2 < 2 by omega)
    rw [show j / 2 * 2 + j % 2 = j by omega] at h h'
    rw [h, ← h', hj]
  have hcs : ∀ j v, ((l.drop i).flatMap clE)[j]? = some v → w.cell? ⟨g, i * 2 + j, none⟩ = some v := fun j v hj => by
    rw [← flat_drop clE_2, List.getElem?_drop] at hj
    exact hcs0 _ _ hj
  have hvs' : ∀ j v, (vs.flatMap clE)[j]? = some v → w.cell? ⟨gv, j, none⟩ = some v := fun j v hj => by
    obtain ⟨hlt, _⟩ := List.getElem?_eq_some_iff.1 hj
    rw [flat_len clE_2] at hlt
    have h := hv.cell clE_2 (show j / 2 < vs.length by omega) (show j % 2 < 2 by omega)
    have h' := flat_get clE_2 (show j / 2 < vs.length by omega) (show j % 2 < 2 by omega)
    rw [show j / 2 * 2 + j % 2 = j by omega] at h h'
    rw [h, ← h', hj]
  have hkk : (n : Int) + (m : Int) - (i : Int) = ((n + m - i : Nat) : Int) := by omega
  have hik : i + (n + m - i) = n + m := by omega
  have htf : ((l.take i).flatMap clE).length = i * 2 := by rw [flat_len clE_2, List.length_take]; omega
  have hold : (Builtin.firstCells i0.size i (.slice (some ⟨g, 0, none⟩) i cap)).run Try.prog w.drew = .ok ((l.take i).flatMap clE).toArray w.drew := by
    rw [hzs]
    exact run_firstCells_some w.drew 2 i ⟨g, 0, none⟩ i cap ((l.take i).flatMap clE) (by rw [htf]) (fun j v hj => by
      rw [Addr.add_lit, Nat.zero_add]
      rw [← flat_take clE_2, List.getElem?_take] at hj
      split at hj
      · exact hcs0 j v hj
      · cases hj)
  have hrz : ∀ ty, (Builtin.append_ #[23, 3] ty #[.slice (some ⟨g, 0, none⟩) i cap, .int .i64 ((n : Int) + (m : Int) - (i : Int))]).run Try.prog w =
      .ok (.slice (some ⟨w.heap.size, 0, none⟩) (n + m) (grownCap w (n + m) cap 88)) (w.drew.alloc (.cells (((l.take i).flatMap clE).toArray ++ Builtin.zeroCells (.agg #[(.int .u64 0), (.int .u64 0)] : Value).cells (n + m - i) ++ Builtin.zeroCells (.agg #[(.int .u64 0), (.int .u64 0)] : Value).cells (grownCap w (n + m) cap 88 - (n + m))) 88)) := fun ty => by
    have h := Lib.run_append_grow_zeros (P := Try.prog) w 23 3 ty 88 i0 _ .i64 .i64 Try.underlying23 Try.underlying3 hi0 hz0 (some ⟨g, 0, none⟩) i cap _ hold (n + m - i) (by omega) (by omega) (by omega) (by omega) (by rw [hzb]; omega) (by rw [hzb, hik]; exact growslice_fits (by omega) (by omega))
    rw [hik] at h
    rw [hkk]
    exact h
  obtain ⟨G, hG⟩ : ∃ G, G = grownCap w (n + m) cap 88 := ⟨_, rfl⟩
  obtain ⟨ROW, hROW⟩ : ∃ ROW : Array Value, ROW = ((l.take i).flatMap clE).toArray ++ Builtin.zeroCells (.agg #[(.int .u64 0), (.int .u64 0)] : Value).cells (n + m - i) ++ Builtin.zeroCells (.agg #[(.int .u64 0), (.int .u64 0)] : Value).cells (G - (n + m)) := ⟨_, rfl⟩
  rw [← hG] at hrz
  rw [← hROW] at hrz
  have hGn : n + m ≤ G := by rw [hG]; exact grownCap_ge w _ _ _
  have hG63 : G ≤ 9223372036854775807 := by
    have := grownCap_le_maxLen w (n + m) cap 88 (by unfold maxLen; omega)
    rw [← hG] at this
    unfold maxLen at this
    exact this
  have hRs : ROW.size = G * 2 := by
    rw [hROW]
    simp only [Array.size_append, List.size_toArray, htf, Builtin.zeroCells, Value.cells]
    simp
    omega
  obtain ⟨W1, hW1⟩ : ∃ W1, W1 = w.drew.alloc (.cells ROW 88) := ⟨_, rfl⟩
  rw [← hW1] at hrz
  have hblk : W1.heap[w.heap.size]? = some (.cells ROW 88 (0, 0)) := by rw [hW1]; exact blk_new w.drew _
  have O1 : OwnB clE 88 W1 w.heap.size G (l.take i) := ⟨ROW, hblk, hRs, hG63, by rw [List.length_take]; omega, by
    rw [hROW, List.length_take, show min i l.length = i by omega, Array.toList_append, Array.toList_append, List.append_assoc]
    exact List.take_left' htf⟩
  have hti : (l.take i).length = i := by rw [List.length_take]; omega
  have O2 : OwnB clE 88 (W1.setCells w.heap.size (i * 2) (vs.flatMap clE)) w.heap.size G (l.take i ++ vs) := by
    have h := O1.put clE_2 i vs (by rw [hti]; omega) (by omega)
    rwa [List.take_of_length_le (by rw [hti]; omega), List.drop_eq_nil_of_le (by rw [hti]; omega), List.append_nil] at h
  have hl2 : (l.take i ++ vs).length = i + m := by rw [List.length_append, hti, hm]
  have O3 : ∀ W : World, W.heap[w.heap.size]? = (W1.setCells w.heap.size (i * 2) (vs.flatMap clE)).heap[w.heap.size]? → OwnB clE 88 (W.setCells w.heap.size ((i + m) * 2) ((l.drop i).flatMap clE)) w.heap.size G (l.take i ++ vs ++ l.drop i) := fun W hW => by
    have h := (O2.move hW).put clE_2 (i + m) (l.drop i) (by omega) (by rw [hdl]; omega)
    have e1 : (l.take i ++ vs).take (i + m) = l.take i ++ vs := List.take_of_length_le (by omega)
    have e2 : (l.take i ++ vs).drop (i + m + (l.drop i).length) = [] := List.drop_eq_nil_of_le (by omega)
    rwa [e1, e2, List.append_nil] at h
  have hold' : ∀ b j v, b < w.heap.size → w.cell? ⟨b, j, none⟩ = some v → W1.cell? ⟨b, j, none⟩ = some v := fun b j v hb h => by
    have hB : Below w.heap.size w W1 := by rw [hW1]; exact ((Below.refl _ w).drew).alloc (Nat.le_refl _) _
    rw [hB.cell (p := ⟨b, j, none⟩) hb]
    exact h
  have hcpA : ∀ (W : World), (∀ x, W.cell? x = W1.cell? x) → (∀ x, W.frozen? x = W1.frozen? x) → ∀ ty dc, (Builtin.copy_ #[23, 23] ty #[.slice (some ⟨w.heap.size, i * 2, none⟩) (n + m - i) dc, .slice (some ⟨gv, 0, none⟩) m vc]).run Try.prog W = .ok (goInt (Nat.min m (n + m - i))) (W.setCells w.heap.size (i * 2) (vs.flatMap clE)) := fun W hWc hWf ty dc =>
    run_copy_own W _ _ ty 88 2 w.heap.size (i * 2) (n + m - i) dc ⟨gv, 0, none⟩ m vc _ Try.underlying23 hsz (by rw [hvfl, hm, show Nat.min vs.length (n + vs.length - i) = vs.length by simp only [Nat.min_def]; split <;> omega])
      (fun j v hj => by rw [Addr.add_lit, Nat.zero_add, hWc]; exact hold' _ _ _ hvlt (hvs' j v hj))
      (fun j hj => by rw [hvfl] at hj; rw [hWc]; exact O1.there (by omega)) (fun j _ => by rw [hWf]; exact O1.free _) hvone
  have hcpB : ∀ (W : World), (∀ x, W.cell? x = (W1.setCells w.heap.size (i * 2) (vs.flatMap clE)).cell? x) → (∀ x, W.frozen? x = (W1.setCells w.heap.size (i * 2) (vs.flatMap clE)).frozen? x) → ∀ ty dc sc, (Builtin.copy_ #[23, 23] ty #[.slice (some ⟨w.heap.size, (i + m) * 2, none⟩) (n + m - (i + m)) dc, .slice (some ⟨g, i * 2, none⟩) (n - i) sc]).run Try.prog W = .ok (goInt (Nat.min (n - i) (n + m - (i + m)))) (W.setCells w.heap.size ((i + m) * 2) ((l.drop i).flatMap clE)) := fun W hWc hWf ty dc sc =>
    run_copy_own W _ _ ty 88 2 w.heap.size ((i + m) * 2) (n + m - (i + m)) dc ⟨g, i * 2, none⟩ (n - i) sc _ Try.underlying23 hsz (by rw [hdfl, show Nat.min (n - i) (n + m - (i + m)) = n - i by simp only [Nat.min_def]; split <;> omega])
      (fun j v hj => by
        rw [Addr.add_lit, hWc, World.cell?_setCells_out _ _ _ _ _ (fun h _ => by have : g = w.heap.size := h; omega)]
        exact hold' _ _ _ hglt (hcs j v hj))
      (fun j hj => by rw [hdfl] at hj; rw [hWc]; exact O2.there (by omega)) (fun j _ => by rw [hWf]; exact O2.free _) hdone
  have mixed : Try.prog.follows Departure.mixedOrders = true := by kernel_rfl
  have hGi : ¬ (G = i) := by omega
  have hGim : ¬ (G = i + m) := by omega
  have hci : ¬ (cap = i) := by omega
  have hw1 : IntKind.i64.wrap ((i : Int) + (m : Int)) = (i : Int) + (m : Int) := by rw [IntKind.wrap_i64]; omega
  have hb1 : (0 : Int) ≤ (i : Int) + (m : Int) := by omega
  have hin : i ≤ n := by omega
  have htn : ((i : Int) + (m : Int)).toNat = i + m := by omega
  have hb3 : (i : Int) ≤ (n : Int) := by omega
  have hz3 : (cap : Int) < (n : Int) + (m : Int) := by omega
  have HW := Lib.hid hW1
  have OO := Lib.hid O3
  unfold clIns
  rw [← hn, ← hm]
  rw [← hn] at hi hroom hl hnc
  rw [← hm] at hroom hvl hv0
  clear hkk hik hold hROW hG hRs hblk O1 O2 O3 hti hl2 hold' hcs0 hcs hvs' hvfl hdfl hvone hdone hn hm hdl htf hi0 hz0 hzs hzb ho hv hW1
  go_enter Try.func143, Try.ntmps143
  go_wp2_with (first
    | (at_builtin; refine Lib.wpList_append_run _ rfl _ _ _ _ rfl _ _ rfl rfl _ _ (hrz _) ?_)
    | (at_builtin; refine wpList_copy_runI _ rfl _ _ 23 23 rfl _ _ rfl rfl (hcpA _ (fun _ => rfl) (fun _ => rfl) _ _) ?_))
  go_region_law_o (refine step_copy_runI rfl _ _ 23 23 rfl (.slice (some ⟨w.heap.size, (i + m) * 2, none⟩) (n + m - (i + m)) (G - (i + m))) (.slice (some ⟨g, i * 2, none⟩) (n - i) (cap - i)) (by simp [Act.eval, Act.put]) (by simp [Act.eval, Act.put]) (hcpB (W1.setCells w.heap.size (i * 2) (vs.flatMap clE)).drew (fun _ => rfl) (fun _ => rfl) 3 (G - (i + m)) (cap - i)) ?_)
  go_wp2
  go_ret
  refine ⟨w.heap.size, G, rfl, OO.out _ rfl, .inr (Nat.le_refl _), ?_⟩
  rw [HW.out]
  have B1 : Below w.heap.size w (w.drew.alloc (.cells ROW 88)) := ((Below.refl _ w).drew).alloc (Nat.le_refl _) _
  have hs : (w.drew.alloc (.cells ROW 88)).heap.size = w.heap.size + 1 := World.size_alloc _ _
  exact grown_of_below ((B1.grown (grown_setCells (w := w.drew.alloc (.cells ROW 88)) (i * 2) (vs.flatMap clE)) (by rw [hs]; omega) (fun k hk => by injection hk with hk; omega)).drew.grown (grown_setCells _ _) (by show w.heap.size ≤ ((w.drew.alloc (.cells ROW 88)).setCells _ _ _).heap.size; rw [(setCells_same _ _ _ _).2.2.2, hs]; omega) (fun k hk => by injection hk with hk; omega))
theorem cl_ins.calls (g cap gv vc i : Nat) (l vs : List S88) (w : World) (ho : OwnB clE 88 w g cap l) (hv : OwnB clE 88 w gv vc vs) (hg : gv ≠ g) (hl : l.length ≤ 1000000) (hvl : vs.length ≤ 1000000) (hv0 : 0 < vs.length) (hi : i ≤ l.length) : Calls Try.prog 143 #[.slice (some ⟨g, 0, none⟩) l.length cap, .int .i64 i, .slice (some ⟨gv, 0, none⟩) vs.length vc] w (clIns g i l vs w) := by
  rcases Nat.eq_or_lt_of_le hi with h | h
  · exact cl_ins_end g cap gv vc i l vs w ho hv hg hl hvl hv0 h
  · by_cases hr : l.length + vs.length ≤ cap
    · exact cl_ins_room g cap gv vc i l vs w ho hv hg hl hvl hv0 h hr
    · exact cl_ins_grow g cap gv vc i l vs w ho hv hg hl hvl hv0 h (by omega)
set_option maxHeartbeats 4000000 in
set_option maxRecDepth 100000 in
/-- Insert into nothing -/
theorem cl_ins_nil.calls (gv vc : Nat) (vs : List S88) (w : World) (hv : OwnB clE 88 w gv vc vs) (hvl : vs.length ≤ 1000000) (hv0 : 0 < vs.length) :
    Calls Try.prog 143 #[.slice none 0 0, .int .i64 0, .slice (some ⟨gv, 0, none⟩) vs.length vc] w fun e w' => ∃ g' cap', e = .returned (.slice (some ⟨g', 0, none⟩) vs.length cap') ∧ OwnB clE 88 w' g' cap' vs ∧ w.heap.size ≤ g' ∧ Below w.heap.size w w' := by
  have HO := Lib.hid (Kd.R_nil k88 88 w w.heap.size (fun _ => True))
  have HV := Lib.hid (cl_C hv)
  have hz1 : ¬ ((vs.length : Int) = 0) := by omega
  clear hv
  go_enter Try.func143, Try.ntmps143
  go_wp2_with (at_builtin; refine Kd.R_append_rows k88 (w0 := w) (Rr := (k88).K w) w.heap.size rfl _ _ 23 88 (.agg #[(.int .u64 0), (.int .u64 0)]) 16 rfl Try.underlying23 info88 rfl (by decide) (by omega) _ [] vs _ _ _ (fun _ => True) (fun _ => False) rfl rfl HO.out HV.out ?q3 (fun _ h => h.elim) (fun _ _ => trivial) ?q4 ?q5 ?q6 ?_)
  case q3 =>
    intro x cs h
    rw [k88_open h]
    exact k88_mkM _ _ _ _
  case q4 => exact Below.refl _ w
  case q5 => exact Nat.le_refl _
  case q6 => simp only [List.length_nil]; omega
  intro v1 w1 h1 h2 _ _
  rcases cl_own h1 with ⟨_, h5⟩ | ⟨g', cap', rfl, h5, h6⟩
  · subst h5
    exact absurd hv0 (by simp)
  have H2 := Lib.hid h2
  have H5 := Lib.hid h5
  have H6 := Lib.hid h6
  clear h1 h2 h5 h6
  go_wp2
  go_ret
  exact ⟨g', cap', rfl, H6.out, H5.out, H2.out⟩
set_option maxHeartbeats 8000000 in
set_option maxRecDepth 100000 in
/-- an element struck -/
theorem cl_del.calls (g cap k j : Nat) (l : List S88) (w : World) (ho : OwnB clE 88 w g cap l) (hl : l.length ≤ 1000000) (hk : k < l.length) (hj : j = k + 1) :
    Calls Try.prog 142 #[.slice (some ⟨g, 0, none⟩) l.length cap, .int .i64 k, .int .i64 (j : Nat)] w fun e w' => e = .returned (.slice (some ⟨g, 0, none⟩) (l.length - 1) cap) ∧ OwnB clE 88 w' g cap (l.eraseIdx k) ∧ w.grownBy w' (some g) := by
  have hc63 : cap ≤ 9223372036854775807 := ho.cap_le
  have hnc := ho.len_le
  have mixed : Try.prog.follows Departure.mixedOrders = true := by kernel_rfl
  have hne : ((k : Int) == (j : Int)) = false := beq_eq_false_iff_ne.2 (by omega)
  have hin : (j : Int) ≤ (l.length : Int) := by omega
  obtain ⟨i0, hi0, hii⟩ := Option.map_eq_some_iff.1 info88
  simp only [Prod.mk.injEq] at hii
  obtain ⟨_, hzs, _⟩ := hii
  obtain ⟨news, hnews⟩ : ∃ news, news = (l.drop j).flatMap clE := ⟨_, rfl⟩
  have hlen : news.length = (l.length - j) * 2 := by rw [hnews, flat_len clE_2, List.length_drop]
  have hcs : ∀ t u, news[t]? = some u → w.drew.cell? ⟨g, j * 2 + t, none⟩ = some u := fun q v hj' => by
    rw [hnews, ← flat_drop clE_2, List.getElem?_drop] at hj'
    obtain ⟨hlt, _⟩ := List.getElem?_eq_some_iff.1 hj'
    rw [flat_len clE_2] at hlt
    have h := ho.cell clE_2 (show (j * 2 + q) / 2 < l.length by omega) (show (j * 2 + q) % 2 < 2 by omega)
    have h' := flat_get clE_2 (show (j * 2 + q) / 2 < l.length by omega) (show (j * 2 + q) % 2 < 2 by omega)
    rw [show (j * 2 + q) / 2 * 2 + (j * 2 + q) % 2 = j * 2 + q by omega] at h h'
    exact h.trans (h'.symm.trans hj')
  obtain ⟨A, hA, hsrc⟩ : ∃ A : Addr, (if cap = j then some (⟨g, 0, none⟩ : Addr) else some ⟨g, j * 2, none⟩) = some A ∧ Hid (∀ t u, news[t]? = some u → w.drew.cell? (A.add t) = some u) := by
    by_cases h : cap = j
    · refine ⟨⟨g, 0, none⟩, by simp [h], Lib.hid (fun t u hu => ?_)⟩
      rw [List.length_eq_zero_iff.1 (show news.length = 0 by rw [hlen]; omega)] at hu
      simp at hu
    refine ⟨⟨g, j * 2, none⟩, by simp [h], Lib.hid (fun t u hu => ?_)⟩
    rw [Addr.add_lit]
    exact hcs t u hu
  have s1 := Lib.hid hlen
  have s2 := Lib.hid (show ∀ u ∈ news, u.oneCell' = true by rw [hnews]; exact cl_flat_one _)
  have s3 := Lib.hid (show ∀ t, t < news.length → (w.drew.cell? ⟨g, 0 + k * 2 + t, none⟩).isSome = true ∧ w.drew.frozen? ⟨g, 0 + k * 2 + t, none⟩ = false by
    intro t ht
    rw [hlen] at ht
    exact ⟨ho.there (by omega), ho.free _⟩)
  obtain ⟨W1, hW1⟩ : ∃ W1, W1 = w.drew.setCells g (0 + k * 2) news := ⟨_, rfl⟩
  have O1 : OwnB clE 88 W1 g cap (l.take k ++ l.drop j ++ l.drop (l.length - 1)) := by
    have h := (ho.move (w' := w.drew) rfl).put clE_2 k (l.drop j) (by omega) (by rw [List.length_drop]; omega)
    rw [← hnews, List.length_drop, show k + (l.length - j) = l.length - 1 by omega] at h
    rw [hW1, Nat.zero_add]
    exact h
  have O2 := O1.take clE_2 (l.length - 1)
  rw [List.take_left' (by rw [List.length_append, List.length_take, List.length_drop]; omega)] at O2
  have hel : (l.take k ++ l.drop j).length = l.length - 1 := by rw [List.length_append, List.length_take, List.length_drop]; omega
  have hz : ∀ w, (zeroValue 88).run Try.prog w = .ok (.agg #[(.int .u64 0), (.int .u64 0)]) w := fun w => by kernel_rfl
  have hzl : (Builtin.zeroCells (.agg #[(.int .u64 0), (.int .u64 0)] : Value).cells 1).toList.length = 2 := by simp [Builtin.zeroCells, Value.cells]
  have hcl : ∀ ty c, (Builtin.clear_ #[23] ty #[.slice (some ⟨g, (l.length - 1) * 2, none⟩) (l.length - (l.length - 1)) c]).run Try.prog W1 = .ok (.tuple #[]) (W1.setCells g ((l.length - 1) * 2) (Builtin.zeroCells (.agg #[(.int .u64 0), (.int .u64 0)] : Value).cells 1).toList) := fun ty c => by
    rw [show l.length - (l.length - 1) = 1 by omega]
    exact run_clear_own W1 _ _ ty _ _ Try.underlying23 hz g ((l.length - 1) * 2) _ _ (by omega) rfl (fun q hq => O1.there (by omega)) (fun q _ => O1.free _) (by
      intro v hv
      simp only [Builtin.zeroCells, Value.cells] at hv
      simp at hv
      obtain ⟨q, _, rfl⟩ := hv
      rcases (show q % 2 = 0 ∨ q % 2 = 1 by omega) with h | h
      · rw [h]; rfl
      · rw [h]; rfl)
  have O3 := Lib.hid (O2.behind clE_2 ((l.length - 1) * 2) (Builtin.zeroCells (.agg #[(.int .u64 0), (.int .u64 0)] : Value).cells 1).toList (by rw [hel]; omega) (by rw [hzl]; omega))
  have HW := Lib.hid hW1
  have hq1 : k + (l.length - j) = l.length - 1 := by omega
  have hq2 : ¬ (cap = l.length - 1) := by omega
  have hq3 : ((l.length - 1 : Nat) : Int) ≤ (l.length : Int) := by omega
  have hkc : k ≤ cap := by omega
  have hjc : j ≤ cap := by omega
  have hkj : (k : Int) ≤ (j : Int) := by omega
  have HJ := Lib.hid hj
  clear hj ho hcs hlen hnews O1 O2 hz hzl hel hW1
  go_enter Try.func142, Try.ntmps142
  go_wp2
  go_region_law_o (refine step_append_room rfl (.tmp 22) (.tmp 25) 23 rfl 88 i0 2 Try.underlying23 hi0 hzs g 0 k cap (by simp [Act.eval, Act.put]) A (l.length - j) (cap - j) news (by simp [Act.eval, Act.put]) s1.out hsrc.out s2.out (by omega) s3.out ?_; rw [← HW.out])
  go_wp2
  go_ret
  refine ⟨rfl, ?_, ?_⟩
  · rw [List.eraseIdx_eq_take_drop_succ, ← HJ.out]
    exact O3.out
  · rw [HW.out]
    exact grown_trans (grown_of_below ((Below.refl _ w).drew)) (grown_trans (grown_setCells _ _) (grown_setCells _ _))
end Go.Proofs.Ytgkjdpdmmlalcaa.F
end
