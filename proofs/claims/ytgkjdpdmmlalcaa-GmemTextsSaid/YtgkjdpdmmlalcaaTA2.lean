import Derived.Test.YtgkjdpdmmlalcaaTZF0
import Derived.Test.YtgkjdpdmmlalcaaTA0
section
namespace Go.Proofs.Ytgkjdpdmmlalcaa.F
open Go.RowKit Go.Shelf Go.Proofs.YtgkjdpdmmlalcaaW.PrintWords Go.Proofs.YtgkjdpdmmlalcaaW.PrintLast Go.Proofs.YtgkjdpdmmlalcaaW.PrintMore
set_option linter.unusedVariables false
set_option linter.unusedSimpArgs false
theorem sblk_lt {W : World} {b : Nat} {o : Obj} (h : W.heap[b]? = some o) : b < W.heap.size := (Array.getElem?_eq_some_iff.1 h).1
theorem sblk_cell {W : World} {b : Nat} {cs : Array Value} {t : TypeId} {fr : Nat × Nat} (h : W.heap[b]? = some (.cells cs t fr)) (j : Nat) : W.cell? ⟨b, j, none⟩ = cs[j]? := by
  simp [World.cell?, h]
theorem sblk_free {W : World} {b : Nat} {cs : Array Value} {t : TypeId} (h : W.heap[b]? = some (.cells cs t (0, 0))) (j : Nat) : W.frozen? ⟨b, j, none⟩ = false := by
  simp [World.frozen?, h]
theorem grown_of_below {w w' : World} {r : Option Nat} (h : Below w.heap.size w w') : w.grownBy w' r := ⟨h.os, h.tape, h.output, h.size, fun k hk _ => h.block k hk⟩
theorem grown_trans {w w1 w2 : World} {r : Option Nat} (h : w.grownBy w1 r) (h2 : w1.grownBy w2 r) : w.grownBy w2 r :=
  ⟨h2.os.trans h.os, h2.tape.trans h.tape, h2.output.trans h.output, Nat.le_trans h.size h2.size, fun k hk hr => (h2.block k (Nat.lt_of_lt_of_le hk h.size) hr).trans (h.block k hk hr)⟩
theorem below_of_grown {b : Nat} {w w1 w2 : World} {g : Nat} (h : Below b w w1) (h2 : w1.grownBy w2 (some g)) (hg : b ≤ g) (hb : b ≤ w1.heap.size) : Below b w w2 :=
  h.grown h2 hb (fun k hk => by injection hk with hk; omega)
theorem grown_setCells {w : World} {g : Nat} (o : Nat) (vs : List Value) : w.grownBy (w.setCells g o vs) (some g) := by
  obtain ⟨h1, h2, h3, h4⟩ := setCells_same g vs o w
  exact ⟨h1, h2, h3, Nat.le_of_eq h4.symm, fun k _ hk => setCells_far vs o k (fun e => hk (by rw [e]))⟩
section
variable {α : Type} (en : α → List Value) (T : TypeId)
def OwnB (w : World) (g cap : Nat) (l : List α) : Prop :=
  ∃ cur, w.heap[g]? = some (.cells cur T (0, 0)) ∧ cur.size = cap * 2 ∧ cap ≤ 9223372036854775807 ∧ l.length ≤ cap ∧ cur.toList.take (l.length * 2) = l.flatMap en
variable {en T}
theorem OwnB.lt {w : World} {g cap : Nat} {l : List α} (h : OwnB en T w g cap l) : g < w.heap.size := by
  obtain ⟨_, h, _⟩ := h
  exact sblk_lt h
theorem OwnB.cap_le {w : World} {g cap : Nat} {l : List α} (h : OwnB en T w g cap l) : cap ≤ 9223372036854775807 := by
  obtain ⟨_, _, _, h, _⟩ := h
  exact h
theorem OwnB.len_le {w : World} {g cap : Nat} {l : List α} (h : OwnB en T w g cap l) : l.length ≤ cap := by
  obtain ⟨_, _, _, _, h, _⟩ := h
  exact h
theorem OwnB.move {w w' : World} {g cap : Nat} {l : List α} (h : OwnB en T w g cap l) (e : w'.heap[g]? = w.heap[g]?) : OwnB en T w' g cap l := by
  obtain ⟨cur, h0, h1⟩ := h
  exact ⟨cur, e.trans h0, h1⟩
theorem OwnB.below {w w' : World} {g cap : Nat} {l : List α} (h : OwnB en T w g cap l) (hb : Below w.heap.size w w') : OwnB en T w' g cap l := h.move (hb.block g h.lt)
theorem flat_len (h2 : ∀ x, (en x).length = 2) : ∀ l : List α, (l.flatMap en).length = l.length * 2
  | [] => rfl
  | x :: l => by
    rw [List.flatMap_cons, List.length_append, h2, flat_len h2 l, List.length_cons]
    omega
theorem flat_take (h2 : ∀ x, (en x).length = 2) : ∀ (k : Nat) (l : List α), (l.flatMap en).take (k * 2) = (l.take k).flatMap en
  | 0, l => by simp
  | k + 1, [] => by simp
  | k + 1, x :: l => by
    rw [List.flatMap_cons, List.take_succ_cons, List.flatMap_cons, List.take_append, h2, List.take_of_length_le (by rw [h2]; omega), show (k + 1) * 2 - 2 = k * 2 by omega, flat_take h2 k l]
theorem flat_drop (h2 : ∀ x, (en x).length = 2) : ∀ (k : Nat) (l : List α), (l.flatMap en).drop (k * 2) = (l.drop k).flatMap en
  | 0, l => by simp
  | k + 1, [] => by simp
  | k + 1, x :: l => by
    rw [List.flatMap_cons, List.drop_succ_cons, List.drop_append, h2, List.drop_of_length_le (by rw [h2]; omega), List.nil_append, show (k + 1) * 2 - 2 = k * 2 by omega, flat_drop h2 k l]
theorem flat_get (h2 : ∀ x, (en x).length = 2) {l : List α} {k : Nat} (hk : k < l.length) {j : Nat} (hj : j < 2) : (l.flatMap en)[k * 2 + j]? = (en l[k])[j]? := by
  rw [← List.getElem?_drop, flat_drop h2, List.drop_eq_getElem_cons hk, List.flatMap_cons, List.getElem?_append_left (by rw [h2]; exact hj)]
theorem OwnB.cell (h2 : ∀ x, (en x).length = 2) {w : World} {g cap : Nat} {l : List α} (h : OwnB en T w g cap l) {k : Nat} (hk : k < l.length) {j : Nat} (hj : j < 2) : w.cell? ⟨g, k * 2 + j, none⟩ = (en l[k])[j]? := by
  obtain ⟨cur, h0, h1, _, h3, h4⟩ := h
  rw [sblk_cell h0, ← flat_get h2 hk hj, ← h4, List.getElem?_take, if_pos (by omega), Array.getElem?_toList]
theorem OwnB.there {w : World} {g cap : Nat} {l : List α} (h : OwnB en T w g cap l) {j : Nat} (hj : j < cap * 2) : (w.cell? ⟨g, j, none⟩).isSome = true := by
  obtain ⟨cur, h0, h1, _⟩ := h
  rw [sblk_cell h0, Array.getElem?_eq_getElem (by omega)]
  rfl
theorem OwnB.free {w : World} {g cap : Nat} {l : List α} (h : OwnB en T w g cap l) (j : Nat) : w.frozen? ⟨g, j, none⟩ = false := by
  obtain ⟨cur, h0, h1, _⟩ := h
  exact sblk_free h0 j
theorem OwnB.take (h2 : ∀ x, (en x).length = 2) {w : World} {g cap : Nat} {l : List α} (h : OwnB en T w g cap l) (k : Nat) : OwnB en T w g cap (l.take k) := by
  obtain ⟨cur, h0, h1, h5, h3, h4⟩ := h
  refine ⟨cur, h0, h1, h5, by rw [List.length_take]; omega, ?_⟩
  rw [← flat_take h2, ← h4, List.take_take, List.length_take]
  congr 1
  omega
theorem OwnB.put (h2 : ∀ x, (en x).length = 2) {w : World} {g cap : Nat} {l : List α} (h : OwnB en T w g cap l) (i : Nat) (vs : List α) (hi : i ≤ l.length) (hc : i + vs.length ≤ cap) :
    OwnB en T (w.setCells g (i * 2) (vs.flatMap en)) g cap (l.take i ++ vs ++ l.drop (i + vs.length)) := by
  obtain ⟨cur, h0, h1, h5, h3, h4⟩ := h
  have hl := flat_len h2 vs
  obtain ⟨cur', a0, a1, a2⟩ := setCells_row (vs.flatMap en) (i * 2) w cur h0 (by rw [hl]; omega)
  have hlen : (l.take i ++ vs ++ l.drop (i + vs.length)).length = max l.length (i + vs.length) := by
    rw [List.length_append, List.length_append, List.length_take, List.length_drop]
    omega
  refine ⟨cur', a0, by rw [a1, h1], h5, by rw [hlen]; omega, ?_⟩
  rw [a2, hlen, hl, List.flatMap_append, List.flatMap_append]
  have e1 : cur.toList.take (i * 2) = (l.take i).flatMap en := by
    rw [← flat_take h2, ← h4, List.take_take, Nat.min_eq_left (by omega)]
  have hl1 : ((l.take i).flatMap en ++ vs.flatMap en).length = (i + vs.length) * 2 := by
    rw [List.length_append, flat_len h2, flat_len h2, List.length_take]
    omega
  rw [e1]
  by_cases hm : l.length ≤ i + vs.length
  · rw [List.drop_eq_nil_of_le hm, List.flatMap_nil, List.append_nil, Nat.max_eq_right hm, List.take_append, List.take_of_length_le (by rw [hl1]; omega), hl1, Nat.sub_self, List.take_zero, List.append_nil]
  rw [Nat.max_eq_left (by omega), List.take_append, hl1, List.take_of_length_le (by rw [hl1]; omega)]
  congr 1
  rw [← flat_drop h2 (i + vs.length) l, ← h4, List.drop_take, show (i + vs.length) * 2 = i * 2 + vs.length * 2 by omega]
theorem OwnB.behind (h2 : ∀ x, (en x).length = 2) {w : World} {g cap : Nat} {l : List α} (h : OwnB en T w g cap l) (o : Nat) (vs : List Value) (hi : l.length * 2 ≤ o) (hc : o + vs.length ≤ cap * 2) :
    OwnB en T (w.setCells g o vs) g cap l := by
  obtain ⟨cur, h0, h1, h5, h3, h4⟩ := h
  obtain ⟨cur', a0, a1, a2⟩ := setCells_row vs o w cur h0 (by omega)
  refine ⟨cur', a0, by rw [a1, h1], h5, h3, ?_⟩
  have hcl : cur.toList.length = cap * 2 := by rw [Array.length_toList, h1]
  rw [a2, List.append_assoc, List.take_append, List.take_take, Nat.min_eq_left hi, h4, List.length_take, hcl, show l.length * 2 - min o (cap * 2) = 0 by omega, List.take_zero, List.append_nil]
theorem OwnB.insert (h2 : ∀ x, (en x).length = 2) {w w1 : World} {g cap : Nat} {l : List α} (h : OwnB en T w g cap l) (i : Nat) (vs : List α) (hi : i ≤ l.length) (hc : l.length + vs.length ≤ cap)
    (hw : w1.heap[g]? = (w.setCells g ((i + vs.length) * 2) ((l.drop i).flatMap en)).heap[g]?) :
    OwnB en T (w1.setCells g (i * 2) (vs.flatMap en)) g cap (l.take i ++ vs ++ l.drop i) := by
  obtain ⟨cur, h0, h1, h5, h3, h4⟩ := h
  have hl := flat_len h2 vs
  have hd := flat_len h2 (l.drop i)
  rw [List.length_drop] at hd
  obtain ⟨cur1, a0, a1, a2⟩ := setCells_row ((l.drop i).flatMap en) ((i + vs.length) * 2) w cur h0 (by rw [hd]; omega)
  obtain ⟨cur2, b0, b1, b2⟩ := setCells_row (vs.flatMap en) (i * 2) w1 cur1 (hw.trans a0) (by rw [hl, a1]; omega)
  have hcl : cur.toList.length = cap * 2 := by rw [Array.length_toList, h1]
  have hlen : (l.take i ++ vs ++ l.drop i).length = l.length + vs.length := by
    rw [List.length_append, List.length_append, List.length_take, List.length_drop]
    omega
  refine ⟨cur2, b0, by rw [b1, a1, h1], h5, by rw [hlen]; exact hc, ?_⟩
  have e1 : cur.toList.take (i * 2) = (l.take i).flatMap en := by
    rw [← flat_take h2, ← h4, List.take_take, Nat.min_eq_left (by omega)]
  have e2 : cur1.toList.take (i * 2) = (l.take i).flatMap en := by
    rw [a2, List.append_assoc, List.take_append_of_le_length (by rw [List.length_take, hcl]; omega), List.take_take, Nat.min_eq_left (by omega), e1]
  have e3 : cur1.toList.drop (i * 2 + vs.length * 2) = (l.drop i).flatMap en ++ cur.toList.drop ((i + vs.length) * 2 + ((l.drop i).flatMap en).length) := by
    rw [a2, List.append_assoc, show i * 2 + vs.length * 2 = (i + vs.length) * 2 by omega]
    exact List.drop_left' (by rw [List.length_take, hcl]; omega)
  rw [b2, hl, e2, e3, hlen, List.flatMap_append, List.flatMap_append, ← List.append_assoc]
  exact List.take_left' (by rw [List.length_append, List.length_append, flat_len h2, hl, hd, List.length_take]; omega)
end
theorem run_clear_own {P : Program} (w : World) (t e ty : TypeId) (z : Value) (zs : List Value) (ht : P.underlying t = some (.slice e)) (hv : ∀ w, (zeroValue e).run P w = .ok z w) (b o n c : Nat) (hn : 0 < n) (hz : (Builtin.zeroCells z.cells n).toList = zs)
    (hc : ∀ j, j < zs.length → (w.cell? ⟨b, o + j, none⟩).isSome = true) (hf : ∀ j, j < zs.length → w.frozen? ⟨b, o + j, none⟩ = false) (h1 : ∀ v ∈ zs, v.oneCell' = true) :
    (Builtin.clear_ #[t] ty #[.slice (some ⟨b, o, none⟩) n c]).run P w = .ok (.tuple #[]) (w.setCells b o zs) := by
  have hst := run_storeCells_cells (P := P) b o zs 0 w (by simpa using hc) (by simpa using hf) h1
  simp only [Nat.add_zero] at hst
  obtain ⟨m, rfl⟩ : ∃ m, n = m + 1 := ⟨n - 1, by omega⟩
  simp [Builtin.clear_, run_underlying ht, hv, hz, hst]
theorem run_copy_own {P : Program} (w : World) (dT sT ty elem : TypeId) (sz b o dLen dCap : Nat) (a : Addr) (sLen sCap : Nat) (cs : List Value)
    (hu : P.underlying dT = some (.slice elem)) (hs : (P.info? elem).map (·.size) = some sz) (hn : cs.length = Nat.min sLen dLen * sz)
    (hsrc : ∀ j v, cs[j]? = some v → w.cell? (a.add j) = some v) (hc : ∀ j, j < cs.length → (w.cell? ⟨b, o + j, none⟩).isSome = true) (hf : ∀ j, j < cs.length → w.frozen? ⟨b, o + j, none⟩ = false) (h1 : ∀ v ∈ cs, v.oneCell' = true) :
    (Builtin.copy_ #[dT, sT] ty #[.slice (some ⟨b, o, none⟩) dLen dCap, .slice (some a) sLen sCap]).run P w = .ok (goInt (Nat.min sLen dLen)) (w.setCells b o cs) := by
  have hl := run_loadCells_list (P := P) w a cs hsrc
  have hst := run_storeCells_cells (P := P) b o cs 0 w (by simpa using hc) (by simpa using hf) h1
  cases hq : P.info? elem with
  | none => simp [hq] at hs
  | some i =>
    have hi : i.size = sz := by simpa [hq] using hs
    simp [Builtin.copy_, run_underlying hu, Builtin.lenOf, Builtin.firstCells, sizeOf, typeInfo, hq, hi, ← hn, hl, hst]
end Go.Proofs.Ytgkjdpdmmlalcaa.F
end
section
namespace Go.Proofs.Ytgkjdpdmmlalcaa.F
open Go.RowKit Go.Shelf Go.Proofs.YtgkjdpdmmlalcaaW.PrintWords Go.Proofs.YtgkjdpdmmlalcaaW.PrintLast Go.Proofs.YtgkjdpdmmlalcaaW.PrintMore
set_option linter.unusedVariables false
set_option linter.unusedSimpArgs false
def clE (x : S88) : List Value := [.int .u64 x.f0, .int .u64 x.f1]
theorem clE_2 (x : S88) : (clE x).length = 2 := rfl
theorem clE_one (x : S88) : ∀ v ∈ clE x, v.oneCell' = true := by
  intro v hv
  rcases List.mem_cons.1 hv with rfl | hv
  · rfl
  · rw [List.mem_singleton.1 hv]
    rfl
theorem cl_flat_one (l : List S88) : ∀ v ∈ l.flatMap clE, v.oneCell' = true := by
  intro v hv
  obtain ⟨x, _, hx⟩ := List.mem_flatMap.1 hv
  exact clE_one x v hx
theorem cl_R {w : World} {g cap B : Nat} {l : List S88} (h : OwnB clE 88 w g cap l) (hg : B ≤ g) : Kd.R k88 88 w B (fun _ => True) (.slice (some ⟨g, 0, none⟩) l.length cap) l := by
  obtain ⟨cur, h0, h1, h2, h3, h4⟩ := h
  refine ⟨fun _ _ => trivial, l.flatMap clE, ⟨flat_len clE_2 l, .inr ⟨g, cap, cur, rfl, hg, h0, h3, by unfold maxLen; exact h2, h1, h4⟩⟩, flat_len clE_2 l, fun j x hj => ?_⟩
  obtain ⟨hl, hx⟩ := List.getElem?_eq_some_iff.1 hj
  have e : ((l.flatMap clE).drop (j * 2)).take 2 = [.int .u64 x.f0, .int .u64 x.f1] := by
    rw [flat_drop clE_2, List.drop_eq_getElem_cons hl, List.flatMap_cons, List.take_left' (clE_2 _), hx]
    rfl
  show (k88).M w B _ x (((l.flatMap clE).drop (j * 2)).take 2)
  rw [e]
  exact k88_mkM _ _ _ _
theorem cl_flat_of {w : World} {B : Nat} {ok : Nat → Prop} : ∀ {l : List S88} {cs : List Value}, Reps ((k88).M w B ok) 2 l cs → cs = l.flatMap clE
  | [], cs, h => by
    have := h.1
    simp at this
    simp [this]
  | x :: l, cs, h => by
    obtain ⟨h1, h2⟩ := h
    have hx := h2 0 x rfl
    have hx := k88_openM hx
    rw [Nat.zero_mul, List.drop_zero] at hx
    have ih := cl_flat_of (l := l) (cs := cs.drop 2) ⟨by rw [List.length_drop, h1, List.length_cons]; omega, fun j y hj => by
      have := h2 (j + 1) y (by simpa using hj)
      rwa [show (j + 1) * 2 = 2 + j * 2 by omega, ← List.drop_drop] at this⟩
    rw [List.flatMap_cons, ← ih, ← List.take_append_drop 2 cs, hx]
    simp [clE]
theorem cl_own {w : World} {B : Nat} {ok : Nat → Prop} {v : Value} {l : List S88} (h : Kd.R k88 88 w B ok v l) : (v = .slice none 0 0 ∧ l = []) ∨ ∃ g cap, v = .slice (some ⟨g, 0, none⟩) l.length cap ∧ B ≤ g ∧ OwnB clE 88 w g cap l := by
  obtain ⟨_, inner, ⟨h1, h2⟩, h3⟩ := h
  have hin := cl_flat_of h3
  rcases h2 with ⟨rfl, hn⟩ | ⟨g, cap, cur, rfl, hg, hh, hnc, hcm, hcs, ht⟩
  · exact .inl ⟨rfl, List.eq_nil_of_length_eq_zero hn⟩
  · exact .inr ⟨g, cap, rfl, hg, cur, hh, hcs, by unfold maxLen at hcm; exact hcm, hnc, by rw [← hin]; exact ht⟩
theorem cl_C {w : World} {g cap : Nat} {l : List S88} (h : OwnB clE 88 w g cap l) : Kd.C k88 w (some ⟨g, 0, none⟩) l.length l := by
  obtain ⟨A, c, e, _, hC⟩ := Kd.R_reads (cl_R h (Nat.zero_le g))
  cases e
  exact hC
set_option maxHeartbeats 4000000 in
set_option maxRecDepth 100000 in
theorem cl_clone.calls (A : Option Addr) (c : Nat) (l : List S88) (w : World) (hr : Kd.C k88 w A l.length l) (hc : l.length ≤ c) (hl : l.length ≤ 1000000) :
    Calls Try.prog 106 #[.slice A l.length c] w fun e w' => ∃ v : Value, e = .returned v ∧ Kd.R k88 88 w' w.heap.size (fun _ => True) v l ∧ Below w.heap.size w w' := by
  cases A with
  | none =>
    have e : l = [] := by
      rcases Nat.eq_zero_or_pos l.length with h | h
      · exact List.eq_nil_of_length_eq_zero h
      · obtain ⟨ad, h2, _⟩ := hr.2.2 h
        cases h2
    subst e
    clear hr
    have q22 : ∀ (w : World) (a : Option Addr) (n c n' c' : Nat), (binOp .eql 23 (.slice a n c) (.slice none n' c')).run Try.prog w = .ok (.bool a.isNone) w := fun w a n c n' c' => Lib.run_eql_slice_nil w _ _ a n c n' c' Try.underlying23
    go_enter Try.func106, Try.ntmps106
    go_wp2
    go_ret
    exact ⟨_, rfl, Kd.R_nil _ _ _ _ _, Below.refl _ _⟩
  | some ad =>
    have HB0 : Below w.heap.size w (w.alloc (.cells #[] 88)) := (Below.refl _ w).alloc (Nat.le_refl _) _
    have HC := Lib.hid (Kd.C_below hr HB0)
    have HO := Lib.hid (cl_R (l := []) (B := w.heap.size) (cap := 0) (g := w.heap.size) (w := w.alloc (.cells #[] 88)) ⟨#[], blk_new w _, rfl, by omega, by simp, rfl⟩ (Nat.le_refl _))
    have HB := Lib.hid HB0
    clear hr HB0
    have q22 : ∀ (w : World) (a : Option Addr) (n c n' c' : Nat), (binOp .eql 23 (.slice a n c) (.slice none n' c')).run Try.prog w = .ok (.bool a.isNone) w := fun w a n c n' c' => Lib.run_eql_slice_nil w _ _ a n c n' c' Try.underlying23
    go_enter Try.func106, Try.ntmps106
    go_wp2_with (at_builtin; refine Kd.R_append_rows k88 (w0 := w) (Rr := (k88).K w) w.heap.size rfl _ _ 23 88 (.agg #[(.int .u64 0), (.int .u64 0)]) 16 rfl Try.underlying23 info88 rfl (by decide) (by omega) _ [] l _ _ _ (fun _ => True) (fun _ => False) rfl rfl ?q1 ?q2 ?q3 (fun _ h => h.elim) (fun _ _ => trivial) ?q4 ?q5 ?q6 ?_)
    case q1 => exact HO.out
    case q2 => exact HC.out
    case q3 =>
      intro x cs h
      rw [k88_open h]
      exact k88_mkM _ _ _ _
    case q4 => exact HB.out
    case q5 => exact HB.out.size
    case q6 => simp only [List.length_nil]; omega
    intro v1 w1 h1 h2 _ _
    have H1 := Lib.hid h1
    have H2 := Lib.hid h2
    clear h1 h2
    go_wp2
    go_ret
    exact ⟨_, rfl, by simpa using H1.out, H2.out⟩
end Go.Proofs.Ytgkjdpdmmlalcaa.F
end
