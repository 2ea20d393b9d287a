import Derived.Test.YtjhfglpgpicmiaaVZF0
section
namespace Go.Proofs.Ytjhfglpgpicmiaa.F
set_option linter.unusedVariables false
section
variable {α : Type} (key val : α → Int)
def Rises : List α → Prop
  | [] => True
  | [_] => True
  | x :: y :: l => key x < key y ∧ Rises (y :: l)
theorem rises_tail {x : α} {l : List α} (h : Rises key (x :: l)) : Rises key l := by
  cases l with
  | nil => trivial
  | cons y l => exact h.2
theorem rises_head : ∀ {l : List α} {x : α}, Rises key (x :: l) → ∀ y ∈ l, key x < key y
  | [], _, _, y, hy => by simp at hy
  | z :: l, x, h, y, hy => by
    rcases List.mem_cons.1 hy with rfl | hy
    · exact h.1
    · exact Int.lt_trans h.1 (rises_head h.2 y hy)
theorem rises_cons {x : α} {l : List α} (h : ∀ y ∈ l, key x < key y) (hl : Rises key l) : Rises key (x :: l) := by
  cases l with
  | nil => trivial
  | cons y l => exact ⟨h y List.mem_cons_self, hl⟩
theorem rises_append : ∀ {l m : List α}, Rises key l → Rises key m → (∀ x ∈ l, ∀ y ∈ m, key x < key y) → Rises key (l ++ m)
  | [], _, _, hm, _ => hm
  | x :: l, m, hl, hm, h => by
    refine rises_cons key (fun y hy => ?_) (rises_append (rises_tail key hl) hm (fun a ha b hb => h a (List.mem_cons_of_mem _ ha) b hb))
    rcases List.mem_append.1 hy with hy | hy
    · exact rises_head key hl y hy
    · exact h x List.mem_cons_self y hy
theorem rises_left : ∀ {l m : List α}, Rises key (l ++ m) → Rises key l
  | [], _, _ => trivial
  | x :: l, m, h => rises_cons key (fun y hy => rises_head key h y (List.mem_append_left _ hy)) (rises_left (rises_tail key h))
theorem rises_right : ∀ {l m : List α}, Rises key (l ++ m) → Rises key m
  | [], _, h => h
  | x :: l, m, h => rises_right (l := l) (rises_tail key h)
theorem rises_filter (p : α → Bool) : ∀ {l : List α}, Rises key l → Rises key (l.filter p)
  | [], _ => trivial
  | x :: l, h => by
    rw [List.filter_cons]
    split
    · exact rises_cons key (fun y hy => rises_head key h y (List.mem_filter.1 hy).1) (rises_filter p (rises_tail key h))
    · exact rises_filter p (rises_tail key h)
theorem rises_map {l : List α} (f : α → α) (hf : ∀ x, key (f x) = key x) (h : Rises key l) : Rises key (l.map f) := by
  induction l with
  | nil => trivial
  | cons x l ih =>
    refine rises_cons key (fun y hy => ?_) (ih (rises_tail key h))
    obtain ⟨z, hz, rfl⟩ := List.mem_map.1 hy
    rw [hf, hf]
    exact rises_head key h z hz
theorem rises_get : ∀ {l : List α}, Rises key l → ∀ (i j : Nat) (hj : j < l.length) (hij : i < j), key (l[i]'(Nat.lt_trans hij hj)) < key l[j]
  | x :: l, h, 0, j + 1, hj, _ => rises_head key h _ (List.getElem_mem (by simpa using hj))
  | x :: l, h, i + 1, j + 1, hj, hij => by
    have := rises_get (rises_tail key h) i j (by simpa using hj) (by omega)
    simpa using this
def lowB (k : Int) : List α → Nat
  | [] => 0
  | x :: l => if key x < k then lowB k l + 1 else 0
theorem lowB_le (k : Int) : ∀ l : List α, lowB key k l ≤ l.length
  | [] => Nat.le_refl _
  | x :: l => by
    unfold lowB
    split
    · have := lowB_le k l
      simpa using this
    · simp
theorem lowB_lt (k : Int) : ∀ (l : List α) (j : Nat) (hj : j < l.length), j < lowB key k l → key l[j] < k
  | x :: l, 0, hj, h => by
    unfold lowB at h
    split at h
    · assumption
    · omega
  | x :: l, j + 1, hj, h => by
    unfold lowB at h
    split at h
    · have := lowB_lt k l j (by simpa using hj) (by omega)
      simpa using this
    · omega
theorem lowB_ge (k : Int) : ∀ {l : List α}, Rises key l → ∀ (j : Nat) (hj : j < l.length), lowB key k l ≤ j → k ≤ key l[j]
  | x :: l, hr, 0, hj, h => by
    unfold lowB at h
    split at h
    · omega
    · simp only [List.getElem_cons_zero]; omega
  | x :: l, hr, j + 1, hj, h => by
    unfold lowB at h
    split at h
    · have := lowB_ge k (rises_tail key hr) j (by simpa using hj) (by omega)
      simpa using this
    · have hj' : j < l.length := by simpa using hj
      have := rises_head key hr l[j] (List.getElem_mem hj')
      simp only [List.getElem_cons_succ]
      omega
theorem lowB_of {k : Int} {l : List α} (hr : Rises key l) (i : Nat) (hi : i ≤ l.length) (h1 : ∀ j (hj : j < l.length), j < i → key l[j] < k) (h2 : ∀ j (hj : j < l.length), i ≤ j → k ≤ key l[j]) : lowB key k l = i := by
  have h0 := lowB_le key k l
  rcases Nat.lt_trichotomy (lowB key k l) i with h | h | h
  · have a := lowB_ge key k hr (lowB key k l) (by omega) (Nat.le_refl _)
    have b := h1 (lowB key k l) (by omega) h
    omega
  · exact h
  · have a := lowB_lt key k l i (by omega) h
    have b := h2 i (by omega) (Nat.le_refl _)
    omega
theorem take_lowB (k : Int) : ∀ l : List α, ∀ x ∈ l.take (lowB key k l), key x < k
  | [], x, h => by simp at h
  | y :: l, x, h => by
    unfold lowB at h
    split at h
    · rw [List.take_succ_cons] at h
      rcases List.mem_cons.1 h with rfl | h
      · assumption
      · exact take_lowB k l x h
    · simp at h
theorem drop_lowB (k : Int) : ∀ {l : List α}, Rises key l → ∀ x ∈ l.drop (lowB key k l), k ≤ key x
  | [], _, x, h => by simp at h
  | y :: l, hr, x, h => by
    unfold lowB at h
    split at h
    · rw [List.drop_succ_cons] at h
      exact drop_lowB k (rises_tail key hr) x h
    · rw [List.drop_zero] at h
      rcases List.mem_cons.1 h with rfl | h
      · omega
      · have := rises_head key hr x h
        omega
def has (k : Int) (l : List α) : Bool := l.any (fun x => decide (key x = k))
theorem has_lowB {k : Int} {l : List α} (hr : Rises key l) : has key k l = (match l[lowB key k l]? with | some x => decide (key x = k) | none => false) := by
  by_cases hlt : lowB key k l < l.length
  · rw [List.getElem?_eq_getElem hlt]
    dsimp only
    have hge := lowB_ge key k hr _ hlt (Nat.le_refl _)
    by_cases he : key l[lowB key k l] = k
    · rw [decide_eq_true he]
      exact List.any_eq_true.2 ⟨_, List.getElem_mem hlt, decide_eq_true he⟩
    rw [decide_eq_false he]
    refine List.any_eq_false.2 (fun x hx => ?_)
    obtain ⟨j, hj, rfl⟩ := List.getElem_of_mem hx
    rcases Nat.lt_or_ge j (lowB key k l) with h | h
    · have := lowB_lt key k l j hj h
      simp; omega
    · rcases Nat.lt_or_eq_of_le h with h | h
      · have := rises_get key hr _ j hj h
        simp; omega
      · subst h
        simpa using he
  rw [List.getElem?_eq_none (by omega)]
  dsimp only
  refine List.any_eq_false.2 (fun x hx => ?_)
  obtain ⟨j, hj, rfl⟩ := List.getElem_of_mem hx
  have := lowB_lt key k l j hj (by omega)
  simp; omega
def look (a : Int) : List α → Int
  | [] => 0
  | x :: l => if key x = a then val x else look a l
theorem look_none {a : Int} : ∀ {l : List α}, (∀ x ∈ l, key x ≠ a) → look key val a l = 0
  | [], _ => rfl
  | x :: l, h => by
    unfold look
    rw [if_neg (h x List.mem_cons_self), look_none (fun y hy => h y (List.mem_cons_of_mem _ hy))]
theorem look_mem {l : List α} (hr : Rises key l) {x : α} (hx : x ∈ l) : look key val (key x) l = val x := by
  induction l with
  | nil => simp at hx
  | cons y l ih =>
    unfold look
    rcases List.mem_cons.1 hx with rfl | hx
    · exact if_pos rfl
    · have := rises_head key hr x hx
      rw [if_neg (by omega), ih (rises_tail key hr) hx]
theorem look_append (a : Int) (l m : List α) (h : ∀ x ∈ l, key x ≠ a) : look key val a (l ++ m) = look key val a m := by
  induction l with
  | nil => rfl
  | cons y l ih =>
    rw [List.cons_append]
    conv => lhs; unfold look
    rw [if_neg (h y List.mem_cons_self)]
    exact ih (fun x hx => h x (List.mem_cons_of_mem _ hx))
theorem look_lowB {k : Int} {l : List α} (hr : Rises key l) : look key val k l = (match l[lowB key k l]? with | some x => if key x = k then val x else 0 | none => 0) := by
  have hd := List.take_append_drop (lowB key k l) l
  have e : look key val k l = look key val k (l.drop (lowB key k l)) := by
    conv => lhs; rw [← hd]
    exact look_append key val k _ _ (fun x hx => by have := take_lowB key k l x hx; omega)
  rw [e]
  by_cases hlt : lowB key k l < l.length
  · rw [List.getElem?_eq_getElem hlt, List.drop_eq_getElem_cons hlt]
    unfold look
    dsimp only
    split
    · rfl
    · refine look_none key val (fun x hx => ?_)
      have h1 := drop_lowB key k hr l[lowB key k l] (by rw [List.drop_eq_getElem_cons hlt]; exact List.mem_cons_self)
      have h2 : Rises key (l.drop (lowB key k l)) := by
        rw [← hd] at hr
        exact rises_right key hr
      rw [List.drop_eq_getElem_cons hlt] at h2
      have := rises_head key h2 x hx
      omega
  rw [List.getElem?_eq_none (by omega), List.drop_eq_nil_of_le (by omega)]
  rfl
end
end Go.Proofs.Ytjhfglpgpicmiaa.F
end
section
namespace Go.Proofs.Ytjhfglpgpicmiaa.F
open Go.RowKit Go.Shelf Go.Proofs.YtjhfglpgpicmiaaW.PrintWords Go.Proofs.YtjhfglpgpicmiaaW.PrintLast Go.Proofs.YtjhfglpgpicmiaaW.PrintMore
set_option linter.unusedVariables false
set_option linter.unusedSimpArgs false
theorem sblk_lt {W : World} {b : Nat} {o : Obj} (h : W.heap[b]? = some o) : b < W.heap.size := (Array.getElem?_eq_some_iff.1 h).1
theorem sblk_cell {W : World} {b : Nat} {cs : Array Value} {t : TypeId} {fr : Nat × Nat} (h : W.heap[b]? = some (.cells cs t fr)) (j : Nat) : W.cell? ⟨b, j, none⟩ = cs[j]? := by
  simp [World.cell?, h]
theorem sblk_free {W : World} {b : Nat} {cs : Array Value} {t : TypeId} (h : W.heap[b]? = some (.cells cs t (0, 0))) (j : Nat) : W.frozen? ⟨b, j, none⟩ = false := by
  simp [World.frozen?, h]
theorem grown_of_below {w w' : World} {r : Option Nat} (h : Below w.heap.size w w') : w.grownBy w' r := ⟨h.os, h.tape, h.output, h.size, fun k hk _ => h.block k hk⟩
theorem grown_trans {w w1 w2 : World} {r : Option Nat} (h : w.grownBy w1 r) (h2 : w1.grownBy w2 r) : w.grownBy w2 r :=
  ⟨h2.os.trans h.os, h2.tape.trans h.tape, h2.output.trans h.output, Nat.le_trans h.size h2.size, fun k hk hr => (h2.block k (Nat.lt_of_lt_of_le hk h.size) hr).trans (h.block k hk hr)⟩
theorem below_of_grown {b : Nat} {w w1 w2 : World} {g : Nat} (h : Below b w w1) (h2 : w1.grownBy w2 (some g)) (hg : b ≤ g) (hb : b ≤ w1.heap.size) : Below b w w2 :=
  h.grown h2 hb (fun k hk => by injection hk with hk; omega)
theorem grown_setCells {w : World} {g : Nat} (o : Nat) (vs : List Value) : w.grownBy (w.setCells g o vs) (some g) := by
  obtain ⟨h1, h2, h3, h4⟩ := setCells_same g vs o w
  exact ⟨h1, h2, h3, Nat.le_of_eq h4.symm, fun k _ hk => setCells_far vs o k (fun e => hk (by rw [e]))⟩
section
variable {α : Type} (en : α → List Value) (T : TypeId)
def OwnB (w : World) (g cap : Nat) (l : List α) : Prop :=
  ∃ cur, w.heap[g]? = some (.cells cur T (0, 0)) ∧ cur.size = cap * 2 ∧ cap ≤ 9223372036854775807 ∧ l.length ≤ cap ∧ cur.toList.take (l.length * 2) = l.flatMap en
variable {en T}
theorem OwnB.lt {w : World} {g cap : Nat} {l : List α} (h : OwnB en T w g cap l) : g < w.heap.size := by
  obtain ⟨_, h, _⟩ := h
  exact sblk_lt h
theorem OwnB.cap_le {w : World} {g cap : Nat} {l : List α} (h : OwnB en T w g cap l) : cap ≤ 9223372036854775807 := by
  obtain ⟨_, _, _, h, _⟩ := h
  exact h
theorem OwnB.len_le {w : World} {g cap : Nat} {l : List α} (h : OwnB en T w g cap l) : l.length ≤ cap := by
  obtain ⟨_, _, _, _, h, _⟩ := h
  exact h
theorem OwnB.move {w w' : World} {g cap : Nat} {l : List α} (h : OwnB en T w g cap l) (e : w'.heap[g]? = w.heap[g]?) : OwnB en T w' g cap l := by
  obtain ⟨cur, h0, h1⟩ := h
  exact ⟨cur, e.trans h0, h1⟩
theorem OwnB.below {w w' : World} {g cap : Nat} {l : List α} (h : OwnB en T w g cap l) (hb : Below w.heap.size w w') : OwnB en T w' g cap l := h.move (hb.block g h.lt)
theorem flat_len (h2 : ∀ x, (en x).length = 2) : ∀ l : List α, (l.flatMap en).length = l.length * 2
  | [] => rfl
  | x :: l => by
    rw [List.flatMap_cons, List.length_append, h2, flat_len h2 l, List.length_cons]
    omega
theorem flat_take (h2 : ∀ x, (en x).length = 2) : ∀ (k : Nat) (l : List α), (l.flatMap en).take (k * 2) = (l.take k).flatMap en
  | 0, l => by simp
  | k + 1, [] => by simp
  | k + 1, x :: l => by
    rw [List.flatMap_cons, List.take_succ_cons, List.flatMap_cons, List.take_append, h2, List.take_of_length_le (by rw [h2]; omega), show (k + 1) * 2 - 2 = k * 2 by omega, flat_take h2 k l]
theorem flat_drop (h2 : ∀ x, (en x).length = 2) : ∀ (k : Nat) (l : List α), (l.flatMap en).drop (k * 2) = (l.drop k).flatMap en
  | 0, l => by simp
  | k + 1, [] => by simp
  | k + 1, x :: l => by
    rw [List.flatMap_cons, List.drop_succ_cons, List.drop_append, h2, List.drop_of_length_le (by rw [h2]; omega), List.nil_append, show (k + 1) * 2 - 2 = k * 2 by omega, flat_drop h2 k l]
theorem flat_get (h2 : ∀ x, (en x).length = 2) {l : List α} {k : Nat} (hk : k < l.length) {j : Nat} (hj : j < 2) : (l.flatMap en)[k * 2 + j]? = (en l[k])[j]? := by
  rw [← List.getElem?_drop, flat_drop h2, List.drop_eq_getElem_cons hk, List.flatMap_cons, List.getElem?_append_left (by rw [h2]; exact hj)]
theorem OwnB.cell (h2 : ∀ x, (en x).length = 2) {w : World} {g cap : Nat} {l : List α} (h : OwnB en T w g cap l) {k : Nat} (hk : k < l.length) {j : Nat} (hj : j < 2) : w.cell? ⟨g, k * 2 + j, none⟩ = (en l[k])[j]? := by
  obtain ⟨cur, h0, h1, _, h3, h4⟩ := h
  rw [sblk_cell h0, ← flat_get h2 hk hj, ← h4, List.getElem?_take, if_pos (by omega), Array.getElem?_toList]
theorem OwnB.there {w : World} {g cap : Nat} {l : List α} (h : OwnB en T w g cap l) {j : Nat} (hj : j < cap * 2) : (w.cell? ⟨g, j, none⟩).isSome = true := by
  obtain ⟨cur, h0, h1, _⟩ := h
  rw [sblk_cell h0, Array.getElem?_eq_getElem (by omega)]
  rfl
theorem OwnB.free {w : World} {g cap : Nat} {l : List α} (h : OwnB en T w g cap l) (j : Nat) : w.frozen? ⟨g, j, none⟩ = false := by
  obtain ⟨cur, h0, h1, _⟩ := h
  exact sblk_free h0 j
theorem OwnB.take (h2 : ∀ x, (en x).length = 2) {w : World} {g cap : Nat} {l : List α} (h : OwnB en T w g cap l) (k : Nat) : OwnB en T w g cap (l.take k) := by
  obtain ⟨cur, h0, h1, h5, h3, h4⟩ := h
  refine ⟨cur, h0, h1, h5, by rw [List.length_take]; omega, ?_⟩
  rw [← flat_take h2, ← h4, List.take_take, List.length_take]
  congr 1
  omega
theorem OwnB.put (h2 : ∀ x, (en x).length = 2) {w : World} {g cap : Nat} {l : List α} (h : OwnB en T w g cap l) (i : Nat) (vs : List α) (hi : i ≤ l.length) (hc : i + vs.length ≤ cap) :
    OwnB en T (w.setCells g (i * 2) (vs.flatMap en)) g cap (l.take i ++ vs ++ l.drop (i + vs.length)) := by
  obtain ⟨cur, h0, h1, h5, h3, h4⟩ := h
  have hl := flat_len h2 vs
  obtain ⟨cur', a0, a1, a2⟩ := setCells_row (vs.flatMap en) (i * 2) w cur h0 (by rw [hl]; omega)
  have hlen : (l.take i ++ vs ++ l.drop (i + vs.length)).length = max l.length (i + vs.length) := by
    rw [List.length_append, List.length_append, List.length_take, List.length_drop]
    omega
  refine ⟨cur', a0, by rw [a1, h1], h5, by rw [hlen]; omega, ?_⟩
  rw [a2, hlen, hl, List.flatMap_append, List.flatMap_append]
  have e1 : cur.toList.take (i * 2) = (l.take i).flatMap en := by
    rw [← flat_take h2, ← h4, List.take_take, Nat.min_eq_left (by omega)]
  have hl1 : ((l.take i).flatMap en ++ vs.flatMap en).length = (i + vs.length) * 2 := by
    rw [List.length_append, flat_len h2, flat_len h2, List.length_take]
    omega
  rw [e1]
  by_cases hm : l.length ≤ i + vs.length
  · rw [List.drop_eq_nil_of_le hm, List.flatMap_nil, List.append_nil, Nat.max_eq_right hm, List.take_append, List.take_of_length_le (by rw [hl1]; omega), hl1, Nat.sub_self, List.take_zero, List.append_nil]
  rw [Nat.max_eq_left (by omega), List.take_append, hl1, List.take_of_length_le (by rw [hl1]; omega)]
  congr 1
  rw [← flat_drop h2 (i + vs.length) l, ← h4, List.drop_take, show (i + vs.length) * 2 = i * 2 + vs.length * 2 by omega]
theorem OwnB.behind (h2 : ∀ x, (en x).length = 2) {w : World} {g cap : Nat} {l : List α} (h : OwnB en T w g cap l) (o : Nat) (vs : List Value) (hi : l.length * 2 ≤ o) (hc : o + vs.length ≤ cap * 2) :
    OwnB en T (w.setCells g o vs) g cap l := by
  obtain ⟨cur, h0, h1, h5, h3, h4⟩ := h
  obtain ⟨cur', a0, a1, a2⟩ := setCells_row vs o w cur h0 (by omega)
  refine ⟨cur', a0, by rw [a1, h1], h5, h3, ?_⟩
  have hcl : cur.toList.length = cap * 2 := by rw [Array.length_toList, h1]
  rw [a2, List.append_assoc, List.take_append, List.take_take, Nat.min_eq_left hi, h4, List.length_take, hcl, show l.length * 2 - min o (cap * 2) = 0 by omega, List.take_zero, List.append_nil]
theorem OwnB.insert (h2 : ∀ x, (en x).length = 2) {w w1 : World} {g cap : Nat} {l : List α} (h : OwnB en T w g cap l) (i : Nat) (vs : List α) (hi : i ≤ l.length) (hc : l.length + vs.length ≤ cap)
    (hw : w1.heap[g]? = (w.setCells g ((i + vs.length) * 2) ((l.drop i).flatMap en)).heap[g]?) :
    OwnB en T (w1.setCells g (i * 2) (vs.flatMap en)) g cap (l.take i ++ vs ++ l.drop i) := by
  obtain ⟨cur, h0, h1, h5, h3, h4⟩ := h
  have hl := flat_len h2 vs
  have hd := flat_len h2 (l.drop i)
  rw [List.length_drop] at hd
  obtain ⟨cur1, a0, a1, a2⟩ := setCells_row ((l.drop i).flatMap en) ((i + vs.length) * 2) w cur h0 (by rw [hd]; omega)
  obtain ⟨cur2, b0, b1, b2⟩ := setCells_row (vs.flatMap en) (i * 2) w1 cur1 (hw.trans a0) (by rw [hl, a1]; omega)
  have hcl : cur.toList.length = cap * 2 := by rw [Array.length_toList, h1]
  have hlen : (l.take i ++ vs ++ l.drop i).length = l.length + vs.length := by
    rw [List.length_append, List.length_append, List.length_take, List.length_drop]
    omega
  refine ⟨cur2, b0, by rw [b1, a1, h1], h5, by rw [hlen]; exact hc, ?_⟩
  have e1 : cur.toList.take (i * 2) = (l.take i).flatMap en := by
    rw [← flat_take h2, ← h4, List.take_take, Nat.min_eq_left (by omega)]
  have e2 : cur1.toList.take (i * 2) = (l.take i).flatMap en := by
    rw [a2, List.append_assoc, List.take_append_of_le_length (by rw [List.length_take, hcl]; omega), List.take_take, Nat.min_eq_left (by omega), e1]
  have e3 : cur1.toList.drop (i * 2 + vs.length * 2) = (l.drop i).flatMap en ++ cur.toList.drop ((i + vs.length) * 2 + ((l.drop i).flatMap en).length) := by
    rw [a2, List.append_assoc, show i * 2 + vs.length * 2 = (i + vs.length) * 2 by omega]
    exact List.drop_left' (by rw [List.length_take, hcl]; omega)
  rw [b2, hl, e2, e3, hlen, List.flatMap_append, List.flatMap_append, ← List.append_assoc]
  exact List.take_left' (by rw [List.length_append, List.length_append, flat_len h2, hl, hd, List.length_take]; omega)
end
theorem run_clear_own {P : Program} (w : World) (t e ty : TypeId) (z : Value) (zs : List Value) (ht : P.underlying t = some (.slice e)) (hv : ∀ w, (zeroValue e).run P w = .ok z w) (b o n c : Nat) (hn : 0 < n) (hz : (Builtin.zeroCells z.cells n).toList = zs)
    (hc : ∀ j, j < zs.length → (w.cell? ⟨b, o + j, none⟩).isSome = true) (hf : ∀ j, j < zs.length → w.frozen? ⟨b, o + j, none⟩ = false) (h1 : ∀ v ∈ zs, v.oneCell' = true) :
    (Builtin.clear_ #[t] ty #[.slice (some ⟨b, o, none⟩) n c]).run P w = .ok (.tuple #[]) (w.setCells b o zs) := by
  have hst := run_storeCells_cells (P := P) b o zs 0 w (by simpa using hc) (by simpa using hf) h1
  simp only [Nat.add_zero] at hst
  obtain ⟨m, rfl⟩ : ∃ m, n = m + 1 := ⟨n - 1, by omega⟩
  simp [Builtin.clear_, run_underlying ht, hv, hz, hst]
theorem run_copy_own {P : Program} (w : World) (dT sT ty elem : TypeId) (sz b o dLen dCap : Nat) (a : Addr) (sLen sCap : Nat) (cs : List Value)
    (hu : P.underlying dT = some (.slice elem)) (hs : (P.info? elem).map (·.size) = some sz) (hn : cs.length = Nat.min sLen dLen * sz)
    (hsrc : ∀ j v, cs[j]? = some v → w.cell? (a.add j) = some v) (hc : ∀ j, j < cs.length → (w.cell? ⟨b, o + j, none⟩).isSome = true) (hf : ∀ j, j < cs.length → w.frozen? ⟨b, o + j, none⟩ = false) (h1 : ∀ v ∈ cs, v.oneCell' = true) :
    (Builtin.copy_ #[dT, sT] ty #[.slice (some ⟨b, o, none⟩) dLen dCap, .slice (some a) sLen sCap]).run P w = .ok (goInt (Nat.min sLen dLen)) (w.setCells b o cs) := by
  have hl := run_loadCells_list (P := P) w a cs hsrc
  have hst := run_storeCells_cells (P := P) b o cs 0 w (by simpa using hc) (by simpa using hf) h1
  cases hq : P.info? elem with
  | none => simp [hq] at hs
  | some i =>
    have hi : i.size = sz := by simpa [hq] using hs
    simp [Builtin.copy_, run_underlying hu, Builtin.lenOf, Builtin.firstCells, sizeOf, typeInfo, hq, hi, ← hn, hl, hst]
def sIdx {α : Type} (p : α → Bool) : List α → Int
  | [] => -1
  | x :: l => if p x then 0 else (if sIdx p l < 0 then -1 else sIdx p l + 1)
theorem sIdx_none {α : Type} (p : α → Bool) : ∀ (l : List α), (∀ x ∈ l, p x = false) → sIdx p l = -1
  | [], _ => rfl
  | x :: l, h => by
    unfold sIdx
    rw [h x List.mem_cons_self, sIdx_none p l (fun y hy => h y (List.mem_cons_of_mem _ hy))]
    rfl
theorem sIdx_at {α : Type} (p : α → Bool) : ∀ (l : List α) (k : Nat) (hk : k < l.length), (∀ j (hj : j < k), p (l[j]'(by omega)) = false) → p l[k] = true → sIdx p l = k
  | x :: l, 0, _, _, h => by
    unfold sIdx
    exact if_pos h
  | x :: l, k + 1, hk, hn, h => by
    unfold sIdx
    have h0 : p x = false := hn 0 (by omega)
    have ih := sIdx_at p l k (by simpa using hk) (fun j hj => hn (j + 1) (by omega)) h
    rw [h0, ih, if_neg (by simp), if_neg (by omega)]
    omega
theorem sIdx_any {α : Type} (p : α → Bool) : ∀ (l : List α), decide (0 ≤ sIdx p l) = l.any p
  | [] => rfl
  | x :: l => by
    have ih := sIdx_any p l
    unfold sIdx
    rw [List.any_cons]
    by_cases hp : p x = true
    · rw [if_pos hp, hp]
      rfl
    rw [if_neg hp, ← ih]
    have hp' : p x = false := by cases h : p x; rfl; exact absurd h hp
    rw [hp', Bool.false_or]
    by_cases h0 : sIdx p l < 0
    · rw [if_pos h0, decide_eq_false (by omega), decide_eq_false (by omega)]
    rw [if_neg h0, decide_eq_true (by omega), decide_eq_true (by omega)]
theorem sIdx_cases {α : Type} (p : α → Bool) : ∀ (l : List α), (sIdx p l = -1 ∧ ∀ x ∈ l, p x = false) ∨ ∃ (k : Nat) (hk : k < l.length), sIdx p l = k ∧ p l[k] = true ∧ ∀ x ∈ l.take k, p x = false
  | [] => .inl ⟨rfl, fun x hx => by simp at hx⟩
  | x :: l => by
    cases hp : p x
    · rcases sIdx_cases p l with ⟨h1, h2⟩ | ⟨k, hk, h1, h2, h3⟩
      · refine .inl ⟨by unfold sIdx; rw [hp, h1]; rfl, fun y hy => ?_⟩
        rcases List.mem_cons.1 hy with rfl | hy
        · exact hp
        · exact h2 y hy
      · refine .inr ⟨k + 1, by simpa using hk, by unfold sIdx; rw [hp, h1, if_neg (by simp), if_neg (by omega)]; omega, h2, fun y hy => ?_⟩
        rw [List.take_succ_cons] at hy
        rcases List.mem_cons.1 hy with rfl | hy
        · exact hp
        · exact h3 y hy
    · exact .inr ⟨0, by simp, by unfold sIdx; rw [hp]; rfl, hp, fun y hy => by simp at hy⟩
end Go.Proofs.Ytjhfglpgpicmiaa.F
end
