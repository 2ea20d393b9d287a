import Derived.Test.YtgkjdpdmmlalcaaKZF0
section
namespace Go.Proofs.Ytgkjdpdmmlalcaa.F
set_option linter.unusedVariables false
section
variable {α : Type} (key val : α → Int)
def Rises : List α → Prop
  | [] => True
  | [_] => True
  | x :: y :: l => key x < key y ∧ Rises (y :: l)
theorem rises_tail {x : α} {l : List α} (h : Rises key (x :: l)) : Rises key l := by
  cases l with
  | nil => trivial
  | cons y l => exact h.2
theorem rises_head : ∀ {l : List α} {x : α}, Rises key (x :: l) → ∀ y ∈ l, key x < key y
  | [], _, _, y, hy => by simp at hy
  | z :: l, x, h, y, hy => by
    rcases List.mem_cons.1 hy with rfl | hy
    · exact h.1
    · exact Int.lt_trans h.1 (rises_head h.2 y hy)
theorem rises_cons {x : α} {l : List α} (h : ∀ y ∈ l, key x < key y) (hl : Rises key l) : Rises key (x :: l) := by
  cases l with
  | nil => trivial
  | cons y l => exact ⟨h y List.mem_cons_self, hl⟩
theorem rises_append : ∀ {l m : List α}, Rises key l → Rises key m → (∀ x ∈ l, ∀ y ∈ m, key x < key y) → Rises key (l ++ m)
  | [], _, _, hm, _ => hm
  | x :: l, m, hl, hm, h => by
    refine rises_cons key (fun y hy => ?_) (rises_append (rises_tail key hl) hm (fun a ha b hb => h a (List.mem_cons_of_mem _ ha) b hb))
    rcases List.mem_append.1 hy with hy | hy
    · exact rises_head key hl y hy
    · exact h x List.mem_cons_self y hy
theorem rises_left : ∀ {l m : List α}, Rises key (l ++ m) → Rises key l
  | [], _, _ => trivial
  | x :: l, m, h => rises_cons key (fun y hy => rises_head key h y (List.mem_append_left _ hy)) (rises_left (rises_tail key h))
theorem rises_right : ∀ {l m : List α}, Rises key (l ++ m) → Rises key m
  | [], _, h => h
  | x :: l, m, h => rises_right (l := l) (rises_tail key h)
theorem rises_filter (p : α → Bool) : ∀ {l : List α}, Rises key l → Rises key (l.filter p)
  | [], _ => trivial
  | x :: l, h => by
    rw [List.filter_cons]
    split
    · exact rises_cons key (fun y hy => rises_head key h y (List.mem_filter.1 hy).1) (rises_filter p (rises_tail key h))
    · exact rises_filter p (rises_tail key h)
theorem rises_map {l : List α} (f : α → α) (hf : ∀ x, key (f x) = key x) (h : Rises key l) : Rises key (l.map f) := by
  induction l with
  | nil => trivial
  | cons x l ih =>
    refine rises_cons key (fun y hy => ?_) (ih (rises_tail key h))
    obtain ⟨z, hz, rfl⟩ := List.mem_map.1 hy
    rw [hf, hf]
    exact rises_head key h z hz
theorem rises_get : ∀ {l : List α}, Rises key l → ∀ (i j : Nat) (hj : j < l.length) (hij : i < j), key (l[i]'(Nat.lt_trans hij hj)) < key l[j]
  | x :: l, h, 0, j + 1, hj, _ => rises_head key h _ (List.getElem_mem (by simpa using hj))
  | x :: l, h, i + 1, j + 1, hj, hij => by
    have := rises_get (rises_tail key h) i j (by simpa using hj) (by omega)
    simpa using this
def lowB (k : Int) : List α → Nat
  | [] => 0
  | x :: l => if key x < k then lowB k l + 1 else 0
theorem lowB_le (k : Int) : ∀ l : List α, lowB key k l ≤ l.length
  | [] => Nat.le_refl _
  | x :: l => by
    unfold lowB
    split
    · have := lowB_le k l
      simpa using this
    · simp
theorem lowB_lt (k : Int) : ∀ (l : List α) (j : Nat) (hj : j < l.length), j < lowB key k l → key l[j] < k
  | x :: l, 0, hj, h => by
    unfold lowB at h
    split at h
    · assumption
    · omega
  | x :: l, j + 1, hj, h => by
    unfold lowB at h
    split at h
    · have := lowB_lt k l j (by simpa using hj) (by omega)
      simpa using this
    · omega
theorem lowB_ge (k : Int) : ∀ {l : List α}, Rises key l → ∀ (j : Nat) (hj : j < l.length), lowB key k l ≤ j → k ≤ key l[j]
  | x :: l, hr, 0, hj, h => by
    unfold lowB at h
    split at h
    · omega
    · simp only [List.getElem_cons_zero]; omega
  | x :: l, hr, j + 1, hj, h => by
    unfold lowB at h
    split at h
    · have := lowB_ge k (rises_tail key hr) j (by simpa using hj) (by omega)
      simpa using this
    · have hj' : j < l.length := by simpa using hj
      have := rises_head key hr l[j] (List.getElem_mem hj')
      simp only [List.getElem_cons_succ]
      omega
theorem lowB_of {k : Int} {l : List α} (hr : Rises key l) (i : Nat) (hi : i ≤ l.length) (h1 : ∀ j (hj : j < l.length), j < i → key l[j] < k) (h2 : ∀ j (hj : j < l.length), i ≤ j → k ≤ key l[j]) : lowB key k l = i := by
  have h0 := lowB_le key k l
  rcases Nat.lt_trichotomy (lowB key k l) i with h | h | h
  · have a := lowB_ge key k hr (lowB key k l) (by omega) (Nat.le_refl _)
    have b := h1 (lowB key k l) (by omega) h
    omega
  · exact h
  · have a := lowB_lt key k l i (by omega) h
    have b := h2 i (by omega) (Nat.le_refl _)
    omega
theorem take_lowB (k : Int) : ∀ l : List α, ∀ x ∈ l.take (lowB key k l), key x < k
  | [], x, h => by simp at h
  | y :: l, x, h => by
    unfold lowB at h
    split at h
    · rw [List.take_succ_cons] at h
      rcases List.mem_cons.1 h with rfl | h
      · assumption
      · exact take_lowB k l x h
    · simp at h
theorem drop_lowB (k : Int) : ∀ {l : List α}, Rises key l → ∀ x ∈ l.drop (lowB key k l), k ≤ key x
  | [], _, x, h => by simp at h
  | y :: l, hr, x, h => by
    unfold lowB at h
    split at h
    · rw [List.drop_succ_cons] at h
      exact drop_lowB k (rises_tail key hr) x h
    · rw [List.drop_zero] at h
      rcases List.mem_cons.1 h with rfl | h
      · omega
      · have := rises_head key hr x h
        omega
def has (k : Int) (l : List α) : Bool := l.any (fun x => decide (key x = k))
theorem has_lowB {k : Int} {l : List α} (hr : Rises key l) : has key k l = (match l[lowB key k l]? with | some x => decide (key x = k) | none => false) := by
  by_cases hlt : lowB key k l < l.length
  · rw [List.getElem?_eq_getElem hlt]
    dsimp only
    have hge := lowB_ge key k hr _ hlt (Nat.le_refl _)
    by_cases he : key l[lowB key k l] = k
    · rw [decide_eq_true he]
      exact List.any_eq_true.2 ⟨_, List.getElem_mem hlt, decide_eq_true he⟩
    rw [decide_eq_false he]
    refine List.any_eq_false.2 (fun x hx => ?_)
    obtain ⟨j, hj, rfl⟩ := List.getElem_of_mem hx
    rcases Nat.lt_or_ge j (lowB key k l) with h | h
    · have := lowB_lt key k l j hj h
      simp; omega
    · rcases Nat.lt_or_eq_of_le h with h | h
      · have := rises_get key hr _ j hj h
        simp; omega
      · subst h
        simpa using he
  rw [List.getElem?_eq_none (by omega)]
  dsimp only
  refine List.any_eq_false.2 (fun x hx => ?_)
  obtain ⟨j, hj, rfl⟩ := List.getElem_of_mem hx
  have := lowB_lt key k l j hj (by omega)
  simp; omega
def look (a : Int) : List α → Int
  | [] => 0
  | x :: l => if key x = a then val x else look a l
theorem look_none {a : Int} : ∀ {l : List α}, (∀ x ∈ l, key x ≠ a) → look key val a l = 0
  | [], _ => rfl
  | x :: l, h => by
    unfold look
    rw [if_neg (h x List.mem_cons_self), look_none (fun y hy => h y (List.mem_cons_of_mem _ hy))]
theorem look_mem {l : List α} (hr : Rises key l) {x : α} (hx : x ∈ l) : look key val (key x) l = val x := by
  induction l with
  | nil => simp at hx
  | cons y l ih =>
    unfold look
    rcases List.mem_cons.1 hx with rfl | hx
    · exact if_pos rfl
    · have := rises_head key hr x hx
      rw [if_neg (by omega), ih (rises_tail key hr) hx]
theorem look_append (a : Int) (l m : List α) (h : ∀ x ∈ l, key x ≠ a) : look key val a (l ++ m) = look key val a m := by
  induction l with
  | nil => rfl
  | cons y l ih =>
    rw [List.cons_append]
    conv => lhs; unfold look
    rw [if_neg (h y List.mem_cons_self)]
    exact ih (fun x hx => h x (List.mem_cons_of_mem _ hx))
theorem look_lowB {k : Int} {l : List α} (hr : Rises key l) : look key val k l = (match l[lowB key k l]? with | some x => if key x = k then val x else 0 | none => 0) := by
  have hd := List.take_append_drop (lowB key k l) l
  have e : look key val k l = look key val k (l.drop (lowB key k l)) := by
    conv => lhs; rw [← hd]
    exact look_append key val k _ _ (fun x hx => by have := take_lowB key k l x hx; omega)
  rw [e]
  by_cases hlt : lowB key k l < l.length
  · rw [List.getElem?_eq_getElem hlt, List.drop_eq_getElem_cons hlt]
    unfold look
    dsimp only
    split
    · rfl
    · refine look_none key val (fun x hx => ?_)
      have h1 := drop_lowB key k hr l[lowB key k l] (by rw [List.drop_eq_getElem_cons hlt]; exact List.mem_cons_self)
      have h2 : Rises key (l.drop (lowB key k l)) := by
        rw [← hd] at hr
        exact rises_right key hr
      rw [List.drop_eq_getElem_cons hlt] at h2
      have := rises_head key h2 x hx
      omega
  rw [List.getElem?_eq_none (by omega), List.drop_eq_nil_of_le (by omega)]
  rfl
theorem look_ext (inj : ∀ x y : α, key x = key y → val x = val y → x = y) : ∀ {l m : List α}, Rises key l → Rises key m → (∀ x ∈ l, val x ≠ 0) → (∀ x ∈ m, val x ≠ 0) → (∀ a, look key val a l = look key val a m) → l = m
  | [], [], _, _, _, _, _ => rfl
  | [], y :: m, _, hm, _, hn, h => by
    have := h (key y)
    unfold look at this
    rw [if_pos rfl] at this
    exact absurd this.symm (hn y List.mem_cons_self)
  | x :: l, [], hl, _, hn, _, h => by
    have := h (key x)
    unfold look at this
    rw [if_pos rfl] at this
    exact absurd this (hn x List.mem_cons_self)
  | x :: l, y :: m, hl, hm, hn, hn', h => by
    have hx := look_mem key val hl (List.mem_cons_self (a := x))
    have hy := look_mem key val hm (List.mem_cons_self (a := y))
    have nx := hn x List.mem_cons_self
    have ny := hn' y List.mem_cons_self
    have e : key x = key y := by
      rcases Int.lt_trichotomy (key x) (key y) with h1 | h1 | h1
      · rw [h (key x), look_none key val (fun z hz => by
          rcases List.mem_cons.1 hz with rfl | hz
          · omega
          · have := rises_head key hm z hz
            omega)] at hx
        exact absurd hx.symm nx
      · exact h1
      · rw [← h (key y), look_none key val (fun z hz => by
          rcases List.mem_cons.1 hz with rfl | hz
          · omega
          · have := rises_head key hl z hz
            omega)] at hy
        exact absurd hy.symm ny
    have ev : val x = val y := by rw [← hx, h, e, hy]
    have exy := inj x y e ev
    subst exy
    congr 1
    refine look_ext inj (rises_tail key hl) (rises_tail key hm) (fun z hz => hn z (List.mem_cons_of_mem _ hz)) (fun z hz => hn' z (List.mem_cons_of_mem _ hz)) (fun a => ?_)
    have ha := h a
    unfold look at ha
    by_cases hk : key x = a
    · rw [look_none key val (fun z hz => by have := rises_head key hl z hz; omega), look_none key val (fun z hz => by have := rises_head key hm z hz; omega)]
    rw [if_neg hk, if_neg hk] at ha
    exact ha
end
end Go.Proofs.Ytgkjdpdmmlalcaa.F
end
section
namespace Go.Proofs.Ytgkjdpdmmlalcaa.F
open Go.RowKit Go.Shelf Go.Proofs.YtgkjdpdmmlalcaaW.PrintWords Go.Proofs.YtgkjdpdmmlalcaaW.PrintLast Go.Proofs.YtgkjdpdmmlalcaaW.PrintMore
set_option linter.unusedVariables false
set_option linter.unusedSimpArgs false
theorem sblk_lt {W : World} {b : Nat} {o : Obj} (h : W.heap[b]? = some o) : b < W.heap.size := (Array.getElem?_eq_some_iff.1 h).1
theorem sblk_cell {W : World} {b : Nat} {cs : Array Value} {t : TypeId} {fr : Nat × Nat} (h : W.heap[b]? = some (.cells cs t fr)) (j : Nat) : W.cell? ⟨b, j, none⟩ = cs[j]? := by
  simp [World.cell?, h]
theorem sblk_free {W : World} {b : Nat} {cs : Array Value} {t : TypeId} (h : W.heap[b]? = some (.cells cs t (0, 0))) (j : Nat) : W.frozen? ⟨b, j, none⟩ = false := by
  simp [World.frozen?, h]
theorem grown_of_below {w w' : World} {r : Option Nat} (h : Below w.heap.size w w') : w.grownBy w' r := ⟨h.os, h.tape, h.output, h.size, fun k hk _ => h.block k hk⟩
theorem grown_trans {w w1 w2 : World} {r : Option Nat} (h : w.grownBy w1 r) (h2 : w1.grownBy w2 r) : w.grownBy w2 r :=
  ⟨h2.os.trans h.os, h2.tape.trans h.tape, h2.output.trans h.output, Nat.le_trans h.size h2.size, fun k hk hr => (h2.block k (Nat.lt_of_lt_of_le hk h.size) hr).trans (h.block k hk hr)⟩
theorem below_of_grown {b : Nat} {w w1 w2 : World} {g : Nat} (h : Below b w w1) (h2 : w1.grownBy w2 (some g)) (hg : b ≤ g) (hb : b ≤ w1.heap.size) : Below b w w2 :=
  h.grown h2 hb (fun k hk => by injection hk with hk; omega)
theorem grown_setCells {w : World} {g : Nat} (o : Nat) (vs : List Value) : w.grownBy (w.setCells g o vs) (some g) := by
  obtain ⟨h1, h2, h3, h4⟩ := setCells_same g vs o w
  exact ⟨h1, h2, h3, Nat.le_of_eq h4.symm, fun k _ hk => setCells_far vs o k (fun e => hk (by rw [e]))⟩
section
variable {α : Type} (en : α → List Value) (T : TypeId)
def OwnB (w : World) (g cap : Nat) (l : List α) : Prop :=
  ∃ cur, w.heap[g]? = some (.cells cur T (0, 0)) ∧ cur.size = cap * 2 ∧ cap ≤ 9223372036854775807 ∧ l.length ≤ cap ∧ cur.toList.take (l.length * 2) = l.flatMap en
variable {en T}
theorem OwnB.lt {w : World} {g cap : Nat} {l : List α} (h : OwnB en T w g cap l) : g < w.heap.size := by
  obtain ⟨_, h, _⟩ := h
  exact sblk_lt h
theorem OwnB.cap_le {w : World} {g cap : Nat} {l : List α} (h : OwnB en T w g cap l) : cap ≤ 9223372036854775807 := by
  obtain ⟨_, _, _, h, _⟩ := h
  exact h
theorem OwnB.len_le {w : World} {g cap : Nat} {l : List α} (h : OwnB en T w g cap l) : l.length ≤ cap := by
  obtain ⟨_, _, _, _, h, _⟩ := h
  exact h
theorem OwnB.move {w w' : World} {g cap : Nat} {l : List α} (h : OwnB en T w g cap l) (e : w'.heap[g]? = w.heap[g]?) : OwnB en T w' g cap l := by
  obtain ⟨cur, h0, h1⟩ := h
  exact ⟨cur, e.trans h0, h1⟩
theorem OwnB.below {w w' : World} {g cap : Nat} {l : List α} (h : OwnB en T w g cap l) (hb : Below w.heap.size w w') : OwnB en T w' g cap l := h.move (hb.block g h.lt)
theorem flat_len (h2 : ∀ x, (en x).length = 2) : ∀ l : List α, (l.flatMap en).length = l.length * 2
  | [] => rfl
  | x :: l => by
    rw [List.flatMap_cons, List.length_append, h2, flat_len h2 l, List.length_cons]
    omega
theorem flat_take (h2 : ∀ x, (en x).length = 2) : ∀ (k : Nat) (l : List α), (l.flatMap en).take (k * 2) = (l.take k).flatMap en
  | 0, l => by simp
  | k + 1, [] => by simp
  | k + 1, x :: l => by
    rw [List.flatMap_cons, List.take_succ_cons, List.flatMap_cons, List.take_append, h2, List.take_of_length_le (by rw [h2]; omega), show (k + 1) * 2 - 2 = k * 2 by omega, flat_take h2 k l]
theorem flat_drop (h2 : ∀ x, (en x).length = 2) : ∀ (k : Nat) (l : List α), (l.flatMap en).drop (k * 2) = (l.drop k).flatMap en
  | 0, l => by simp
  | k + 1, [] => by simp
  | k + 1, x :: l => by
    rw [List.flatMap_cons, List.drop_succ_cons, List.drop_append, h2, List.drop_of_length_le (by rw [h2]; omega), List.nil_append, show (k + 1) * 2 - 2 = k * 2 by omega, flat_drop h2 k l]
theorem flat_get (h2 : ∀ x, (en x).length = 2) {l : List α} {k : Nat} (hk : k < l.length) {j : Nat} (hj : j < 2) : (l.flatMap en)[k * 2 + j]? = (en l[k])[j]? := by
  rw [← List.getElem?_drop, flat_drop h2, List.drop_eq_getElem_cons hk, List.flatMap_cons, List.getElem?_append_left (by rw [h2]; exact hj)]
theorem OwnB.cell (h2 : ∀ x, (en x).length = 2) {w : World} {g cap : Nat} {l : List α} (h : OwnB en T w g cap l) {k : Nat} (hk : k < l.length) {j : Nat} (hj : j < 2) : w.cell? ⟨g, k * 2 + j, none⟩ = (en l[k])[j]? := by
  obtain ⟨cur, h0, h1, _, h3, h4⟩ := h
  rw [sblk_cell h0, ← flat_get h2 hk hj, ← h4, List.getElem?_take, if_pos (by omega), Array.getElem?_toList]
theorem OwnB.there {w : World} {g cap : Nat} {l : List α} (h : OwnB en T w g cap l) {j : Nat} (hj : j < cap * 2) : (w.cell? ⟨g, j, none⟩).isSome = true := by
  obtain ⟨cur, h0, h1, _⟩ := h
  rw [sblk_cell h0, Array.getElem?_eq_getElem (by omega)]
  rfl
theorem OwnB.free {w : World} {g cap : Nat} {l : List α} (h : OwnB en T w g cap l) (j : Nat) : w.frozen? ⟨g, j, none⟩ = false := by
  obtain ⟨cur, h0, h1, _⟩ := h
  exact sblk_free h0 j
theorem OwnB.take (h2 : ∀ x, (en x).length = 2) {w : World} {g cap : Nat} {l : List α} (h : OwnB en T w g cap l) (k : Nat) : OwnB en T w g cap (l.take k) := by
  obtain ⟨cur, h0, h1, h5, h3, h4⟩ := h
  refine ⟨cur, h0, h1, h5, by rw [List.length_take]; omega, ?_⟩
  rw [← flat_take h2, ← h4, List.take_take, List.length_take]
  congr 1
  omega
theorem OwnB.put (h2 : ∀ x, (en x).length = 2) {w : World} {g cap : Nat} {l : List α} (h : OwnB en T w g cap l) (i : Nat) (vs : List α) (hi : i ≤ l.length) (hc : i + vs.length ≤ cap) :
    OwnB en T (w.setCells g (i * 2) (vs.flatMap en)) g cap (l.take i ++ vs ++ l.drop (i + vs.length)) := by
  obtain ⟨cur, h0, h1, h5, h3, h4⟩ := h
  have hl := flat_len h2 vs
  obtain ⟨cur', a0, a1, a2⟩ := setCells_row (vs.flatMap en) (i * 2) w cur h0 (by rw [hl]; omega)
  have hlen : (l.take i ++ vs ++ l.drop (i + vs.length)).length = max l.length (i + vs.length) := by
    rw [List.length_append, List.length_append, List.length_take, List.length_drop]
    omega
  refine ⟨cur', a0, by rw [a1, h1], h5, by rw [hlen]; omega, ?_⟩
  rw [a2, hlen, hl, List.flatMap_append, List.flatMap_append]
  have e1 : cur.toList.take (i * 2) = (l.take i).flatMap en := by
    rw [← flat_take h2, ← h4, List.take_take, Nat.min_eq_left (by omega)]
  have hl1 : ((l.take i).flatMap en ++ vs.flatMap en).length = (i + vs.length) * 2 := by
    rw [List.length_append, flat_len h2, flat_len h2, List.length_take]
    omega
  rw [e1]
  by_cases hm : l.length ≤ i + vs.length
  · rw [List.drop_eq_nil_of_le hm, List.flatMap_nil, List.append_nil, Nat.max_eq_right hm, List.take_append, List.take_of_length_le (by rw [hl1]; omega), hl1, Nat.sub_self, List.take_zero, List.append_nil]
  rw [Nat.max_eq_left (by omega), List.take_append, hl1, List.take_of_length_le (by rw [hl1]; omega)]
  congr 1
  rw [← flat_drop h2 (i + vs.length) l, ← h4, List.drop_take, show (i + vs.length) * 2 = i * 2 + vs.length * 2 by omega]
theorem OwnB.behind (h2 : ∀ x, (en x).length = 2) {w : World} {g cap : Nat} {l : List α} (h : OwnB en T w g cap l) (o : Nat) (vs : List Value) (hi : l.length * 2 ≤ o) (hc : o + vs.length ≤ cap * 2) :
    OwnB en T (w.setCells g o vs) g cap l := by
  obtain ⟨cur, h0, h1, h5, h3, h4⟩ := h
  obtain ⟨cur', a0, a1, a2⟩ := setCells_row vs o w cur h0 (by omega)
  refine ⟨cur', a0, by rw [a1, h1], h5, h3, ?_⟩
  have hcl : cur.toList.length = cap * 2 := by rw [Array.length_toList, h1]
  rw [a2, List.append_assoc, List.take_append, List.take_take, Nat.min_eq_left hi, h4, List.length_take, hcl, show l.length * 2 - min o (cap * 2) = 0 by omega, List.take_zero, List.append_nil]
theorem OwnB.insert (h2 : ∀ x, (en x).length = 2) {w w1 : World} {g cap : Nat} {l : List α} (h : OwnB en T w g cap l) (i : Nat) (vs : List α) (hi : i ≤ l.length) (hc : l.length + vs.length ≤ cap)
    (hw : w1.heap[g]? = (w.setCells g ((i + vs.length) * 2) ((l.drop i).flatMap en)).heap[g]?) :
    OwnB en T (w1.setCells g (i * 2) (vs.flatMap en)) g cap (l.take i ++ vs ++ l.drop i) := by
  obtain ⟨cur, h0, h1, h5, h3, h4⟩ := h
  have hl := flat_len h2 vs
  have hd := flat_len h2 (l.drop i)
  rw [List.length_drop] at hd
  obtain ⟨cur1, a0, a1, a2⟩ := setCells_row ((l.drop i).flatMap en) ((i + vs.length) * 2) w cur h0 (by rw [hd]; omega)
  obtain ⟨cur2, b0, b1, b2⟩ := setCells_row (vs.flatMap en) (i * 2) w1 cur1 (hw.trans a0) (by rw [hl, a1]; omega)
  have hcl : cur.toList.length = cap * 2 := by rw [Array.length_toList, h1]
  have hlen : (l.take i ++ vs ++ l.drop i).length = l.length + vs.length := by
    rw [List.length_append, List.length_append, List.length_take, List.length_drop]
    omega
  refine ⟨cur2, b0, by rw [b1, a1, h1], h5, by rw [hlen]; exact hc, ?_⟩
  have e1 : cur.toList.take (i * 2) = (l.take i).flatMap en := by
    rw [← flat_take h2, ← h4, List.take_take, Nat.min_eq_left (by omega)]
  have e2 : cur1.toList.take (i * 2) = (l.take i).flatMap en := by
    rw [a2, List.append_assoc, List.take_append_of_le_length (by rw [List.length_take, hcl]; omega), List.take_take, Nat.min_eq_left (by omega), e1]
  have e3 : cur1.toList.drop (i * 2 + vs.length * 2) = (l.drop i).flatMap en ++ cur.toList.drop ((i + vs.length) * 2 + ((l.drop i).flatMap en).length) := by
    rw [a2, List.append_assoc, show i * 2 + vs.length * 2 = (i + vs.length) * 2 by omega]
    exact List.drop_left' (by rw [List.length_take, hcl]; omega)
  rw [b2, hl, e2, e3, hlen, List.flatMap_append, List.flatMap_append, ← List.append_assoc]
  exact List.take_left' (by rw [List.length_append, List.length_append, flat_len h2, hl, hd, List.length_take]; omega)
end
theorem run_clear_own {P : Program} (w : World) (t e ty : TypeId) (z : Value) (zs : List Value) (ht : P.underlying t = some (.slice e)) (hv : ∀ w, (zeroValue e).run P w = .ok z w) (b o n c : Nat) (hn : 0 < n) (hz : (Builtin.zeroCells z.cells n).toList = zs)
    (hc : ∀ j, j < zs.length → (w.cell? ⟨b, o + j, none⟩).isSome = true) (hf : ∀ j, j < zs.length → w.frozen? ⟨b, o + j, none⟩ = false) (h1 : ∀ v ∈ zs, v.oneCell' = true) :
    (Builtin.clear_ #[t] ty #[.slice (some ⟨b, o, none⟩) n c]).run P w = .ok (.tuple #[]) (w.setCells b o zs) := by
  have hst := run_storeCells_cells (P := P) b o zs 0 w (by simpa using hc) (by simpa using hf) h1
  simp only [Nat.add_zero] at hst
  obtain ⟨m, rfl⟩ : ∃ m, n = m + 1 := ⟨n - 1, by omega⟩
  simp [Builtin.clear_, run_underlying ht, hv, hz, hst]
theorem run_copy_own {P : Program} (w : World) (dT sT ty elem : TypeId) (sz b o dLen dCap : Nat) (a : Addr) (sLen sCap : Nat) (cs : List Value)
    (hu : P.underlying dT = some (.slice elem)) (hs : (P.info? elem).map (·.size) = some sz) (hn : cs.length = Nat.min sLen dLen * sz)
    (hsrc : ∀ j v, cs[j]? = some v → w.cell? (a.add j) = some v) (hc : ∀ j, j < cs.length → (w.cell? ⟨b, o + j, none⟩).isSome = true) (hf : ∀ j, j < cs.length → w.frozen? ⟨b, o + j, none⟩ = false) (h1 : ∀ v ∈ cs, v.oneCell' = true) :
    (Builtin.copy_ #[dT, sT] ty #[.slice (some ⟨b, o, none⟩) dLen dCap, .slice (some a) sLen sCap]).run P w = .ok (goInt (Nat.min sLen dLen)) (w.setCells b o cs) := by
  have hl := run_loadCells_list (P := P) w a cs hsrc
  have hst := run_storeCells_cells (P := P) b o cs 0 w (by simpa using hc) (by simpa using hf) h1
  cases hq : P.info? elem with
  | none => simp [hq] at hs
  | some i =>
    have hi : i.size = sz := by simpa [hq] using hs
    simp [Builtin.copy_, run_underlying hu, Builtin.lenOf, Builtin.firstCells, sizeOf, typeInfo, hq, hi, ← hn, hl, hst]
end Go.Proofs.Ytgkjdpdmmlalcaa.F
end
section
namespace Go.Proofs.Ytgkjdpdmmlalcaa.F
open Go.RowKit Go.Shelf Go.Proofs.YtgkjdpdmmlalcaaW.PrintWords Go.Proofs.YtgkjdpdmmlalcaaW.PrintLast Go.Proofs.YtgkjdpdmmlalcaaW.PrintMore
set_option linter.unusedVariables false
set_option linter.unusedSimpArgs false
def clE (x : S88) : List Value := [.int .u64 x.f0, .int .u64 x.f1]
theorem clE_2 (x : S88) : (clE x).length = 2 := rfl
theorem clE_one (x : S88) : ∀ v ∈ clE x, v.oneCell' = true := by
  intro v hv
  rcases List.mem_cons.1 hv with rfl | hv
  · rfl
  · rw [List.mem_singleton.1 hv]
    rfl
theorem cl_flat_one (l : List S88) : ∀ v ∈ l.flatMap clE, v.oneCell' = true := by
  intro v hv
  obtain ⟨x, _, hx⟩ := List.mem_flatMap.1 hv
  exact clE_one x v hx
theorem cl_R {w : World} {g cap B : Nat} {l : List S88} (h : OwnB clE 88 w g cap l) (hg : B ≤ g) : Kd.R k88 88 w B (fun _ => True) (.slice (some ⟨g, 0, none⟩) l.length cap) l := by
  obtain ⟨cur, h0, h1, h2, h3, h4⟩ := h
  refine ⟨fun _ _ => trivial, l.flatMap clE, ⟨flat_len clE_2 l, .inr ⟨g, cap, cur, rfl, hg, h0, h3, by unfold maxLen; exact h2, h1, h4⟩⟩, flat_len clE_2 l, fun j x hj => ?_⟩
  obtain ⟨hl, hx⟩ := List.getElem?_eq_some_iff.1 hj
  have e : ((l.flatMap clE).drop (j * 2)).take 2 = [.int .u64 x.f0, .int .u64 x.f1] := by
    rw [flat_drop clE_2, List.drop_eq_getElem_cons hl, List.flatMap_cons, List.take_left' (clE_2 _), hx]
    rfl
  show (k88).M w B _ x (((l.flatMap clE).drop (j * 2)).take 2)
  rw [e]
  exact k88_mkM _ _ _ _
theorem cl_flat_of {w : World} {B : Nat} {ok : Nat → Prop} : ∀ {l : List S88} {cs : List Value}, Reps ((k88).M w B ok) 2 l cs → cs = l.flatMap clE
  | [], cs, h => by
    have := h.1
    simp at this
    simp [this]
  | x :: l, cs, h => by
    obtain ⟨h1, h2⟩ := h
    have hx := h2 0 x rfl
    have hx := k88_openM hx
    rw [Nat.zero_mul, List.drop_zero] at hx
    have ih := cl_flat_of (l := l) (cs := cs.drop 2) ⟨by rw [List.length_drop, h1, List.length_cons]; omega, fun j y hj => by
      have := h2 (j + 1) y (by simpa using hj)
      rwa [show (j + 1) * 2 = 2 + j * 2 by omega, ← List.drop_drop] at this⟩
    rw [List.flatMap_cons, ← ih, ← List.take_append_drop 2 cs, hx]
    simp [clE]
theorem cl_own {w : World} {B : Nat} {ok : Nat → Prop} {v : Value} {l : List S88} (h : Kd.R k88 88 w B ok v l) : (v = .slice none 0 0 ∧ l = []) ∨ ∃ g cap, v = .slice (some ⟨g, 0, none⟩) l.length cap ∧ B ≤ g ∧ OwnB clE 88 w g cap l := by
  obtain ⟨_, inner, ⟨h1, h2⟩, h3⟩ := h
  have hin := cl_flat_of h3
  rcases h2 with ⟨rfl, hn⟩ | ⟨g, cap, cur, rfl, hg, hh, hnc, hcm, hcs, ht⟩
  · exact .inl ⟨rfl, List.eq_nil_of_length_eq_zero hn⟩
  · exact .inr ⟨g, cap, rfl, hg, cur, hh, hcs, by unfold maxLen at hcm; exact hcm, hnc, by rw [← hin]; exact ht⟩
theorem cl_C {w : World} {g cap : Nat} {l : List S88} (h : OwnB clE 88 w g cap l) : Kd.C k88 w (some ⟨g, 0, none⟩) l.length l := by
  obtain ⟨A, c, e, _, hC⟩ := Kd.R_reads (cl_R h (Nat.zero_le g))
  cases e
  exact hC
set_option maxHeartbeats 4000000 in
set_option maxRecDepth 100000 in
theorem cl_clone.calls (A : Option Addr) (c : Nat) (l : List S88) (w : World) (hr : Kd.C k88 w A l.length l) (hc : l.length ≤ c) (hl : l.length ≤ 1000000) :
    Calls Try.prog 106 #[.slice A l.length c] w fun e w' => ∃ v : Value, e = .returned v ∧ Kd.R k88 88 w' w.heap.size (fun _ => True) v l ∧ Below w.heap.size w w' := by
  cases A with
  | none =>
    have e : l = [] := by
      rcases Nat.eq_zero_or_pos l.length with h | h
      · exact List.eq_nil_of_length_eq_zero h
      · obtain ⟨ad, h2, _⟩ := hr.2.2 h
        cases h2
    subst e
    clear hr
    have q22 : ∀ (w : World) (a : Option Addr) (n c n' c' : Nat), (binOp .eql 23 (.slice a n c) (.slice none n' c')).run Try.prog w = .ok (.bool a.isNone) w := fun w a n c n' c' => Lib.run_eql_slice_nil w _ _ a n c n' c' Try.underlying23
    go_enter Try.func106, Try.ntmps106
    go_wp2
    go_ret
    exact ⟨_, rfl, Kd.R_nil _ _ _ _ _, Below.refl _ _⟩
  | some ad =>
    have HB0 : Below w.heap.size w (w.alloc (.cells #[] 88)) := (Below.refl _ w).alloc (Nat.le_refl _) _
    have HC := Lib.hid (Kd.C_below hr HB0)
    have HO := Lib.hid (cl_R (l := []) (B := w.heap.size) (cap := 0) (g := w.heap.size) (w := w.alloc (.cells #[] 88)) ⟨#[], blk_new w _, rfl, by omega, by simp, rfl⟩ (Nat.le_refl _))
    have HB := Lib.hid HB0
    clear hr HB0
    have q22 : ∀ (w : World) (a : Option Addr) (n c n' c' : Nat), (binOp .eql 23 (.slice a n c) (.slice none n' c')).run Try.prog w = .ok (.bool a.isNone) w := fun w a n c n' c' => Lib.run_eql_slice_nil w _ _ a n c n' c' Try.underlying23
    go_enter Try.func106, Try.ntmps106
    go_wp2_with (at_builtin; refine Kd.R_append_rows k88 (w0 := w) (Rr := (k88).K w) w.heap.size rfl _ _ 23 88 (.agg #[(.int .u64 0), (.int .u64 0)]) 16 rfl Try.underlying23 info88 rfl (by decide) (by omega) _ [] l _ _ _ (fun _ => True) (fun _ => False) rfl rfl ?q1 ?q2 ?q3 (fun _ h => h.elim) (fun _ _ => trivial) ?q4 ?q5 ?q6 ?_)
    case q1 => exact HO.out
    case q2 => exact HC.out
    case q3 =>
      intro x cs h
      rw [k88_open h]
      exact k88_mkM _ _ _ _
    case q4 => exact HB.out
    case q5 => exact HB.out.size
    case q6 => simp only [List.length_nil]; omega
    intro v1 w1 h1 h2 _ _
    have H1 := Lib.hid h1
    have H2 := Lib.hid h2
    clear h1 h2
    go_wp2
    go_ret
    exact ⟨_, rfl, by simpa using H1.out, H2.out⟩
end Go.Proofs.Ytgkjdpdmmlalcaa.F
end
section
namespace Go.Proofs.Ytgkjdpdmmlalcaa.F
open Go.RowKit Go.Proofs.YtgkjdpdmmlalcaaW.PrintWords Go.Proofs.YtgkjdpdmmlalcaaW.PrintLast Go.Proofs.YtgkjdpdmmlalcaaW.PrintMore
set_option linter.unusedVariables false
def mb_ (n k : Nat) : Array Bool := ((List.range n).map (fun i => k.testBit i)).toArray
theorem bT_ {p q : Prop} (h0 : p) (h : p → q := by (intro h0; (with_reducible repeat (first | refine blk_drewN ?_ _ | refine blk_drew ?_ | refine blk_alloc ?_ _)); exact h0)) : q := h h0
theorem bfT_ {p q : Prop} (h0 : p) (h : p → q := by (intro h0; (with_reducible repeat (first | refine blk_drewN ?_ _ | refine blk_drew ?_ | refine blk_alloc ?_ _ | refine blk_far ?_ (Aside0.out (by assumption)) _)); exact h0)) : q := h h0
theorem vT_ {p q : Prop} (h0 : p) (h : p → q := by (intro h0; (with_reducible repeat (first | apply Kd.V_alloc | apply Kd.V_drewN | apply Kd.V_drew)); exact h0)) : q := h h0
theorem rT_ {p q : Prop} (h0 : p) (h : p → q := by (intro h0; (with_reducible repeat (first | apply Kd.R_alloc | apply Kd.R_drewN | apply Kd.R_drew)); exact h0)) : q := h h0
theorem beT_ {p : Prop} (h : p := by repeat (first | (with_reducible first | exact HB.out | apply below_alloc | apply pw_below_drewN | apply below_drew1 | refine below_set ?_ (Aside0.out (by assumption))) | exact HB.out)) : p := h
theorem b2_ {w : World} {g : Nat} {t : TypeId} {a0 a1 : Value} (h : w.heap[g]? = some (.cells #[a0, a1] t (0, 0))) : w.cell? ⟨g, 0, none⟩ = some a0 ∧ w.cell? ⟨g, 1, none⟩ = some a1 ∧ w.frozen? ⟨g, 0, none⟩ = false ∧ w.frozen? ⟨g, 1, none⟩ = false := ⟨(blk_cell h 0).trans rfl, (blk_cell h 1).trans rfl, blk_frozen h 0, blk_frozen h 1⟩
theorem b4_ {w : World} {g : Nat} {t : TypeId} {a0 a1 a2 a3 : Value} (h : w.heap[g]? = some (.cells #[a0, a1, a2, a3] t (0, 0))) : w.cell? ⟨g, 0, none⟩ = some a0 ∧ w.cell? ⟨g, 1, none⟩ = some a1 ∧ w.cell? ⟨g, 2, none⟩ = some a2 ∧ w.cell? ⟨g, 3, none⟩ = some a3 ∧ w.frozen? ⟨g, 0, none⟩ = false ∧ w.frozen? ⟨g, 1, none⟩ = false ∧ w.frozen? ⟨g, 2, none⟩ = false ∧ w.frozen? ⟨g, 3, none⟩ = false := ⟨(blk_cell h 0).trans rfl, (blk_cell h 1).trans rfl, (blk_cell h 2).trans rfl, (blk_cell h 3).trans rfl, blk_frozen h 0, blk_frozen h 1, blk_frozen h 2, blk_frozen h 3⟩
theorem dT_ {p : Prop} [Decidable p] (h : decide p = true := by first | (with_reducible assumption) | assumption) : p := of_decide_eq_true h
theorem r1_ {p : Prop} (h : p := by first | rfl | (simp; done) | (simp [*]; done)) : p := h
theorem r2_ {p : Prop} (h : p := by first | omega | exact Nat.le_refl _) : p := h
theorem r3_ {p : Prop} (h : p := by first | rfl | (simp [errW_none, errW_some] <;> rfl) | (simp [*, errW_none, errW_some] <;> rfl)) : p := h
theorem aT_ {p : Prop} (h : p := by (try simp only [List.map_toArray, List.map_cons, List.map_nil]); first | done | rfl | (simp only [List.length_drop, List.length_take]; rfl)) : p := h
theorem hN_ {α : Type} {a b r : α} (h : (if false = true then a else b) = r) : b = r := (if_neg (by decide)).symm.trans h
theorem hP_ {α : Type} {a b r : α} (h : (if true = true then a else b) = r) : a = r := (if_pos rfl).symm.trans h
theorem geT_ (n : Nat) {m g : Nat} (hg : g = m) (h : n ≤ m := by exact below_size beT_) : Aside0 (n ≤ g) := ⟨hg ▸ h⟩
theorem kB_ {w w1 w' : World} {g : Nat} {o : Obj} (h0 : Aside0 (w.heap[g]? = some o)) (hb : Below w1.heap.size w1 w') (h : w.heap[g]? = some o → w1.heap[g]? = some o := by (intro h0; (with_reducible repeat (first | refine blk_drewN ?_ _ | refine blk_drew ?_ | refine blk_alloc ?_ _ | refine blk_far ?_ (Aside0.out (by assumption)) _)); exact h0)) : Aside0 (w'.heap[g]? = some o) := ⟨blk_below (h h0.out) hb⟩
theorem kG_ {w w1 w' : World} {g : Nat} {o : Obj} {row : Option Nat} (h0 : w.heap[g]? = some o) (hg : w1.grownBy w' row) (hne : some g ≠ row) (h : w.heap[g]? = some o → w1.heap[g]? = some o := by (intro h0; (with_reducible repeat (first | refine blk_drewN ?_ _ | refine blk_drew ?_ | refine blk_alloc ?_ _ | refine blk_far ?_ (Aside0.out (by assumption)) _)); exact h0)) : Aside0 (w'.heap[g]? = some o) := ⟨blk_grown (h h0) hg hne⟩
theorem hB_ {w W w2 : World} (hb : Below W.heap.size W w2) (h : Below w.heap.size w W := by exact beT_) : Aside0 (Below w.heap.size w w2) := ⟨below_step h hb⟩
theorem nlT_ {w w1 : World} {g g' : Nat} {o : Obj} (h0 : w.heap[g]? = some o) (hg : g' = w1.heap.size) (h : w.heap[g]? = some o → w1.heap[g]? = some o := by (intro h0; (with_reducible repeat (first | refine blk_drewN ?_ _ | refine blk_drew ?_ | refine blk_alloc ?_ _ | refine blk_far ?_ (Aside0.out (by assumption)) _)); exact h0)) : Aside0 (g ≠ g') := ⟨hg ▸ Nat.ne_of_lt (blk_lt (h h0))⟩
theorem ngT_ {w w1 : World} {g g' : Nat} {o : Obj} (h0 : w.heap[g]? = some o) (hg : g' = w1.heap.size) (h : w.heap[g]? = some o → w1.heap[g]? = some o := by (intro h0; (with_reducible repeat (first | refine blk_drewN ?_ _ | refine blk_drew ?_ | refine blk_alloc ?_ _ | refine blk_far ?_ (Aside0.out (by assumption)) _)); exact h0)) : Aside0 (g' ≠ g) := ⟨hg ▸ Nat.ne_of_gt (blk_lt (h h0))⟩
theorem kE_ {w : World} {g : Nat} {t : TypeId} {cs cs' : Array Value} (h : w.heap[g]? = some (.cells cs t (0, 0))) (e : cs = cs') : w.heap[g]? = some (.cells cs' t (0, 0)) := e ▸ h
theorem kP_ {p q : Prop} (h0 : p) (h : p → q := by (intro h0; apply kE_; (repeat (with_reducible first | exact h0 | refine blk_drewN ?_ _ | refine blk_drew ?_ | refine blk_alloc ?_ _ | apply blk_set | apply blk_far)); all_goals (first | exact (Aside0.out (by assumption)) | rfl | (simp [*]; done)))) : q := h h0
theorem hX_ {w W : World} {a : Addr} {v : Value} (h0 : w.cell? a = some v) (h : Below w.heap.size w W := by exact HB.out) : W.cell? a = some v := (h.cell (World.block_lt_of_cell? w _ h0)).trans h0
theorem cT_ {p q : Prop} (h0 : p) (h : p → q := by (intro h0; repeat (first | exact h0 | (with_reducible refine Kd.C_alloc ?_ _) | (with_reducible refine Kd.C_drewN ?_ _) | (with_reducible refine Kd.C_drew ?_)))) : q := h h0
section
variable {α : Type} {d : Kd α} {e base g : Nat} {ok ok' : Nat → Prop} {W w1 w2 : World} {v : Value} {xs : List α} {p : Prop}
theorem vE_ (h0 : p) (hg : g = W.heap.size) (hb : Below W.heap.size W w1) (h : p → Kd.V d e W base ok v xs := by (intro h0; (with_reducible repeat (first | apply Kd.V_alloc | apply Kd.V_drewN | apply Kd.V_drew)); exact h0)) : Aside0 (Kd.V d e w1 base (fun k => ok k ∧ k ≠ g) v xs) := ⟨Kd.V_below (Kd.V_elderB (h h0) g (Nat.le_of_eq hg.symm)) hb⟩
theorem vB_ (h0 : p) (hb : Below W.heap.size W w1) (h : p → Kd.V d e W base ok v xs := by (intro h0; (with_reducible repeat (first | apply Kd.V_alloc | apply Kd.V_drewN | apply Kd.V_drew)); exact h0)) : Aside0 (Kd.V d e w1 base ok v xs) := ⟨Kd.V_below (h h0) hb⟩
theorem rE_ (h0 : p) (hg : g = W.heap.size) (hb : Below W.heap.size W w1) (h : p → Kd.R d e W base ok v xs := by (intro h0; (with_reducible repeat (first | apply Kd.R_alloc | apply Kd.R_drewN | apply Kd.R_drew)); exact h0)) : Aside0 (Kd.R d e w1 base (fun k => ok k ∧ k ≠ g) v xs) := ⟨Kd.R_below (Kd.R_elderB (h h0) g (Nat.le_of_eq hg.symm)) hb⟩
theorem rB_ (h0 : p) (hb : Below W.heap.size W w1) (h : p → Kd.R d e W base ok v xs := by (intro h0; (with_reducible repeat (first | apply Kd.R_alloc | apply Kd.R_drewN | apply Kd.R_drew)); exact h0)) : Aside0 (Kd.R d e w1 base ok v xs) := ⟨Kd.R_below (h h0) hb⟩
theorem vF_ (h0 : Kd.V d e W base ok v xs) (hm : ∀ k, ok k → k < W.heap.size → w1.heap[k]? = W.heap[k]? := by (intro k hk hl; repeat' (first | (with_reducible rfl) | (refine (Below.heap_setCell _ _ _ _ ?_).trans ?_) | (show k ≠ _; clear hl; first | exact hk.2 | exact hk.2.1 | exact hk.2.2 | exact hk.1.2 | omega | grind) | exact rfl))) (ho : ∀ k, ok k → ok' k := by (intro k hk; first | exact hk | exact hk.1 | exact hk.1.1 | exact hk.1.1.1 | exact hk.1.1.1.1 | exact trivial | grind | (have h1 : ∀ k : Nat, some k ≠ (Value.slice none 0 0).ownBlock := (by simp [Value.ownBlock]); grind))) : Kd.V d e w1 base ok' v xs := Kd.V_mono (Kd.V_step h0 hm) ho
theorem vM_ (h0 : Kd.V d e W base ok v xs) (hm : ∀ k, ok k → k < W.heap.size → w1.heap[k]? = W.heap[k]? := by (intro k hk hl; first | (with_reducible rfl) | exact rfl)) (ho : ∀ k, ok k → ok' k := by (intro k hk; first | exact hk | exact hk.1 | exact trivial | grind | (have h1 : ∀ k : Nat, some k ≠ (Value.slice none 0 0).ownBlock := (by simp [Value.ownBlock]); grind))) : Kd.V d e w1 base ok' v xs := Kd.V_mono (Kd.V_step h0 hm) ho
theorem rF_ (h0 : Kd.R d e W base ok v xs) (hm : ∀ k, ok k → k < W.heap.size → w1.heap[k]? = W.heap[k]? := by (intro k hk hl; repeat' (first | (with_reducible rfl) | (refine (Below.heap_setCell _ _ _ _ ?_).trans ?_) | (show k ≠ _; clear hl; first | exact hk.2 | exact hk.2.1 | exact hk.2.2 | exact hk.1.2 | omega | grind) | exact rfl))) (ho : ∀ k, ok k → ok' k := by (intro k hk; first | exact hk | exact hk.1 | exact hk.1.1 | exact hk.1.1.1 | exact hk.1.1.1.1 | exact trivial | grind | (have h1 : ∀ k : Nat, some k ≠ (Value.slice none 0 0).ownBlock := (by simp [Value.ownBlock]); grind))) : Kd.R d e w1 base ok' v xs := Kd.R_mono (Kd.R_step h0 hm) ho
theorem rM_ (h0 : Kd.R d e W base ok v xs) (hm : ∀ k, ok k → k < W.heap.size → w1.heap[k]? = W.heap[k]? := by (intro k hk hl; first | (with_reducible rfl) | exact rfl)) (ho : ∀ k, ok k → ok' k := by (intro k hk; first | exact hk | exact hk.1 | exact trivial | grind | (have h1 : ∀ k : Nat, some k ≠ (Value.slice none 0 0).ownBlock := (by simp [Value.ownBlock]); grind))) : Kd.R d e w1 base ok' v xs := Kd.R_mono (Kd.R_step h0 hm) ho
end
section
variable {P : Program} {ops : Array Oper} {rest : List Oper} {Q : Exit → Act → World → Prop} {a : Act} {w W : World} {oi : Oper}
theorem gL_ (N : Option Tmp) {f : FuncId} {fn : Func} {az : Array Operand} {ts : Array TypeId} (hf : P.funcs[f]? = some fn) (args : Array Value)
    (h : Calls P f args w fun e w' => ∃ v, e = .returned v ∧ wpList P ops Q rest (a.put N v) w')
    (hd : oi.dst = N := by rfl) (hg : oi.guard = none := by rfl) (hname : (fn.name == "runtime.NumGoroutine") = false := by kernel_rfl) (hb : fn.body.isSome = true := by rfl)
    (hop : oi.op = .call { callee := .value (.func f), args := az, argTypes := ts } := by rfl) (hargs : az.map a.eval = args := by exact aT_) : wpList P ops Q (oi :: rest) a w := goesL_ N hd hg hf hname hb args hop hargs h
theorem bE_ (N : Tmp) (cs : Array Value) (t : TypeId) (h : ∀ g, g = W.heap.size → ∀ w1, w1.heap[g]? = some (.cells cs t (0, 0)) → Below W.heap.size W w1 → wpList P ops Q rest (a.put oi.dst (.pointer (some ⟨g, 0, none⟩))) w1)
    (hd : oi.dst = some N := by rfl) (hg : oi.guard = none := by rfl) (hr : (execOp a.eval oi).run P W = .ok (.value (.pointer (some ⟨W.heap.size, 0, none⟩))) (W.alloc (.cells cs t (0, 0))) := by first | kernel_rfl | (go_simp; done) | (go_simp; rfl)) : wpList P ops Q (oi :: rest) a W := box_event hg hd hr h
end
section
variable {P : Program} {ops : Array Oper} {Q : Exit → Act → World → Prop} {md : Region.Mode} {S : World → Prop} {ds : List Nat}
theorem pS_ (i n_ : Nat) (l' : Array Bool) {oi : Oper} {v : Value} {fuel : Nat} {l : Array Bool} {a : Act} {w : World} {a' : Act} (h : wpAnyLast P md ops Q S ds fuel l' a' w)
    (hi : ops[i]? = some oi := by exact rfl) (hN : oi.dst = some n_ := by exact rfl) (hc : anyB md ops l l' i = true := by exact any_of HT_.out (by kernel_rfl)) (hy : Yields P ops oi v a := by (refine Or.inl ⟨by rfl, ?_⟩; intro w'; go_simp; with_reducible rfl))
    (hQ : ∀ c a w, Q (.panic c) (a.put oi.dst v) w → Q (.panic c) a w := by exact fun _ _ _ h => h) (ha : a.put (some n_) v = a' := by (simp only [Act.put, List.setIfInBounds_toArray, List.set_cons_zero, List.set_cons_succ, i64_w, i32_w]; rfl)) :
    wpAnyLast P md ops Q S ds (fuel + 1) l a w := pure_ l' hi hN hc hQ hy ha h
theorem uS_ (i n_ : Nat) (l' : Array Bool) {oi : Oper} {fuel : Nat} {l : Array Bool} {a : Act} {w : World} {a' : Act} (h : wpAnyLast P md ops Q S ds fuel l' a' w)
    (hi : ops[i]? = some oi := by exact rfl) (hN : oi.dst = some n_ := by exact rfl) (hc : anyB md ops l l' i = true := by exact any_of HT_.out (by kernel_rfl)) (hy : Yields P ops oi undef a := by exact Or.inr ⟨by rfl, rfl⟩)
    (hQ : ∀ c a w, Q (.panic c) (a.put oi.dst undef) w → Q (.panic c) a w := by exact fun _ _ _ h => h) (ha : a.put (some n_) undef = a' := by (simp only [Act.put, List.setIfInBounds_toArray, List.set_cons_zero, List.set_cons_succ, i64_w, i32_w]; rfl)) :
    wpAnyLast P md ops Q S ds (fuel + 1) l a w := pure_ l' hi hN hc hQ hy ha h
theorem nS_ {fuel : Nat} {l : Array Bool} {a a' : Act} {w : World} (h : wpAnyLast P md ops Q S ds fuel l a' w) (ha : a = a' := by (show Act.put _ _ _ = _; simp only [Act.put, List.setIfInBounds_toArray, List.set_cons_zero, List.set_cons_succ, i64_w, i32_w]; rfl)) :
    wpAnyLast P md ops Q S ds fuel l a w := norm_ ha h
theorem t2S_ (i n_ : Nat) (l' : Array Bool) {oi : Oper} {v : Value} {fuel : Nat} {l : Array Bool} {a : Act} {w : World} {a' : Act} (h : wpAnyLast P md ops Q S ds fuel l' a' w)
    (hi : ops[i]? = some oi := by exact rfl) (hN : oi.dst = some n_ := by exact rfl) (hc : takeB md ops ds l l' i = true := by exact take_ofW HT_.out HW_.out (by kernel_rfl)) (hy : YieldsIf P ops S oi v a := by (refine Or.inl ⟨by rfl, ?_⟩; rintro w' ⟨s0, s1⟩; go_simp; with_reducible rfl)) (hS : S w := by exact hHeld)
    (hQ : ∀ c a w, Q (.panic c) (a.put oi.dst v) w → Q (.panic c) a w := by exact fun _ _ _ h => h) (ha : a.put (some n_) v = a' := by (simp only [Act.put, List.setIfInBounds_toArray, List.set_cons_zero, List.set_cons_succ, i64_w, i32_w]; rfl)) :
    wpAnyLast P md ops Q S ds (fuel + 1) l a w := take_ l' hi hN hc hQ hy hS ha h
theorem t4S_ (i n_ : Nat) (l' : Array Bool) {oi : Oper} {v : Value} {fuel : Nat} {l : Array Bool} {a : Act} {w : World} {a' : Act} (h : wpAnyLast P md ops Q S ds fuel l' a' w)
    (hi : ops[i]? = some oi := by exact rfl) (hN : oi.dst = some n_ := by exact rfl) (hc : takeB md ops ds l l' i = true := by exact take_ofW HT_.out HW_.out (by kernel_rfl)) (hy : YieldsIf P ops S oi v a := by (refine Or.inl ⟨by rfl, ?_⟩; rintro w' ⟨s0, s1, s2, s3⟩; go_simp; with_reducible rfl)) (hS : S w := by exact hHeld)
    (hQ : ∀ c a w, Q (.panic c) (a.put oi.dst v) w → Q (.panic c) a w := by exact fun _ _ _ h => h) (ha : a.put (some n_) v = a' := by (simp only [Act.put, List.setIfInBounds_toArray, List.set_cons_zero, List.set_cons_succ, i64_w, i32_w]; rfl)) :
    wpAnyLast P md ops Q S ds (fuel + 1) l a w := take_ l' hi hN hc hQ hy hS ha h
theorem t5S_ (i n_ : Nat) (l' : Array Bool) {oi : Oper} {v : Value} {fuel : Nat} {l : Array Bool} {a : Act} {w : World} {a' : Act} (h : wpAnyLast P md ops Q S ds fuel l' a' w)
    (hi : ops[i]? = some oi := by exact rfl) (hN : oi.dst = some n_ := by exact rfl) (hc : takeB md ops ds l l' i = true := by exact take_ofW HT_.out HW_.out (by kernel_rfl)) (hy : YieldsIf P ops S oi v a := by (refine Or.inl ⟨by rfl, ?_⟩; rintro w' ⟨s0, s1, s2, s3, s4⟩; go_simp; with_reducible rfl)) (hS : S w := by exact hHeld)
    (hQ : ∀ c a w, Q (.panic c) (a.put oi.dst v) w → Q (.panic c) a w := by exact fun _ _ _ h => h) (ha : a.put (some n_) v = a' := by (simp only [Act.put, List.setIfInBounds_toArray, List.set_cons_zero, List.set_cons_succ, i64_w, i32_w]; rfl)) :
    wpAnyLast P md ops Q S ds (fuel + 1) l a w := take_ l' hi hN hc hQ hy hS ha h
theorem t6S_ (i n_ : Nat) (l' : Array Bool) {oi : Oper} {v : Value} {fuel : Nat} {l : Array Bool} {a : Act} {w : World} {a' : Act} (h : wpAnyLast P md ops Q S ds fuel l' a' w)
    (hi : ops[i]? = some oi := by exact rfl) (hN : oi.dst = some n_ := by exact rfl) (hc : takeB md ops ds l l' i = true := by exact take_ofW HT_.out HW_.out (by kernel_rfl)) (hy : YieldsIf P ops S oi v a := by (refine Or.inl ⟨by rfl, ?_⟩; rintro w' ⟨s0, s1, s2, s3, s4, s5⟩; go_simp; with_reducible rfl)) (hS : S w := by exact hHeld)
    (hQ : ∀ c a w, Q (.panic c) (a.put oi.dst v) w → Q (.panic c) a w := by exact fun _ _ _ h => h) (ha : a.put (some n_) v = a' := by (simp only [Act.put, List.setIfInBounds_toArray, List.set_cons_zero, List.set_cons_succ, i64_w, i32_w]; rfl)) :
    wpAnyLast P md ops Q S ds (fuel + 1) l a w := take_ l' hi hN hc hQ hy hS ha h
theorem t8S_ (i n_ : Nat) (l' : Array Bool) {oi : Oper} {v : Value} {fuel : Nat} {l : Array Bool} {a : Act} {w : World} {a' : Act} (h : wpAnyLast P md ops Q S ds fuel l' a' w)
    (hi : ops[i]? = some oi := by exact rfl) (hN : oi.dst = some n_ := by exact rfl) (hc : takeB md ops ds l l' i = true := by exact take_ofW HT_.out HW_.out (by kernel_rfl)) (hy : YieldsIf P ops S oi v a := by (refine Or.inl ⟨by rfl, ?_⟩; rintro w' ⟨s0, s1, s2, s3, s4, s5, s6, s7⟩; go_simp; with_reducible rfl)) (hS : S w := by exact hHeld)
    (hQ : ∀ c a w, Q (.panic c) (a.put oi.dst v) w → Q (.panic c) a w := by exact fun _ _ _ h => h) (ha : a.put (some n_) v = a' := by (simp only [Act.put, List.setIfInBounds_toArray, List.set_cons_zero, List.set_cons_succ, i64_w, i32_w]; rfl)) :
    wpAnyLast P md ops Q S ds (fuel + 1) l a w := take_ l' hi hN hc hQ hy hS ha h
end
end Go.Proofs.Ytgkjdpdmmlalcaa.F
end
