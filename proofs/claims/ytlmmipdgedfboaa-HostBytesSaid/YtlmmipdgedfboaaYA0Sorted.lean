import Derived.Below
import Derived.Deep.Draws
import Derived.Deep.AppendLies
import Derived.Maps.AppendAt
import Derived.OwnWalk
import Derived.Laws.BytesArg
import Derived.Laws.MakeOwn
import Derived.Laws.OwnMore
import Derived.Deep.OwnRows
import Derived.Tactics
import Derived.Lib.ConvBytes
import Derived.Laws.Slices
import Derived.WalkKit
import Derived.KernelRfl
import Derived.RowKit3
import Derived.Deep.LoopGhost
import Derived.Deep.QuietTactic
import Derived.BigQuiet
import Derived.WideLaws
import Derived.Deep.DeepCutAuto
import Derived.Deep.CutBlock
import Derived.Deep.RegionHeld3
import Derived.Laws.Rows
import Derived.Lib.AppendStr
import Derived.ArgAppend
import Derived.Laws.IdiomCopy
import Derived.RowKit
import Derived.OrdersHeld
import Derived.Laws.BitsLemmas
import Derived.Laws.StructEq
import Derived.Test.YtlmmipdgedfboaaZF0
section
namespace Go.Proofs.Ytlmmipdgedfboaa.F
set_option linter.unusedVariables false
section
variable {α : Type} (key val : α → Int)
def Rises : List α → Prop
  | [] => True
  | [_] => True
  | x :: y :: l => key x < key y ∧ Rises (y :: l)
theorem rises_tail {x : α} {l : List α} (h : Rises key (x :: l)) : Rises key l := by
  cases l with
  | nil => trivial
  | cons y l => exact h.2
theorem rises_head : ∀ {l : List α} {x : α}, Rises key (x :: l) → ∀ y ∈ l, key x < key y
  | [], _, _, y, hy => by simp at hy
  | z :: l, x, h, y, hy => by
    rcases List.mem_cons.1 hy with rfl | hy
    · exact h.1
    · exact Int.lt_trans h.1 (rises_head h.2 y hy)
theorem rises_cons {x : α} {l : List α} (h : ∀ y ∈ l, key x < key y) (hl : Rises key l) : Rises key (x :: l) := by
  cases l with
  | nil => trivial
  | cons y l => exact ⟨h y List.mem_cons_self, hl⟩
theorem rises_append : ∀ {l m : List α}, Rises key l → Rises key m → (∀ x ∈ l, ∀ y ∈ m, key x < key y) → Rises key (l ++ m)
  | [], _, _, hm, _ => hm
  | x :: l, m, hl, hm, h => by
    refine rises_cons key (fun y hy => ?_) (rises_append (rises_tail key hl) hm (fun a ha b hb => h a (List.mem_cons_of_mem _ ha) b hb))
    rcases List.mem_append.1 hy with hy | hy
    · exact rises_head key hl y hy
    · exact h x List.mem_cons_self y hy
theorem rises_left : ∀ {l m : List α}, Rises key (l ++ m) → Rises key l
  | [], _, _ => trivial
  | x :: l, m, h => rises_cons key (fun y hy => rises_head key h y (List.mem_append_left _ hy)) (rises_left (rises_tail key h))
theorem rises_right : ∀ {l m : List α}, Rises key (l ++ m) → Rises key m
  | [], _, h => h
  | x :: l, m, h => rises_right (l := l) (rises_tail key h)
theorem rises_filter (p : α → Bool) : ∀ {l : List α}, Rises key l → Rises key (l.filter p)
  | [], _ => trivial
  | x :: l, h => by
    rw [List.filter_cons]
    split
    · exact rises_cons key (fun y hy => rises_head key h y (List.mem_filter.1 hy).1) (rises_filter p (rises_tail key h))
    · exact rises_filter p (rises_tail key h)
theorem rises_map {l : List α} (f : α → α) (hf : ∀ x, key (f x) = key x) (h : Rises key l) : Rises key (l.map f) := by
  induction l with
  | nil => trivial
  | cons x l ih =>
    refine rises_cons key (fun y hy => ?_) (ih (rises_tail key h))
    obtain ⟨z, hz, rfl⟩ := List.mem_map.1 hy
    rw [hf, hf]
    exact rises_head key h z hz
theorem rises_get : ∀ {l : List α}, Rises key l → ∀ (i j : Nat) (hj : j < l.length) (hij : i < j), key (l[i]'(Nat.lt_trans hij hj)) < key l[j]
  | x :: l, h, 0, j + 1, hj, _ => rises_head key h _ (List.getElem_mem (by simpa using hj))
  | x :: l, h, i + 1, j + 1, hj, hij => by
    have := rises_get (rises_tail key h) i j (by simpa using hj) (by omega)
    simpa using this
def lowB (k : Int) : List α → Nat
  | [] => 0
  | x :: l => if key x < k then lowB k l + 1 else 0
theorem lowB_le (k : Int) : ∀ l : List α, lowB key k l ≤ l.length
  | [] => Nat.le_refl _
  | x :: l => by
    unfold lowB
    split
    · have := lowB_le k l
      simpa using this
    · simp
theorem lowB_lt (k : Int) : ∀ (l : List α) (j : Nat) (hj : j < l.length), j < lowB key k l → key l[j] < k
  | x :: l, 0, hj, h => by
    unfold lowB at h
    split at h
    · assumption
    · omega
  | x :: l, j + 1, hj, h => by
    unfold lowB at h
    split at h
    · have := lowB_lt k l j (by simpa using hj) (by omega)
      simpa using this
    · omega
theorem lowB_ge (k : Int) : ∀ {l : List α}, Rises key l → ∀ (j : Nat) (hj : j < l.length), lowB key k l ≤ j → k ≤ key l[j]
  | x :: l, hr, 0, hj, h => by
    unfold lowB at h
    split at h
    · omega
    · simp only [List.getElem_cons_zero]; omega
  | x :: l, hr, j + 1, hj, h => by
    unfold lowB at h
    split at h
    · have := lowB_ge k (rises_tail key hr) j (by simpa using hj) (by omega)
      simpa using this
    · have hj' : j < l.length := by simpa using hj
      have := rises_head key hr l[j] (List.getElem_mem hj')
      simp only [List.getElem_cons_succ]
      omega
theorem lowB_of {k : Int} {l : List α} (hr : Rises key l) (i : Nat) (hi : i ≤ l.length) (h1 : ∀ j (hj : j < l.length), j < i → key l[j] < k) (h2 : ∀ j (hj : j < l.length), i ≤ j → k ≤ key l[j]) : lowB key k l = i := by
  have h0 := lowB_le key k l
  rcases Nat.lt_trichotomy (lowB key k l) i with h | h | h
  · have a := lowB_ge key k hr (lowB key k l) (by omega) (Nat.le_refl _)
    have b := h1 (lowB key k l) (by omega) h
    omega
  · exact h
  · have a := lowB_lt key k l i (by omega) h
    have b := h2 i (by omega) (Nat.le_refl _)
    omega
theorem take_lowB (k : Int) : ∀ l : List α, ∀ x ∈ l.take (lowB key k l), key x < k
  | [], x, h => by simp at h
  | y :: l, x, h => by
    unfold lowB at h
    split at h
    · rw [List.take_succ_cons] at h
      rcases List.mem_cons.1 h with rfl | h
      · assumption
      · exact take_lowB k l x h
    · simp at h
theorem drop_lowB (k : Int) : ∀ {l : List α}, Rises key l → ∀ x ∈ l.drop (lowB key k l), k ≤ key x
  | [], _, x, h => by simp at h
  | y :: l, hr, x, h => by
    unfold lowB at h
    split at h
    · rw [List.drop_succ_cons] at h
      exact drop_lowB k (rises_tail key hr) x h
    · rw [List.drop_zero] at h
      rcases List.mem_cons.1 h with rfl | h
      · omega
      · have := rises_head key hr x h
        omega
def has (k : Int) (l : List α) : Bool := l.any (fun x => decide (key x = k))
theorem has_lowB {k : Int} {l : List α} (hr : Rises key l) : has key k l = (match l[lowB key k l]? with | some x => decide (key x = k) | none => false) := by
  by_cases hlt : lowB key k l < l.length
  · rw [List.getElem?_eq_getElem hlt]
    dsimp only
    have hge := lowB_ge key k hr _ hlt (Nat.le_refl _)
    by_cases he : key l[lowB key k l] = k
    · rw [decide_eq_true he]
      exact List.any_eq_true.2 ⟨_, List.getElem_mem hlt, decide_eq_true he⟩
    · rw [decide_eq_false he]
      refine List.any_eq_false.2 (fun x hx => ?_)
      obtain ⟨j, hj, rfl⟩ := List.getElem_of_mem hx
      rcases Nat.lt_or_ge j (lowB key k l) with h | h
      · have := lowB_lt key k l j hj h
        simp; omega
      · rcases Nat.lt_or_eq_of_le h with h | h
        · have := rises_get key hr _ j hj h
          simp; omega
        · subst h
          simpa using he
  · rw [List.getElem?_eq_none (by omega)]
    dsimp only
    refine List.any_eq_false.2 (fun x hx => ?_)
    obtain ⟨j, hj, rfl⟩ := List.getElem_of_mem hx
    have := lowB_lt key k l j hj (by omega)
    simp; omega
def look (a : Int) : List α → Int
  | [] => 0
  | x :: l => if key x = a then val x else look a l
theorem look_none {a : Int} : ∀ {l : List α}, (∀ x ∈ l, key x ≠ a) → look key val a l = 0
  | [], _ => rfl
  | x :: l, h => by
    unfold look
    rw [if_neg (h x List.mem_cons_self), look_none (fun y hy => h y (List.mem_cons_of_mem _ hy))]
theorem look_append (a : Int) (l m : List α) (h : ∀ x ∈ l, key x ≠ a) : look key val a (l ++ m) = look key val a m := by
  induction l with
  | nil => rfl
  | cons y l ih =>
    rw [List.cons_append]
    conv => lhs; unfold look
    rw [if_neg (h y List.mem_cons_self)]
    exact ih (fun x hx => h x (List.mem_cons_of_mem _ hx))
theorem look_lowB {k : Int} {l : List α} (hr : Rises key l) : look key val k l = (match l[lowB key k l]? with | some x => if key x = k then val x else 0 | none => 0) := by
  have hd := List.take_append_drop (lowB key k l) l
  have e : look key val k l = look key val k (l.drop (lowB key k l)) := by
    conv => lhs; rw [← hd]
    exact look_append key val k _ _ (fun x hx => by have := take_lowB key k l x hx; omega)
  rw [e]
  by_cases hlt : lowB key k l < l.length
  · rw [List.getElem?_eq_getElem hlt, List.drop_eq_getElem_cons hlt]
    unfold look
    dsimp only
    split
    · rfl
    · refine look_none key val (fun x hx => ?_)
      have h1 := drop_lowB key k hr l[lowB key k l] (by rw [List.drop_eq_getElem_cons hlt]; exact List.mem_cons_self)
      have h2 : Rises key (l.drop (lowB key k l)) := by
        rw [← hd] at hr
        exact rises_right key hr
      rw [List.drop_eq_getElem_cons hlt] at h2
      have := rises_head key h2 x hx
      omega
  · rw [List.getElem?_eq_none (by omega), List.drop_eq_nil_of_le (by omega)]
    rfl
end
end Go.Proofs.Ytlmmipdgedfboaa.F
end
