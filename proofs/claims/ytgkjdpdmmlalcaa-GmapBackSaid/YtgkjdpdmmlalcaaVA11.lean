import Derived.Test.YtgkjdpdmmlalcaaVZF0
import Derived.Test.YtgkjdpdmmlalcaaVA0
import Derived.Test.YtgkjdpdmmlalcaaVA4HHost3
import Derived.Test.YtgkjdpdmmlalcaaVA6HHost11
import Derived.Test.YtgkjdpdmmlalcaaVA7
section
namespace Go.Proofs.Ytgkjdpdmmlalcaa.F
open Go.RowKit Go.Shelf Go.Proofs.YtgkjdpdmmlalcaaW.PrintWords Go.Proofs.YtgkjdpdmmlalcaaW.PrintLast Go.Proofs.YtgkjdpdmmlalcaaW.PrintMore
set_option linter.unusedVariables false
set_option linter.unusedSimpArgs false
def fitMap (m : S83) : Bool := decide (m.f0 ≥ 1125899906842624) || (Go.bits .andNot .i64 m.f1 7 != 0)
def fitCell (l0_0 : List S83) (c : S88) : Bool := (!(has mpK (IntKind.u64.wrap (Int.tdiv c.f0 16384)) l0_0) || (Go.bits .and .u64 c.f0 7 != 0)) || (c.f1 == 0)
def fitB (l0_0 : List S83) (l0_1 : List S88) : Bool := risesB mpK l0_0 && (risesB clK l0_1 && (decide (l0_0.length ≤ 64) && (decide (l0_1.length ≤ 131072) && (!(l0_0.any fitMap) && !(l0_1.any (fitCell l0_0))))))
end Go.Proofs.Ytgkjdpdmmlalcaa.F
end
section
namespace Go.Proofs.Ytgkjdpdmmlalcaa.F
open Go.RowKit Go.Shelf Go.Proofs.YtgkjdpdmmlalcaaW.PrintWords Go.Proofs.YtgkjdpdmmlalcaaW.PrintLast Go.Proofs.YtgkjdpdmmlalcaaW.PrintMore
set_option linter.unusedVariables false
def Chain : List World → World → Prop
  | [], _ => True
  | w :: ws, W => Below w.heap.size w W ∧ Chain ws W
theorem Chain.step : ∀ {ws : List World} {W W' : World}, Chain ws W → Below W.heap.size W W' → Chain ws W'
  | [], _, _, _, _ => trivial
  | _ :: _, _, _, h, hb => ⟨h.1.trans (hb.mono h.1.size), Chain.step h.2 hb⟩
theorem Chain.head {w : World} {ws : List World} {W : World} (h : Chain (w :: ws) W) : Below w.heap.size w W := h.1
theorem Chain.tail {w : World} {ws : List World} {W : World} (h : Chain (w :: ws) W) : Chain ws W := h.2
theorem Chain.push {ws : List World} {W : World} (h : Chain ws W) : Chain (W :: ws) W := ⟨Below.refl _ _, h⟩
theorem below_new (W : World) (o : Obj) : Below W.heap.size W (W.alloc o) := (Below.refl _ W).alloc (Nat.le_refl _) o
theorem below_d (W : World) : Below W.heap.size W W.drew := below_drew (Below.refl _ _)
theorem Chain.alloc {ws : List World} {W : World} (h : Chain ws W) (o : Obj) : Chain ws (W.alloc o) := h.step (below_new W o)
theorem Chain.drew {ws : List World} {W : World} (h : Chain ws W) : Chain ws W.drew := h.step (below_d W)
theorem box_cell {w W : World} {b : Nat} {cs : Array Value} {t : TypeId} {fr : Nat × Nat} (k : w.heap[b]? = some (.cells cs t fr)) (h : Below w.heap.size w W) (j : Nat) : W.cell? ⟨b, j, none⟩ = cs[j]? := sblk_cell (blk_below k h) j
def SlV {α : Type} (d : Kd α) (W : World) (v : Value) (l : List α) : Prop := ∃ A c, v = .slice A l.length c ∧ l.length ≤ c ∧ Kd.C d W A l.length l
theorem SlV.below {α : Type} {d : Kd α} {W W' : World} {v : Value} {l : List α} (h : SlV d W v l) (hb : Below W.heap.size W W') : SlV d W' v l := by
  obtain ⟨A, c, e, hc, hC⟩ := h
  exact ⟨A, c, e, hc, Kd.C_below hC hb⟩
theorem SlV.mk {α : Type} {d : Kd α} {W : World} {A : Option Addr} {l : List α} {c : Nat} (hC : Kd.C d W A l.length l) (hc : l.length ≤ c) : SlV d W (.slice A l.length c) l := ⟨A, c, rfl, hc, hC⟩
theorem SlV.view {α : Type} {d : Kd α} {W : World} {A : Option Addr} {l : List α} {c : Nat} (hd : Kd.Heap d) (e base : Nat) (hC : Kd.C d W A l.length l) (hc : l.length ≤ c) : Kd.V d e W base (fun _ => True) (.slice A l.length c) l :=
  Kd.V_mk hc (Kd.F_mono (Kd.C_F hd hC) (fun _ _ => trivial))
theorem SlV.of_view {α : Type} {d : Kd α} {e base : Nat} {W : World} {ok : Nat → Prop} {v : Value} {l : List α} (h : Kd.V d e W base ok v l) : SlV d W v l := by
  obtain ⟨A, c, ev, hc, hF⟩ := h
  exact ⟨A, c, ev, hc, Kd.F_now hF⟩
theorem SlV.nil {α : Type} (d : Kd α) (W : World) : SlV d W (.slice none 0 0) [] := ⟨none, 0, rfl, Nat.le_refl _, Kd.C_nil d W⟩
theorem blk_far2 {w : World} {g b : Nat} {t : TypeId} {cs : Array Value} (h : w.heap[g]? = some (.cells cs t (0, 0))) (hn : g ≠ b) (u v : Value) : ((w.setCell ⟨b, 0, none⟩ u).setCell ⟨b, 1, none⟩ v).heap[g]? = some (.cells cs t (0, 0)) :=
  blk_far (blk_far h hn u) hn v
end Go.Proofs.Ytgkjdpdmmlalcaa.F
end
section
namespace Go.Proofs.Ytgkjdpdmmlalcaa.Opens
open Go.ChangeShapes Go.WideShapes Go.RowKit Go.Deep
open Go.Proofs.YtgkjdpdmmlalcaaW.PrintWords

def Opens {α : Type} (P : Program) (t : TypeId) (d : Kd α) (wf : α → Prop) : Prop :=
  P.cellsOf t = d.sz ∧ ∀ {H : Type} (enc : TypeId × Value → H) (w : World) (base : Nat) (spare : Nat → Bool) (held : Bool) (fuel : Nat) (cs : List Value) (x : DataW H × List MemPlace),
    DataW.trod enc P w base spare held fuel t cs = some x → ∃ a : α, d.K w a cs ∧ wf a
theorem opens_int {P : Program} {t : TypeId} {k : IntKind} (hc : P.cellsOf t = 1) (ht : P.underlying t = some (.int k)) : Opens P t (Kd.int k) (fun n => (Lit.int k n).wf = true) :=
  ⟨hc, fun enc w base spare held fuel cs x h => by
    obtain ⟨n, rfl, _, hw⟩ := DataW.trod_int ht h
    exact ⟨n, rfl, hw⟩⟩
theorem add_add (a : Addr) (i j : Nat) : (a.add i).add j = a.add (i + j) := by
  obtain ⟨b, o, s⟩ := a
  unfold Addr.add
  by_cases h1 : i = 0
  · subst h1
    simp
  by_cases h2 : j = 0
  · subst h2
    simp [h1]
  · simp [h1, h2, Nat.add_assoc]
theorem list_of {α : Type} {p : Nat → α → Prop} : ∀ (n : Nat), (∀ i, i < n → ∃ a, p i a) → ∃ l : List α, l.length = n ∧ ∀ (i : Nat) (a : α), l[i]? = some a → p i a
  | 0, _ => ⟨[], rfl, fun i a h => by simp at h⟩
  | n + 1, h => by
    obtain ⟨l, hl, hp⟩ := list_of n (fun i hi => h i (by omega))
    obtain ⟨a, ha⟩ := h n (by omega)
    refine ⟨l ++ [a], by simp [hl], fun i b hb => ?_⟩
    rcases Nat.lt_or_ge i n with hi | hi
    · rw [List.getElem?_append_left (by omega)] at hb
      exact hp i b hb
    · rw [List.getElem?_append_right (by omega)] at hb
      have : i = n := by
        rcases Nat.lt_or_ge (i - l.length) 1 with h1 | h1
        · omega
        · rw [List.getElem?_eq_none (by simpa using h1)] at hb
          cases hb
      subst this
      simp [hl] at hb
      subst hb
      exact ha
theorem opens_slice {α : Type} {P : Program} {t e : TypeId} {d : Kd α} {wf : α → Prop} (hc : P.cellsOf t = 1) (ht : P.underlying t = some (.slice e)) (he : Opens P e d wf) :
    Opens P t (Kd.slice e d) (fun l => l.length ≤ 9223372036854775807 ∧ ∀ x ∈ l, wf x) :=
  ⟨hc, fun enc w base spare held fuel cs x h => by
    rcases open_slice ht h with ⟨rfl, _⟩ | ⟨a, len, cap, m, n, D, Pl, rfl, _, hl, hm, hmm, _, hx⟩
    · exact ⟨[], ⟨none, 0, rfl, Nat.le_refl _, Kd.C_nil d w⟩, by simp, by simp⟩
    · have hlm : len ≤ m := by rw [hmm]; split <;> omega
      obtain ⟨l, hll, hp⟩ := list_of (p := fun i (y : α) => wf y ∧ ∃ c, c.length = d.sz ∧ d.K w y c ∧ ∀ (j : Nat) (u : Value), c[j]? = some u → w.cell? (a.add (i * d.sz + j)) = some u) len (fun i hi => by
        obtain ⟨cs', h1, h2⟩ := hx i (by omega)
        obtain ⟨y, hK, hw⟩ := he.2 enc w base spare held n cs' _ h2
        obtain ⟨_, hlen, hcell⟩ := World.cells?_some h1
        refine ⟨y, hw, cs', d.K_len hK, hK, fun j u hu => ?_⟩
        have hj : j < cs'.length := by
          rcases Nat.lt_or_ge j cs'.length with h' | h'
          · exact h'
          · rw [List.getElem?_eq_none h'] at hu
            cases hu
        have z := hcell j (by omega)
        rw [hu] at z
        rw [← he.1, ← z]
        congr 1
        exact (add_add a _ _).symm)
      have hmax : len ≤ 9223372036854775807 := by unfold maxLen at hm; omega
      refine ⟨l, ⟨some a, cap, by rw [hll], by omega, hll ▸ rfl, by omega, fun _ => ⟨a, rfl, fun j p hj => ?_⟩⟩, by omega, fun y hy => ?_⟩
      · exact (hp j p hj).2
      · obtain ⟨i, hi, e⟩ := List.getElem_of_mem hy
        exact (hp i y (by rw [List.getElem?_eq_getElem hi, e])).1⟩

structure OpensF {α : Type} (P : Program) (fl : List Field) (off : Nat) (d : Kd α) (wf : α → Prop) : Prop where
  out : ∀ {H : Type} (enc : TypeId × Value → H) (w : World) (base : Nat) (spare : Nat → Bool) (held : Bool) (fuel : Nat) (cs : List Value), cs.length = off + d.sz →
    (∀ (i : Nat) (f : Field), fl[i]? = some f → ∃ y, DataW.trod enc P w base spare held fuel f.type ((cs.drop f.offset).take (P.cellsOf f.type)) = some y) → ∃ a : α, d.K w a (cs.drop off) ∧ wf a
theorem opens_one {α : Type} {P : Program} {f : Field} {off : Nat} {d : Kd α} {wf : α → Prop} (ho : f.offset = off) (h : Opens P f.type d wf) : OpensF P [f] off d wf := by
  constructor
  intro H enc w base spare held fuel cs hl hf
  obtain ⟨y, hy⟩ := hf 0 f rfl
  obtain ⟨a, hK, hw⟩ := h.2 enc w base spare held fuel _ y hy
  have e : (cs.drop f.offset).take (P.cellsOf f.type) = cs.drop off := by
    rw [ho]
    apply List.take_of_length_le
    rw [h.1, List.length_drop]
    omega
  rw [e] at hK
  exact ⟨a, hK, hw⟩
theorem opens_cons {α β : Type} {P : Program} {f : Field} {fl : List Field} {off : Nat} {d : Kd α} {d' : Kd β} {wf : α → Prop} {wf' : β → Prop} (ho : f.offset = off) (h : Opens P f.type d wf) (hr : OpensF P fl (off + d.sz) d' wf') :
    OpensF P (f :: fl) off (Kd.pair d d') (fun x => wf x.1 ∧ wf' x.2) := by
  constructor
  intro H enc w base spare held fuel cs hl hf
  have hl' : cs.length = off + (d.sz + d'.sz) := hl
  obtain ⟨y, hy⟩ := hf 0 f rfl
  obtain ⟨a, hK, hw⟩ := h.2 enc w base spare held fuel _ y hy
  obtain ⟨b, hK', hw'⟩ := hr.out enc w base spare held fuel cs (by omega) (fun i g hg => hf (i + 1) g (by simpa using hg))
  refine ⟨(a, b), ⟨(cs.drop off).take d.sz, cs.drop (off + d.sz), ?_, ?_, hK'⟩, hw, hw'⟩
  · rw [← List.drop_drop, List.take_append_drop]
  · rw [ho, h.1] at hK
    exact hK
theorem opens_struct {α : Type} {P : Program} {t : TypeId} {fs : Array Field} {d : Kd α} {wf : α → Prop} (hc : P.cellsOf t = d.sz) (ht : P.underlying t = some (.struct fs)) (h : OpensF P fs.toList 0 d wf) : Opens P t d wf :=
  ⟨hc, fun enc w base spare held fuel cs x hx => by
    obtain ⟨xs, n, _, _, hl, hlen, hf⟩ := DataW.trod_struct ht hx
    have z := h.out enc w base spare held n cs (by omega) (fun i f hi => by
      have hi' : fs[i]? = some f := by simpa using hi
      have hlt : i < fs.size := by
        rcases Nat.lt_or_ge i fs.size with h' | h'
        · exact h'
        · rw [Array.getElem?_eq_none h'] at hi'
          cases hi'
      rw [hf i f hi', List.getElem?_eq_getElem (by omega)]
      exact ⟨_, rfl⟩)
    simpa using z⟩
theorem opens_iso {α β : Type} {P : Program} {t : TypeId} {d : Kd α} {wf : α → Prop} {f : β → α} (g : α → β) (hg : ∀ a, f (g a) = a) (h : Opens P t d wf) : Opens P t (Kd.iso d f) (fun b => wf (f b)) :=
  ⟨h.1, fun enc w base spare held fuel cs x hx => by
    obtain ⟨a, hK, hw⟩ := h.2 enc w base spare held fuel cs x hx
    exact ⟨g a, by show d.K w (f (g a)) cs; rw [hg]; exact hK, by show wf (f (g a)); rw [hg]; exact hw⟩⟩

theorem Opens.imp {α : Type} {P : Program} {t : TypeId} {d : Kd α} {wf wf' : α → Prop} (h : Opens P t d wf) (hi : ∀ a, wf a → wf' a) : Opens P t d wf' :=
  ⟨h.1, fun enc w base spare held fuel cs x hx => by
    obtain ⟨a, hK, hw⟩ := h.2 enc w base spare held fuel cs x hx
    exact ⟨a, hK, hi a hw⟩⟩
theorem wf_u32 {n : Int} (h : (Lit.int .u32 n).wf = true) : 0 ≤ n ∧ n ≤ 4294967295 := by
  simp only [Lit.wf, Bool.and_eq_true, decide_eq_true_eq] at h
  exact ⟨h.1, h.2⟩
theorem opens_u32 {P : Program} {t : TypeId} (hc : P.cellsOf t = 1) (ht : P.underlying t = some (.int .u32)) : Opens P t (Kd.int .u32) (fun n => 0 ≤ n ∧ n ≤ 4294967295) := (opens_int hc ht).imp (fun _ h => wf_u32 h)
theorem wf_u64 {n : Int} (h : (Lit.int .u64 n).wf = true) : 0 ≤ n ∧ n ≤ 18446744073709551615 := by
  simp only [Lit.wf, Bool.and_eq_true, decide_eq_true_eq] at h
  exact ⟨h.1, h.2⟩
theorem opens_u64 {P : Program} {t : TypeId} (hc : P.cellsOf t = 1) (ht : P.underlying t = some (.int .u64)) : Opens P t (Kd.int .u64) (fun n => 0 ≤ n ∧ n ≤ 18446744073709551615) := (opens_int hc ht).imp (fun _ h => wf_u64 h)
theorem wf_i64 {n : Int} (h : (Lit.int .i64 n).wf = true) : (-9223372036854775808) ≤ n ∧ n ≤ 9223372036854775807 := by
  simp only [Lit.wf, Bool.and_eq_true, decide_eq_true_eq] at h
  exact ⟨h.1, h.2⟩
theorem opens_i64 {P : Program} {t : TypeId} (hc : P.cellsOf t = 1) (ht : P.underlying t = some (.int .i64)) : Opens P t (Kd.int .i64) (fun n => (-9223372036854775808) ≤ n ∧ n ≤ 9223372036854775807) := (opens_int hc ht).imp (fun _ h => wf_i64 h)

theorem arg_struct {α H : Type} {P : Program} {w : World} {base b0 : Nat} {r : Reach} {spare : Nat → Bool} {held : Bool} {enc : TypeId × Value → H} {t : TypeId} {fs : Array Field} {d : Kd α} {wf : α → Prop} {v : Value} {x : DataW H} {p : List MemPlace}
    (ht : P.underlying t = some (.struct fs)) (hv : Value.okWide P w r b0 t v) (ho : Opens P t d wf) (h : DataW.Trod enc P w base spare held t v x p) : ∃ (cs : List Value) (a : α), v = .agg cs.toArray ∧ d.K w a cs ∧ wf a := by
  obtain ⟨cs, rfl, hsz⟩ := okWide_struct ht hv
  obtain ⟨fuel, hf⟩ := h
  obtain ⟨a, hK, hw⟩ := ho.2 enc w base spare held fuel _ _ hf
  exact ⟨cs.toList, a, by simp, by simpa [Value.cells] using hK, hw⟩
end Go.Proofs.Ytgkjdpdmmlalcaa.Opens
end
section
namespace Go.Proofs.Ytgkjdpdmmlalcaa.F
open Go.RowKit Go.Proofs.YtgkjdpdmmlalcaaW.PrintWords Go.Proofs.YtgkjdpdmmlalcaaW.PrintLast Go.Proofs.YtgkjdpdmmlalcaaW.PrintMore

def wfS83 (x : S83) : Prop := (0 ≤ x.f0 ∧ x.f0 ≤ 18446744073709551615) ∧ ((-9223372036854775808) ≤ x.f1 ∧ x.f1 ≤ 9223372036854775807)
theorem opens_S83 : Opens.Opens Try.prog 83 k83 wfS83 := Opens.opens_iso (fun a => (⟨a.1, a.2⟩ : S83)) (fun _ => rfl) (Opens.opens_struct (by kernel_rfl) Try.underlying83 (Opens.opens_cons rfl (Opens.opens_u64 (by kernel_rfl) (by kernel_rfl)) (Opens.opens_one rfl (Opens.opens_i64 (by kernel_rfl) (by kernel_rfl)))))
def wfS88 (x : S88) : Prop := (0 ≤ x.f0 ∧ x.f0 ≤ 18446744073709551615) ∧ (0 ≤ x.f1 ∧ x.f1 ≤ 18446744073709551615)
theorem opens_S88 : Opens.Opens Try.prog 88 k88 wfS88 := Opens.opens_iso (fun a => (⟨a.1, a.2⟩ : S88)) (fun _ => rfl) (Opens.opens_struct (by kernel_rfl) Try.underlying88 (Opens.opens_cons rfl (Opens.opens_u64 (by kernel_rfl) (by kernel_rfl)) (Opens.opens_one rfl (Opens.opens_u64 (by kernel_rfl) (by kernel_rfl)))))
def wfS41 (x : S41) : Prop := (0 ≤ x.f0 ∧ x.f0 ≤ 4294967295) ∧ ((-9223372036854775808) ≤ x.f1 ∧ x.f1 ≤ 9223372036854775807)
theorem opens_S41 : Opens.Opens Try.prog 41 k41 wfS41 := Opens.opens_iso (fun a => (⟨a.1, a.2⟩ : S41)) (fun _ => rfl) (Opens.opens_struct (by kernel_rfl) Try.underlying41 (Opens.opens_cons rfl (Opens.opens_u32 (by kernel_rfl) (by kernel_rfl)) (Opens.opens_one rfl (Opens.opens_i64 (by kernel_rfl) (by kernel_rfl)))))
end Go.Proofs.Ytgkjdpdmmlalcaa.F
end
section
namespace Go.Proofs.Ytgkjdpdmmlalcaa.F
open Go.RowKit Go.Proofs.YtgkjdpdmmlalcaaW.PrintWords Go.Proofs.YtgkjdpdmmlalcaaW.PrintLast Go.Proofs.YtgkjdpdmmlalcaaW.PrintMore
set_option linter.unusedVariables false
theorem bv_andNot {w : Nat} (x y : BitVec w) : (x &&& ~~~y).toNat + (x &&& y).toNat = x.toNat := by
  have h : (x &&& ~~~y) &&& (x &&& y) = 0#w := by
    ext i hi
    simp
    cases x[i] <;> cases y[i] <;> simp
  rw [← BitVec.toNat_add_of_and_eq_zero h, BitVec.add_eq_or_of_and_eq_zero _ _ h]
  congr 1
  ext i hi
  simp
  cases x[i] <;> cases y[i] <;> simp
theorem andNot64 (a b : Nat) (ha : a < 2 ^ 64) (hb : b < 2 ^ 64) : Go.bits .andNot .u64 a b = (a : Int) - ((a &&& b : Nat) : Int) := by
  have h := bv_andNot (BitVec.ofNat 64 a) (BitVec.ofNat 64 b)
  have e : (BitVec.ofNat 64 a &&& BitVec.ofNat 64 b).toNat = a &&& b := by
    rw [BitVec.toNat_and, BitVec.toNat_ofNat, BitVec.toNat_ofNat, Nat.mod_eq_of_lt ha, Nat.mod_eq_of_lt hb]
  rw [e, BitVec.toNat_ofNat, Nat.mod_eq_of_lt ha] at h
  show IntKind.u64.wrap (((BitVec.ofInt 64 (a : Int) &&& ~~~BitVec.ofInt 64 (b : Int)).toNat : Nat) : Int) = _
  rw [BitVec.ofInt_natCast, BitVec.ofInt_natCast, u64_keep _ (by omega) (by omega)]
  omega
theorem nat_mask_at (x i j : Nat) : x &&& ((2 ^ i - 1) * 2 ^ j) = x / 2 ^ j % 2 ^ i * 2 ^ j := by
  rw [← Nat.shiftLeft_eq, ← Nat.and_two_pow_sub_one_eq_mod, ← Nat.shiftRight_eq_div_pow, ← Nat.shiftLeft_eq]
  apply Nat.eq_of_testBit_eq
  intro k
  simp only [Nat.testBit_and, Nat.testBit_shiftLeft, Nat.testBit_shiftRight, Nat.testBit_two_pow_sub_one]
  by_cases h : j ≤ k
  · simp [h]
  simp [h]
end Go.Proofs.Ytgkjdpdmmlalcaa.F
end
section
set_option linter.unusedVariables false
namespace Go.Proofs.Ytgkjdpdmmlalcaa.F
def byteAt (w : Nat) (k : Nat) : Nat := w / 256 ^ k % 256
def leN : Nat → (Nat → Nat) → Nat
  | 0, _ => 0
  | n + 1, f => f 0 + 256 * leN n (fun i => f (i + 1))
theorem pos256 (n : Nat) : 0 < 256 ^ n := Nat.pow_pos (by decide)
theorem leN_congr : ∀ {n : Nat} {f g : Nat → Nat}, (∀ i, i < n → f i = g i) → leN n f = leN n g
  | 0, _, _, _ => rfl
  | n + 1, f, g, h => by
    unfold leN
    rw [h 0 (by omega), leN_congr (n := n) (fun i hi => h (i + 1) (by omega))]
theorem leN_bytes : ∀ (n o w : Nat), leN n (fun i => byteAt w (o + i)) = w / 256 ^ o % 256 ^ n
  | 0, o, w => by simp [leN, Nat.mod_one]
  | n + 1, o, w => by
    unfold leN
    have e : (fun i => byteAt w (o + (i + 1))) = fun i => byteAt w ((o + 1) + i) := by
      funext i
      rw [Nat.add_assoc, Nat.add_comm 1 i]
    rw [e, leN_bytes n (o + 1) w]
    show byteAt w (o + 0) + 256 * (w / 256 ^ (o + 1) % 256 ^ n) = _
    rw [Nat.add_zero]
    unfold byteAt
    rw [Nat.pow_succ 256 o, ← Nat.div_div_eq_div_mul, Nat.pow_succ 256 n, Nat.mul_comm (256 ^ n) 256, Nat.mod_mul]
theorem word_bytes {w : Nat} (h : w < 256 ^ 8) : leN 8 (byteAt w) = w := by
  have := leN_bytes 8 0 w
  simp only [Nat.zero_add, Nat.pow_zero, Nat.div_one] at this
  rw [this, Nat.mod_eq_of_lt h]
theorem word_ext {w x : Nat} (hw : w < 256 ^ 8) (hx : x < 256 ^ 8) (h : ∀ k, k < 8 → byteAt w k = byteAt x k) : w = x := by
  rw [← word_bytes hw, ← word_bytes hx]
  exact leN_congr h
theorem byteAt_join {a o c : Nat} (ha : a < 256 ^ o) (k : Nat) : byteAt (a + 256 ^ o * c) k = if k < o then byteAt a k else byteAt c (k - o) := by
  unfold byteAt
  by_cases hk : k < o
  · rw [if_pos hk]
    have e : 256 ^ o = 256 ^ k * (256 * 256 ^ (o - k - 1)) := by
      rw [← Nat.mul_assoc, ← Nat.pow_succ, ← Nat.pow_add]
      congr 1
      omega
    rw [e, Nat.mul_assoc, Nat.add_mul_div_left _ _ (pos256 k), Nat.mul_assoc, Nat.add_mul_mod_self_left]
  rw [if_neg hk]
  have e : 256 ^ k = 256 ^ o * 256 ^ (k - o) := by
    rw [← Nat.pow_add]
    congr 1
    omega
  rw [e, ← Nat.div_div_eq_div_mul, Nat.add_mul_div_left _ _ (pos256 o), Nat.div_eq_of_lt ha, Nat.zero_add]
theorem byteAt_mod (w o k : Nat) (hk : k < o) : byteAt (w % 256 ^ o) k = byteAt w k := by
  have h := byteAt_join (a := w % 256 ^ o) (c := w / 256 ^ o) (Nat.mod_lt _ (pos256 o)) k
  rw [Nat.mod_add_div, if_pos hk] at h
  exact h.symm
theorem byteAt_div (w o k : Nat) : byteAt (w / 256 ^ o) k = byteAt w (o + k) := by
  unfold byteAt
  rw [Nat.div_div_eq_div_mul, ← Nat.pow_add]
def putIn (w o m v : Nat) : Nat := w % 256 ^ o + 256 ^ o * (v % 256 ^ m + 256 ^ m * (w / 256 ^ (o + m)))
theorem byteAt_putIn (w o m v k : Nat) : byteAt (putIn w o m v) k = if k < o then byteAt w k else if k < o + m then byteAt v (k - o) else byteAt w k := by
  unfold putIn
  rw [byteAt_join (Nat.mod_lt _ (pos256 o))]
  by_cases h1 : k < o
  · rw [if_pos h1, if_pos h1, byteAt_mod _ _ _ h1]
  rw [if_neg h1, if_neg h1, byteAt_join (Nat.mod_lt _ (pos256 m))]
  by_cases h2 : k < o + m
  · rw [if_pos h2, if_pos (by omega), byteAt_mod _ _ _ (by omega)]
  rw [if_neg h2, if_neg (by omega), byteAt_div]
  congr 1
  omega
theorem putIn_lt {w o m v : Nat} (h : w < 256 ^ 8) (ho : o + m ≤ 8) : putIn w o m v < 256 ^ 8 := by
  unfold putIn
  have h1 : w / 256 ^ (o + m) < 256 ^ (8 - (o + m)) := by
    rw [Nat.div_lt_iff_lt_mul (pos256 _), ← Nat.pow_add]
    rwa [show 8 - (o + m) + (o + m) = 8 by omega]
  have h2 := Nat.mod_lt w (pos256 o)
  have h3 := Nat.mod_lt v (pos256 m)
  have h4 : v % 256 ^ m + 256 ^ m * (w / 256 ^ (o + m)) < 256 ^ m * 256 ^ (8 - (o + m)) := by
    have : 256 ^ m * (w / 256 ^ (o + m)) + 256 ^ m ≤ 256 ^ m * 256 ^ (8 - (o + m)) := by
      rw [← Nat.mul_succ]
      exact Nat.mul_le_mul_left _ h1
    omega
  have h5 : w % 256 ^ o + 256 ^ o * (v % 256 ^ m + 256 ^ m * (w / 256 ^ (o + m))) < 256 ^ o * (256 ^ m * 256 ^ (8 - (o + m))) := by
    have : 256 ^ o * (v % 256 ^ m + 256 ^ m * (w / 256 ^ (o + m))) + 256 ^ o ≤ 256 ^ o * (256 ^ m * 256 ^ (8 - (o + m))) := by
      rw [← Nat.mul_succ]
      exact Nat.mul_le_mul_left _ h4
    omega
  rw [← Nat.pow_add, ← Nat.pow_add, show o + (m + (8 - (o + m))) = 8 by omega] at h5
  exact h5
theorem putIn_eq (w o m v : Nat) : putIn w o m v = w - w / 256 ^ o % 256 ^ m * 256 ^ o + v % 256 ^ m * 256 ^ o := by
  unfold putIn
  have e1 := Nat.mod_add_div w (256 ^ o)
  have e2 := Nat.mod_add_div (w / 256 ^ o) (256 ^ m)
  rw [Nat.div_div_eq_div_mul, ← Nat.pow_add] at e2
  rw [← e2, Nat.mul_add] at e1
  rw [Nat.mul_add, Nat.mul_comm (w / 256 ^ o % 256 ^ m), Nat.mul_comm (v % 256 ^ m)]
  omega
end Go.Proofs.Ytgkjdpdmmlalcaa.F
end
section
namespace Go.Proofs.Ytgkjdpdmmlalcaa.F
open Go.RowKit Go.Shelf Go.Proofs.YtgkjdpdmmlalcaaW.PrintWords Go.Proofs.YtgkjdpdmmlalcaaW.PrintLast Go.Proofs.YtgkjdpdmmlalcaaW.PrintMore
set_option linter.unusedVariables false
set_option linter.unusedSimpArgs false
abbrev SM := S83
abbrev SC := S88
abbrev wfM := wfS83
abbrev wfC := wfS88
abbrev mpV (x : SM) : Int := x.f1
abbrev clV (x : SC) : Int := x.f1
def wrd (m : List SC) (a : Int) : Int := look clK clV a m
def prt (l : List SM) (a : Int) : Int := look mpK mpV a l
def faultS (l : List SM) (a need : Int) : Int := if has mpK (a / 16384) l = true then (if Go.bits .and .i64 (prt l (a / 16384)) need = 0 then 2 else 0) else 1
def askS (l : List SM) (at_ need : Int) : Nat → Int → Int × Int
  | 0, _ => (0, 0)
  | r + 1, i => if (at_ + i) % 18446744073709551616 < at_ then (1, (at_ + i) % 18446744073709551616) else if faultS l ((at_ + i) % 18446744073709551616) need = 0 then askS l at_ need r (i + 1) else (faultS l ((at_ + i) % 18446744073709551616) need, (at_ + i) % 18446744073709551616)
theorem quo_u64 {a b : Int} (h0 : 0 ≤ a) (h1 : a < 18446744073709551616) (hb : 0 < b) : IntKind.u64.wrap (Int.tdiv a b) = a / b := by
  rw [u64w, Int.tdiv_eq_ediv_of_nonneg h0]
  have := Int.ediv_nonneg h0 (Int.le_of_lt hb)
  have h2 : a / b ≤ a := Int.ediv_le_self b h0
  omega
theorem placeFrom_has (a : Int) : ∀ (l : List SM) (i : Nat), decide (placeFrom a l i < 0) = !has mpK a l
  | [], _ => rfl
  | x :: l, i => by
    unfold placeFrom has
    rw [List.any_cons]
    split
    · rename_i h
      rw [decide_eq_true (show mpK x = a from h)]
      simp
    · rename_i h
      rw [decide_eq_false (show ¬ mpK x = a from h), Bool.false_or]
      exact placeFrom_has a l (i + 1)
theorem placeR_has (l : List SM) (a : Int) : decide (placeR l a < 0) = !has mpK a l := placeFrom_has a l 0
theorem ref_place (a : Int) (l : List SM) (m : List SC) (hl : l.length ≤ 1000000) : ∀ k, l.length < k → ferryref03_Place.f k l m a = some (placeR l a) := fun k hk => place_l0 a l m hl k 0 (Nat.zero_le _) (by omega)
theorem low_hit {α : Type} {key val : α → Int} {l : List α} {p : Int} (hr : Rises key l) (h : has key p l = true) : ∃ hj : lowB key p l < l.length, key l[lowB key p l] = p ∧ val l[lowB key p l] = look key val p l := by
  have h1 := has_lowB key (k := p) hr
  have h2 := look_lowB key val (k := p) hr
  rw [h] at h1
  rcases Nat.lt_or_ge (lowB key p l) l.length with hlt | hge
  · refine ⟨hlt, ?_⟩
    rw [List.getElem?_eq_getElem hlt] at h1 h2
    dsimp only at h1 h2
    have h3 := of_decide_eq_true h1.symm
    rw [if_pos h3] at h2
    exact ⟨h3, h2.symm⟩
  · rw [List.getElem?_eq_none hge] at h1
    simp at h1
end Go.Proofs.Ytgkjdpdmmlalcaa.F
end
section
namespace Go.Proofs.Ytgkjdpdmmlalcaa.F
open Go.RowKit Go.Proofs.YtgkjdpdmmlalcaaW.PrintWords Go.Proofs.YtgkjdpdmmlalcaaW.PrintLast Go.Proofs.YtgkjdpdmmlalcaaW.PrintMore
attribute [local go_sem] max2_int min2_int max_two min_two max_three min_three max_four min_four
set_option linter.unusedVariables false
set_option linter.unusedSimpArgs false

theorem eqA83 (d : Nat) (w : World) (x0 y0 : Int) (x1 y1 : Int) :
    (Op.equalIn (d + 2) 83 (.agg #[.int .u64 x0, .int .i64 x1]) (.agg #[.int .u64 y0, .int .i64 y1])).run Try.prog w = .ok (x0 == y0 && (x1 == y1)) w := by
  refine eqA_of Try.underlying83 (by kernel_rfl) ?_
  refine eqf_cons (by rfl) (by go_simp; rfl) (by go_simp; rfl) (by go_simp) ?_
  exact eqf_last (by rfl) (by go_simp; rfl) (by go_simp; rfl) (by go_simp)
end Go.Proofs.Ytgkjdpdmmlalcaa.F
end
section
namespace Go.Proofs.Ytgkjdpdmmlalcaa.F
open Go.RowKit Go.Proofs.YtgkjdpdmmlalcaaW.PrintWords Go.Proofs.YtgkjdpdmmlalcaaW.PrintLast Go.Proofs.YtgkjdpdmmlalcaaW.PrintMore
attribute [local go_sem] max2_int min2_int max_two min_two max_three min_three max_four min_four
set_option linter.unusedVariables false
set_option linter.unusedSimpArgs false

theorem eqA88 (d : Nat) (w : World) (x0 y0 : Int) (x1 y1 : Int) :
    (Op.equalIn (d + 2) 88 (.agg #[.int .u64 x0, .int .u64 x1]) (.agg #[.int .u64 y0, .int .u64 y1])).run Try.prog w = .ok (x0 == y0 && (x1 == y1)) w := by
  refine eqA_of Try.underlying88 (by kernel_rfl) ?_
  refine eqf_cons (by rfl) (by go_simp; rfl) (by go_simp; rfl) (by go_simp) ?_
  exact eqf_last (by rfl) (by go_simp; rfl) (by go_simp; rfl) (by go_simp)
end Go.Proofs.Ytgkjdpdmmlalcaa.F
end
