/- What a value that comes in reads as: kinds of values (whole numbers, bools, strings, slices, structs), opened to any depth. No condition. -/
import Derived.Test.YtijghmpapmfndaaDoorWWords
import Derived.Test.YtijghmpapmfndaaDoorWArr
import Derived.OpenShut
import Derived.ProofKit
import Derived.Deep.Slices
import Derived.SizedLaws
namespace Go.Proofs.YtijghmpapmfndaaDoor.Opens
open Go.ChangeShapes Go.WideShapes Go.RowKit Go.Deep
open Go.Proofs.YtijghmpapmfndaaDoorW.PrintWords

/-- A value of type t, wherever it is read, is of kind d and meets wf. -/
def Opens {α : Type} (P : Program) (t : TypeId) (d : Kd α) (wf : α → Prop) : Prop :=
  P.cellsOf t = d.sz ∧ ∀ {H : Type} (enc : TypeId × Value → H) (w : World) (base : Nat) (spare : Nat → Bool) (held : Bool) (fuel : Nat) (cs : List Value) (x : DataW H × List MemPlace),
    DataW.trod enc P w base spare held fuel t cs = some x → ∃ a : α, d.K w a cs ∧ wf a
theorem opens_int {P : Program} {t : TypeId} {k : IntKind} (hc : P.cellsOf t = 1) (ht : P.underlying t = some (.int k)) : Opens P t (Kd.int k) (fun n => (Lit.int k n).wf = true) :=
  ⟨hc, fun enc w base spare held fuel cs x h => by
    obtain ⟨n, rfl, _, hw⟩ := DataW.trod_int ht h
    exact ⟨n, rfl, hw⟩⟩
theorem opens_bool {P : Program} {t : TypeId} (hc : P.cellsOf t = 1) (ht : P.underlying t = some .bool) : Opens P t Kd.bool (fun _ => True) :=
  ⟨hc, fun enc w base spare held fuel cs x h => by
    cases fuel with
    | zero => simp [DataW.trod] at h
    | succ n =>
      unfold DataW.trod at h
      rw [ht] at h
      split at h <;> simp_all
      rename_i b
      cases b
      · exact .inl rfl
      · exact .inr rfl⟩
theorem opens_string {P : Program} {t : TypeId} (hc : P.cellsOf t = 1) (ht : P.underlying t = some .string) : Opens P t Kd.string (fun s => s.size ≤ maxLen) :=
  ⟨hc, fun enc w base spare held fuel cs x h => by
    obtain ⟨s, rfl, _, hw⟩ := DataW.trod_string ht h
    exact ⟨s, rfl, hw⟩⟩

theorem add_add (a : Addr) (i j : Nat) : (a.add i).add j = a.add (i + j) := by
  obtain ⟨b, o, s⟩ := a
  unfold Addr.add
  by_cases h1 : i = 0
  · subst h1
    simp
  · by_cases h2 : j = 0
    · subst h2
      simp [h1]
    · simp [h1, h2, Nat.add_assoc]
theorem list_of {α : Type} {p : Nat → α → Prop} : ∀ (n : Nat), (∀ i, i < n → ∃ a, p i a) → ∃ l : List α, l.length = n ∧ ∀ (i : Nat) (a : α), l[i]? = some a → p i a
  | 0, _ => ⟨[], rfl, fun i a h => by simp at h⟩
  | n + 1, h => by
    obtain ⟨l, hl, hp⟩ := list_of n (fun i hi => h i (by omega))
    obtain ⟨a, ha⟩ := h n (by omega)
    refine ⟨l ++ [a], by simp [hl], fun i b hb => ?_⟩
    rcases Nat.lt_or_ge i n with hi | hi
    · rw [List.getElem?_append_left (by omega)] at hb
      exact hp i b hb
    · rw [List.getElem?_append_right (by omega)] at hb
      have : i = n := by
        rcases Nat.lt_or_ge (i - l.length) 1 with h1 | h1
        · omega
        · rw [List.getElem?_eq_none (by simpa using h1)] at hb
          cases hb
      subst this
      simp [hl] at hb
      subst hb
      exact ha
theorem opens_slice {α : Type} {P : Program} {t e : TypeId} {d : Kd α} {wf : α → Prop} (hc : P.cellsOf t = 1) (ht : P.underlying t = some (.slice e)) (he : Opens P e d wf) :
    Opens P t (Kd.slice e d) (fun l => l.length ≤ 9223372036854775807 ∧ ∀ x ∈ l, wf x) :=
  ⟨hc, fun enc w base spare held fuel cs x h => by
    rcases open_slice ht h with ⟨rfl, _⟩ | ⟨a, len, cap, m, n, D, Pl, rfl, _, hl, hm, hmm, _, hx⟩
    · exact ⟨[], ⟨none, 0, rfl, Nat.le_refl _, Kd.C_nil d w⟩, by simp, by simp⟩
    · have hlm : len ≤ m := by rw [hmm]; split <;> omega
      obtain ⟨l, hll, hp⟩ := list_of (p := fun i (y : α) => wf y ∧ ∃ c, c.length = d.sz ∧ d.K w y c ∧ ∀ (j : Nat) (u : Value), c[j]? = some u → w.cell? (a.add (i * d.sz + j)) = some u) len (fun i hi => by
        obtain ⟨cs', h1, h2⟩ := hx i (by omega)
        obtain ⟨y, hK, hw⟩ := he.2 enc w base spare held n cs' _ h2
        obtain ⟨_, hlen, hcell⟩ := World.cells?_some h1
        refine ⟨y, hw, cs', d.K_len hK, hK, fun j u hu => ?_⟩
        have hj : j < cs'.length := by
          rcases Nat.lt_or_ge j cs'.length with h' | h'
          · exact h'
          · rw [List.getElem?_eq_none h'] at hu
            cases hu
        have z := hcell j (by omega)
        rw [hu] at z
        rw [← he.1, ← z]
        congr 1
        exact (add_add a _ _).symm)
      have hmax : len ≤ 9223372036854775807 := by unfold maxLen at hm; omega
      refine ⟨l, ⟨some a, cap, by rw [hll], by omega, hll ▸ rfl, by omega, fun _ => ⟨a, rfl, fun j p hj => ?_⟩⟩, by omega, fun y hy => ?_⟩
      · exact (hp j p hj).2
      · obtain ⟨i, hi, e⟩ := List.getElem_of_mem hy
        exact (hp i y (by rw [List.getElem?_eq_getElem hi, e])).1⟩

/-- Fields, one behind the other. -/
structure OpensF {α : Type} (P : Program) (fl : List Field) (off : Nat) (d : Kd α) (wf : α → Prop) : Prop where
  out : ∀ {H : Type} (enc : TypeId × Value → H) (w : World) (base : Nat) (spare : Nat → Bool) (held : Bool) (fuel : Nat) (cs : List Value), cs.length = off + d.sz →
    (∀ (i : Nat) (f : Field), fl[i]? = some f → ∃ y, DataW.trod enc P w base spare held fuel f.type ((cs.drop f.offset).take (P.cellsOf f.type)) = some y) → ∃ a : α, d.K w a (cs.drop off) ∧ wf a
theorem opens_one {α : Type} {P : Program} {f : Field} {off : Nat} {d : Kd α} {wf : α → Prop} (ho : f.offset = off) (h : Opens P f.type d wf) : OpensF P [f] off d wf := by
  constructor
  intro H enc w base spare held fuel cs hl hf
  obtain ⟨y, hy⟩ := hf 0 f rfl
  obtain ⟨a, hK, hw⟩ := h.2 enc w base spare held fuel _ y hy
  have e : (cs.drop f.offset).take (P.cellsOf f.type) = cs.drop off := by
    rw [ho]
    apply List.take_of_length_le
    rw [h.1, List.length_drop]
    omega
  rw [e] at hK
  exact ⟨a, hK, hw⟩
theorem opens_cons {α β : Type} {P : Program} {f : Field} {fl : List Field} {off : Nat} {d : Kd α} {d' : Kd β} {wf : α → Prop} {wf' : β → Prop} (ho : f.offset = off) (h : Opens P f.type d wf) (hr : OpensF P fl (off + d.sz) d' wf') :
    OpensF P (f :: fl) off (Kd.pair d d') (fun x => wf x.1 ∧ wf' x.2) := by
  constructor
  intro H enc w base spare held fuel cs hl hf
  have hl' : cs.length = off + (d.sz + d'.sz) := hl
  obtain ⟨y, hy⟩ := hf 0 f rfl
  obtain ⟨a, hK, hw⟩ := h.2 enc w base spare held fuel _ y hy
  obtain ⟨b, hK', hw'⟩ := hr.out enc w base spare held fuel cs (by omega) (fun i g hg => hf (i + 1) g (by simpa using hg))
  refine ⟨(a, b), ⟨(cs.drop off).take d.sz, cs.drop (off + d.sz), ?_, ?_, hK'⟩, hw, hw'⟩
  · rw [← List.drop_drop, List.take_append_drop]
  · rw [ho, h.1] at hK
    exact hK
theorem opens_struct {α : Type} {P : Program} {t : TypeId} {fs : Array Field} {d : Kd α} {wf : α → Prop} (hc : P.cellsOf t = d.sz) (ht : P.underlying t = some (.struct fs)) (h : OpensF P fs.toList 0 d wf) : Opens P t d wf :=
  ⟨hc, fun enc w base spare held fuel cs x hx => by
    obtain ⟨xs, n, _, _, hl, hlen, hf⟩ := DataW.trod_struct ht hx
    have z := h.out enc w base spare held n cs (by omega) (fun i f hi => by
      have hi' : fs[i]? = some f := by simpa using hi
      have hlt : i < fs.size := by
        rcases Nat.lt_or_ge i fs.size with h' | h'
        · exact h'
        · rw [Array.getElem?_eq_none h'] at hi'
          cases hi'
      rw [hf i f hi', List.getElem?_eq_getElem (by omega)]
      exact ⟨_, rfl⟩)
    simpa using z⟩
/-- A Lean structure in the place of the tuple of its fields. -/
theorem opens_iso {α β : Type} {P : Program} {t : TypeId} {d : Kd α} {wf : α → Prop} {f : β → α} (g : α → β) (hg : ∀ a, f (g a) = a) (h : Opens P t d wf) : Opens P t (Kd.iso d f) (fun b => wf (f b)) :=
  ⟨h.1, fun enc w base spare held fuel cs x hx => by
    obtain ⟨a, hK, hw⟩ := h.2 enc w base spare held fuel cs x hx
    exact ⟨g a, by show d.K w (f (g a)) cs; rw [hg]; exact hK, by show wf (f (g a)); rw [hg]; exact hw⟩⟩

theorem Opens.imp {α : Type} {P : Program} {t : TypeId} {d : Kd α} {wf wf' : α → Prop} (h : Opens P t d wf) (hi : ∀ a, wf a → wf' a) : Opens P t d wf' :=
  ⟨h.1, fun enc w base spare held fuel cs x hx => by
    obtain ⟨a, hK, hw⟩ := h.2 enc w base spare held fuel cs x hx
    exact ⟨a, hK, hi a hw⟩⟩
theorem wf_u8 {n : Int} (h : (Lit.int .u8 n).wf = true) : 0 ≤ n ∧ n ≤ 255 := by
  simp only [Lit.wf, Bool.and_eq_true, decide_eq_true_eq] at h
  exact ⟨h.1, h.2⟩
theorem opens_u8 {P : Program} {t : TypeId} (hc : P.cellsOf t = 1) (ht : P.underlying t = some (.int .u8)) : Opens P t (Kd.int .u8) (fun n => 0 ≤ n ∧ n ≤ 255) := (opens_int hc ht).imp (fun _ h => wf_u8 h)
theorem wf_u16 {n : Int} (h : (Lit.int .u16 n).wf = true) : 0 ≤ n ∧ n ≤ 65535 := by
  simp only [Lit.wf, Bool.and_eq_true, decide_eq_true_eq] at h
  exact ⟨h.1, h.2⟩
theorem opens_u16 {P : Program} {t : TypeId} (hc : P.cellsOf t = 1) (ht : P.underlying t = some (.int .u16)) : Opens P t (Kd.int .u16) (fun n => 0 ≤ n ∧ n ≤ 65535) := (opens_int hc ht).imp (fun _ h => wf_u16 h)
theorem wf_u32 {n : Int} (h : (Lit.int .u32 n).wf = true) : 0 ≤ n ∧ n ≤ 4294967295 := by
  simp only [Lit.wf, Bool.and_eq_true, decide_eq_true_eq] at h
  exact ⟨h.1, h.2⟩
theorem opens_u32 {P : Program} {t : TypeId} (hc : P.cellsOf t = 1) (ht : P.underlying t = some (.int .u32)) : Opens P t (Kd.int .u32) (fun n => 0 ≤ n ∧ n ≤ 4294967295) := (opens_int hc ht).imp (fun _ h => wf_u32 h)
theorem wf_u64 {n : Int} (h : (Lit.int .u64 n).wf = true) : 0 ≤ n ∧ n ≤ 18446744073709551615 := by
  simp only [Lit.wf, Bool.and_eq_true, decide_eq_true_eq] at h
  exact ⟨h.1, h.2⟩
theorem opens_u64 {P : Program} {t : TypeId} (hc : P.cellsOf t = 1) (ht : P.underlying t = some (.int .u64)) : Opens P t (Kd.int .u64) (fun n => 0 ≤ n ∧ n ≤ 18446744073709551615) := (opens_int hc ht).imp (fun _ h => wf_u64 h)
theorem wf_i8 {n : Int} (h : (Lit.int .i8 n).wf = true) : (-128) ≤ n ∧ n ≤ 127 := by
  simp only [Lit.wf, Bool.and_eq_true, decide_eq_true_eq] at h
  exact ⟨h.1, h.2⟩
theorem opens_i8 {P : Program} {t : TypeId} (hc : P.cellsOf t = 1) (ht : P.underlying t = some (.int .i8)) : Opens P t (Kd.int .i8) (fun n => (-128) ≤ n ∧ n ≤ 127) := (opens_int hc ht).imp (fun _ h => wf_i8 h)
theorem wf_i16 {n : Int} (h : (Lit.int .i16 n).wf = true) : (-32768) ≤ n ∧ n ≤ 32767 := by
  simp only [Lit.wf, Bool.and_eq_true, decide_eq_true_eq] at h
  exact ⟨h.1, h.2⟩
theorem opens_i16 {P : Program} {t : TypeId} (hc : P.cellsOf t = 1) (ht : P.underlying t = some (.int .i16)) : Opens P t (Kd.int .i16) (fun n => (-32768) ≤ n ∧ n ≤ 32767) := (opens_int hc ht).imp (fun _ h => wf_i16 h)
theorem wf_i32 {n : Int} (h : (Lit.int .i32 n).wf = true) : (-2147483648) ≤ n ∧ n ≤ 2147483647 := by
  simp only [Lit.wf, Bool.and_eq_true, decide_eq_true_eq] at h
  exact ⟨h.1, h.2⟩
theorem opens_i32 {P : Program} {t : TypeId} (hc : P.cellsOf t = 1) (ht : P.underlying t = some (.int .i32)) : Opens P t (Kd.int .i32) (fun n => (-2147483648) ≤ n ∧ n ≤ 2147483647) := (opens_int hc ht).imp (fun _ h => wf_i32 h)
theorem wf_i64 {n : Int} (h : (Lit.int .i64 n).wf = true) : (-9223372036854775808) ≤ n ∧ n ≤ 9223372036854775807 := by
  simp only [Lit.wf, Bool.and_eq_true, decide_eq_true_eq] at h
  exact ⟨h.1, h.2⟩
theorem opens_i64 {P : Program} {t : TypeId} (hc : P.cellsOf t = 1) (ht : P.underlying t = some (.int .i64)) : Opens P t (Kd.int .i64) (fun n => (-9223372036854775808) ≤ n ∧ n ≤ 9223372036854775807) := (opens_int hc ht).imp (fun _ h => wf_i64 h)

/-- A slice that came in is no longer than its weight allows. -/
theorem sized_slice {H : Type} {enc : TypeId × Value → H} {P : Program} {W : World} {base : Nat} {spare : Nat → Bool} {held : Bool} {t e : TypeId} {a : Option Addr} {len cap : Nat} {d : DataW H} {ps : List MemPlace} {ts : List TypeId} {ds : List (DataW H)} {j : Nat}
    (hsz : (DataW.weightsEach P ts ds).all (· ≤ reachBytes) = true) (ht : ts[j]? = some t) (hd : ds[j]? = some d) (hu : P.underlying t = some (.slice e)) {B : Nat} (hB : P.bytesOf e = B)
    (h : DataW.Trod enc P W base spare held t (.slice a len cap) d ps) : len * B ≤ 140737488351232 := by
  obtain ⟨fuel, hf⟩ := h
  rcases open_slice hu hf with ⟨hcs, _⟩ | ⟨x, l, c, m, n, D, Pl, hcs, _, hl, _, hmm, hx, _⟩
  · simp [Value.cells] at hcs
    obtain ⟨rfl, rfl, rfl⟩ := hcs
    simp
  · simp [Value.cells] at hcs
    obtain ⟨rfl, rfl, rfl⟩ := hcs
    obtain ⟨hx, _⟩ := Prod.mk.inj hx
    subst hx
    have z := _root_.Go.sized_slice hsz ht hd hu
    rw [hB] at z
    simp at z
    exact Nat.le_trans (Nat.mul_le_mul_right _ (by omega)) z

/-- An array. -/
theorem opens_arr {α : Type} {P : Program} {t e : TypeId} {n : Nat} {d : Kd α} {wf : α → Prop} (hs : 0 < d.sz) (hc : P.cellsOf t = n * d.sz) (ht : P.underlying t = some (.array n e)) (he : Opens P e d wf) :
    Opens P t (Kd.arr n d hs) (fun l => l.length = n ∧ ∀ x ∈ l, wf x) :=
  ⟨hc, fun enc w base spare held fuel cs x h => by
    obtain ⟨xs, m, _, _, hl, hlen, hx⟩ := DataW.trod_array ht h
    obtain ⟨l, hll, hp⟩ := list_of (p := fun i (y : α) => wf y ∧ d.K w y ((cs.drop (i * d.sz)).take d.sz)) n (fun i hi => by
      have z := hx i hi
      rw [List.getElem?_eq_getElem (by omega), he.1] at z
      obtain ⟨y, hK, hw⟩ := he.2 enc w base spare held m _ _ z
      exact ⟨y, hw, hK⟩)
    refine ⟨l, ⟨hll, by rw [hl, hc, hll], fun j p hj => (hp j p hj).2⟩, hll, fun y hy => ?_⟩
    obtain ⟨i, hi, e⟩ := List.getElem_of_mem hy
    exact (hp i y (by rw [List.getElem?_eq_getElem hi, e])).1⟩
theorem arg_arr {α H : Type} {P : Program} {w : World} {base b0 : Nat} {r : Reach} {spare : Nat → Bool} {held : Bool} {enc : TypeId × Value → H} {t e : TypeId} {n : Nat} {d : Kd α} {wf : α → Prop} {v : Value} {x : DataW H} {p : List MemPlace}
    (ht : P.underlying t = some (.array n e)) (hv : Value.okWide P w r b0 t v) (ho : Opens P t d wf) (h : DataW.Trod enc P w base spare held t v x p) : ∃ (cs : List Value) (a : α), v = .agg cs.toArray ∧ d.K w a cs ∧ wf a := by
  unfold Value.okWide at hv
  rw [ht] at hv
  obtain ⟨cs, rfl, hsz, _⟩ := hv
  obtain ⟨fuel, hf⟩ := h
  obtain ⟨a, hK, hw⟩ := ho.2 enc w base spare held fuel _ _ hf
  exact ⟨cs.toList, a, by simp, by simpa [Value.cells] using hK, hw⟩

/-- An argument that is no struct: one cell. -/
theorem arg_one {α H : Type} {P : Program} {w : World} {base : Nat} {spare : Nat → Bool} {held : Bool} {enc : TypeId × Value → H} {t : TypeId} {d : Kd α} {wf : α → Prop} {v : Value} {x : DataW H} {p : List MemPlace} (hv : v.cells = #[v])
    (ho : Opens P t d wf) (h : DataW.Trod enc P w base spare held t v x p) : ∃ a : α, d.K w a [v] ∧ wf a := by
  obtain ⟨fuel, hf⟩ := h
  rw [hv] at hf
  exact ho.2 enc w base spare held fuel _ _ hf
/-- A struct by value. -/
theorem arg_struct {α H : Type} {P : Program} {w : World} {base b0 : Nat} {r : Reach} {spare : Nat → Bool} {held : Bool} {enc : TypeId × Value → H} {t : TypeId} {fs : Array Field} {d : Kd α} {wf : α → Prop} {v : Value} {x : DataW H} {p : List MemPlace}
    (ht : P.underlying t = some (.struct fs)) (hv : Value.okWide P w r b0 t v) (ho : Opens P t d wf) (h : DataW.Trod enc P w base spare held t v x p) : ∃ (cs : List Value) (a : α), v = .agg cs.toArray ∧ d.K w a cs ∧ wf a := by
  obtain ⟨cs, rfl, hsz⟩ := okWide_struct ht hv
  obtain ⟨fuel, hf⟩ := h
  obtain ⟨a, hK, hw⟩ := ho.2 enc w base spare held fuel _ _ hf
  exact ⟨cs.toList, a, by simp, by simpa [Value.cells] using hK, hw⟩
end Go.Proofs.YtijghmpapmfndaaDoor.Opens
