import Derived.Below
import Derived.Deep.Draws
import Derived.Deep.AppendLies
import Derived.Maps.AppendAt
import Derived.OwnWalk
import Derived.Laws.BytesArg
import Derived.Laws.MakeOwn
import Derived.Laws.OwnMore
import Derived.Deep.OwnRows
import Derived.Tactics
import Derived.Lib.ConvBytes
import Derived.Laws.Slices
import Derived.WalkKit
import Derived.KernelRfl
import Derived.RowKit3
import Derived.Deep.LoopGhost
import Derived.Deep.QuietTactic
import Derived.BigQuiet
import Derived.WideLaws
import Derived.Deep.DeepCutAuto
import Derived.Deep.CutBlock
import Derived.Deep.RegionHeld3
import Derived.Laws.Rows
import Derived.Lib.AppendStr
import Derived.ArgAppend
import Derived.Laws.IdiomCopy
import Derived.RowKit
import Derived.OpenShut
import Derived.ProofKit
import Derived.Deep.Slices
import Derived.SizedLaws
import Derived.OrdersHeld
import Derived.Laws.BitsLemmas
import Derived.Laws.StructEq
import Derived.Test.YtonoabknmmecnaaZF0
import Derived.Test.YtonoabknmmecnaaYA13
import Derived.Test.YtonoabknmmecnaaYC17
section
namespace Go.Proofs.Ytonoabknmmecnaa.Opens
open Go.ChangeShapes Go.WideShapes Go.RowKit Go.Deep
open Go.Proofs.YtonoabknmmecnaaW.PrintWords

theorem opens_int {P : Program} {t : TypeId} {k : IntKind} (hc : P.cellsOf t = 1) (ht : P.underlying t = some (.int k)) : Opens P t (Kd.int k) (fun n => (Lit.int k n).wf = true) :=
  ⟨hc, fun enc w base spare held fuel cs x h => by
    obtain ⟨n, rfl, _, hw⟩ := DataW.trod_int ht h
    exact ⟨n, rfl, hw⟩⟩
theorem opens_bool {P : Program} {t : TypeId} (hc : P.cellsOf t = 1) (ht : P.underlying t = some .bool) : Opens P t Kd.bool (fun _ => True) :=
  ⟨hc, fun enc w base spare held fuel cs x h => by
    cases fuel with
    | zero => simp [DataW.trod] at h
    | succ n =>
      unfold DataW.trod at h
      rw [ht] at h
      split at h <;> simp_all
      rename_i b
      cases b
      · exact .inl rfl
      · exact .inr rfl⟩
theorem add_add (a : Addr) (i j : Nat) : (a.add i).add j = a.add (i + j) := by
  obtain ⟨b, o, s⟩ := a
  unfold Addr.add
  by_cases h1 : i = 0
  · subst h1
    simp
  · by_cases h2 : j = 0
    · subst h2
      simp [h1]
    · simp [h1, h2, Nat.add_assoc]
theorem list_of {α : Type} {p : Nat → α → Prop} : ∀ (n : Nat), (∀ i, i < n → ∃ a, p i a) → ∃ l : List α, l.length = n ∧ ∀ (i : Nat) (a : α), l[i]? = some a → p i a
  | 0, _ => ⟨[], rfl, fun i a h => by simp at h⟩
  | n + 1, h => by
    obtain ⟨l, hl, hp⟩ := list_of n (fun i hi => h i (by omega))
    obtain ⟨a, ha⟩ := h n (by omega)
    refine ⟨l ++ [a], by simp [hl], fun i b hb => ?_⟩
    rcases Nat.lt_or_ge i n with hi | hi
    · rw [List.getElem?_append_left (by omega)] at hb
      exact hp i b hb
    · rw [List.getElem?_append_right (by omega)] at hb
      have : i = n := by
        rcases Nat.lt_or_ge (i - l.length) 1 with h1 | h1
        · omega
        · rw [List.getElem?_eq_none (by simpa using h1)] at hb
          cases hb
      subst this
      simp [hl] at hb
      subst hb
      exact ha
theorem opens_slice {α : Type} {P : Program} {t e : TypeId} {d : Kd α} {wf : α → Prop} (hc : P.cellsOf t = 1) (ht : P.underlying t = some (.slice e)) (he : Opens P e d wf) :
    Opens P t (Kd.slice e d) (fun l => l.length ≤ 9223372036854775807 ∧ ∀ x ∈ l, wf x) :=
  ⟨hc, fun enc w base spare held fuel cs x h => by
    rcases open_slice ht h with ⟨rfl, _⟩ | ⟨a, len, cap, m, n, D, Pl, rfl, _, hl, hm, hmm, _, hx⟩
    · exact ⟨[], ⟨none, 0, rfl, Nat.le_refl _, Kd.C_nil d w⟩, by simp, by simp⟩
    · have hlm : len ≤ m := by rw [hmm]; split <;> omega
      obtain ⟨l, hll, hp⟩ := list_of (p := fun i (y : α) => wf y ∧ ∃ c, c.length = d.sz ∧ d.K w y c ∧ ∀ (j : Nat) (u : Value), c[j]? = some u → w.cell? (a.add (i * d.sz + j)) = some u) len (fun i hi => by
        obtain ⟨cs', h1, h2⟩ := hx i (by omega)
        obtain ⟨y, hK, hw⟩ := he.2 enc w base spare held n cs' _ h2
        obtain ⟨_, hlen, hcell⟩ := World.cells?_some h1
        refine ⟨y, hw, cs', d.K_len hK, hK, fun j u hu => ?_⟩
        have hj : j < cs'.length := by
          rcases Nat.lt_or_ge j cs'.length with h' | h'
          · exact h'
          · rw [List.getElem?_eq_none h'] at hu
            cases hu
        have z := hcell j (by omega)
        rw [hu] at z
        rw [← he.1, ← z]
        congr 1
        exact (add_add a _ _).symm)
      have hmax : len ≤ 9223372036854775807 := by unfold maxLen at hm; omega
      refine ⟨l, ⟨some a, cap, by rw [hll], by omega, hll ▸ rfl, by omega, fun _ => ⟨a, rfl, fun j p hj => ?_⟩⟩, by omega, fun y hy => ?_⟩
      · exact (hp j p hj).2
      · obtain ⟨i, hi, e⟩ := List.getElem_of_mem hy
        exact (hp i y (by rw [List.getElem?_eq_getElem hi, e])).1⟩

structure OpensF {α : Type} (P : Program) (fl : List Field) (off : Nat) (d : Kd α) (wf : α → Prop) : Prop where
  out : ∀ {H : Type} (enc : TypeId × Value → H) (w : World) (base : Nat) (spare : Nat → Bool) (held : Bool) (fuel : Nat) (cs : List Value), cs.length = off + d.sz →
    (∀ (i : Nat) (f : Field), fl[i]? = some f → ∃ y, DataW.trod enc P w base spare held fuel f.type ((cs.drop f.offset).take (P.cellsOf f.type)) = some y) → ∃ a : α, d.K w a (cs.drop off) ∧ wf a
theorem opens_one {α : Type} {P : Program} {f : Field} {off : Nat} {d : Kd α} {wf : α → Prop} (ho : f.offset = off) (h : Opens P f.type d wf) : OpensF P [f] off d wf := by
  constructor
  intro H enc w base spare held fuel cs hl hf
  obtain ⟨y, hy⟩ := hf 0 f rfl
  obtain ⟨a, hK, hw⟩ := h.2 enc w base spare held fuel _ y hy
  have e : (cs.drop f.offset).take (P.cellsOf f.type) = cs.drop off := by
    rw [ho]
    apply List.take_of_length_le
    rw [h.1, List.length_drop]
    omega
  rw [e] at hK
  exact ⟨a, hK, hw⟩
theorem opens_cons {α β : Type} {P : Program} {f : Field} {fl : List Field} {off : Nat} {d : Kd α} {d' : Kd β} {wf : α → Prop} {wf' : β → Prop} (ho : f.offset = off) (h : Opens P f.type d wf) (hr : OpensF P fl (off + d.sz) d' wf') :
    OpensF P (f :: fl) off (Kd.pair d d') (fun x => wf x.1 ∧ wf' x.2) := by
  constructor
  intro H enc w base spare held fuel cs hl hf
  have hl' : cs.length = off + (d.sz + d'.sz) := hl
  obtain ⟨y, hy⟩ := hf 0 f rfl
  obtain ⟨a, hK, hw⟩ := h.2 enc w base spare held fuel _ y hy
  obtain ⟨b, hK', hw'⟩ := hr.out enc w base spare held fuel cs (by omega) (fun i g hg => hf (i + 1) g (by simpa using hg))
  refine ⟨(a, b), ⟨(cs.drop off).take d.sz, cs.drop (off + d.sz), ?_, ?_, hK'⟩, hw, hw'⟩
  · rw [← List.drop_drop, List.take_append_drop]
  · rw [ho, h.1] at hK
    exact hK
theorem opens_struct {α : Type} {P : Program} {t : TypeId} {fs : Array Field} {d : Kd α} {wf : α → Prop} (hc : P.cellsOf t = d.sz) (ht : P.underlying t = some (.struct fs)) (h : OpensF P fs.toList 0 d wf) : Opens P t d wf :=
  ⟨hc, fun enc w base spare held fuel cs x hx => by
    obtain ⟨xs, n, _, _, hl, hlen, hf⟩ := DataW.trod_struct ht hx
    have z := h.out enc w base spare held n cs (by omega) (fun i f hi => by
      have hi' : fs[i]? = some f := by simpa using hi
      have hlt : i < fs.size := by
        rcases Nat.lt_or_ge i fs.size with h' | h'
        · exact h'
        · rw [Array.getElem?_eq_none h'] at hi'
          cases hi'
      rw [hf i f hi', List.getElem?_eq_getElem (by omega)]
      exact ⟨_, rfl⟩)
    simpa using z⟩
theorem opens_iso {α β : Type} {P : Program} {t : TypeId} {d : Kd α} {wf : α → Prop} {f : β → α} (g : α → β) (hg : ∀ a, f (g a) = a) (h : Opens P t d wf) : Opens P t (Kd.iso d f) (fun b => wf (f b)) :=
  ⟨h.1, fun enc w base spare held fuel cs x hx => by
    obtain ⟨a, hK, hw⟩ := h.2 enc w base spare held fuel cs x hx
    exact ⟨g a, by show d.K w (f (g a)) cs; rw [hg]; exact hK, by show wf (f (g a)); rw [hg]; exact hw⟩⟩

theorem opens_u32 {P : Program} {t : TypeId} (hc : P.cellsOf t = 1) (ht : P.underlying t = some (.int .u32)) : Opens P t (Kd.int .u32) (fun n => 0 ≤ n ∧ n ≤ 4294967295) := (opens_int hc ht).imp (fun _ h => wf_u32 h)
theorem wf_i64 {n : Int} (h : (Lit.int .i64 n).wf = true) : (-9223372036854775808) ≤ n ∧ n ≤ 9223372036854775807 := by
  simp only [Lit.wf, Bool.and_eq_true, decide_eq_true_eq] at h
  exact ⟨h.1, h.2⟩
theorem opens_i64 {P : Program} {t : TypeId} (hc : P.cellsOf t = 1) (ht : P.underlying t = some (.int .i64)) : Opens P t (Kd.int .i64) (fun n => (-9223372036854775808) ≤ n ∧ n ≤ 9223372036854775807) := (opens_int hc ht).imp (fun _ h => wf_i64 h)

theorem arg_struct {α H : Type} {P : Program} {w : World} {base b0 : Nat} {r : Reach} {spare : Nat → Bool} {held : Bool} {enc : TypeId × Value → H} {t : TypeId} {fs : Array Field} {d : Kd α} {wf : α → Prop} {v : Value} {x : DataW H} {p : List MemPlace}
    (ht : P.underlying t = some (.struct fs)) (hv : Value.okWide P w r b0 t v) (ho : Opens P t d wf) (h : DataW.Trod enc P w base spare held t v x p) : ∃ (cs : List Value) (a : α), v = .agg cs.toArray ∧ d.K w a cs ∧ wf a := by
  obtain ⟨cs, rfl, hsz⟩ := okWide_struct ht hv
  obtain ⟨fuel, hf⟩ := h
  obtain ⟨a, hK, hw⟩ := ho.2 enc w base spare held fuel _ _ hf
  exact ⟨cs.toList, a, by simp, by simpa [Value.cells] using hK, hw⟩
end Go.Proofs.Ytonoabknmmecnaa.Opens
end
section
namespace Go.Proofs.Ytonoabknmmecnaa.F
open Go.RowKit Go.Proofs.YtonoabknmmecnaaW.PrintWords Go.Proofs.YtonoabknmmecnaaW.PrintLast Go.Proofs.YtonoabknmmecnaaW.PrintMore

theorem opens_S39 : Opens.Opens Try.prog 39 k39 wfS39 := Opens.opens_iso (fun a => (⟨a.1, a.2.1, a.2.2.1, a.2.2.2.1, a.2.2.2.2.1, a.2.2.2.2.2.1, a.2.2.2.2.2.2⟩ : S39)) (fun _ => rfl) (Opens.opens_struct (by kernel_rfl) Try.underlying39 (Opens.opens_cons rfl (Opens.opens_i64 (by kernel_rfl) (by kernel_rfl)) (Opens.opens_cons rfl (Opens.opens_u32 (by kernel_rfl) (by kernel_rfl)) (Opens.opens_cons rfl (Opens.opens_u32 (by kernel_rfl) (by kernel_rfl)) (Opens.opens_cons rfl (Opens.opens_u32 (by kernel_rfl) (by kernel_rfl)) (Opens.opens_cons rfl (Opens.opens_u32 (by kernel_rfl) (by kernel_rfl)) (Opens.opens_cons rfl (Opens.opens_i64 (by kernel_rfl) (by kernel_rfl)) (Opens.opens_one rfl (Opens.opens_u32 (by kernel_rfl) (by kernel_rfl))))))))))
end Go.Proofs.Ytonoabknmmecnaa.F
end
