import Derived.Test.YtgkjdpdmmlalcaaVZF0
import Derived.Test.YtgkjdpdmmlalcaaVA0
import Derived.Test.YtgkjdpdmmlalcaaVA4HHost3
import Derived.Test.YtgkjdpdmmlalcaaVA11
import Derived.Test.YtgkjdpdmmlalcaaVA13
import Derived.Test.YtgkjdpdmmlalcaaVA14HGuest4
import Derived.Test.YtgkjdpdmmlalcaaVA15
import Derived.Test.YtgkjdpdmmlalcaaVA16HGuest7
import Derived.Test.YtgkjdpdmmlalcaaVA17
section
namespace Go.Proofs.Ytgkjdpdmmlalcaa.F
open Go.RowKit Go.Proofs.YtgkjdpdmmlalcaaW.PrintWords Go.Proofs.YtgkjdpdmmlalcaaW.PrintLast Go.Proofs.YtgkjdpdmmlalcaaW.PrintMore
attribute [local go_sem] max2_int min2_int max_two min_two max_three min_three max_four min_four
set_option linter.unusedVariables false
set_option linter.unusedSimpArgs false

def gmap_hint.f (l0_0 : List (S83)) (l0_1 : List (S88)) (a0_2 : Int) (l0_3 : List (S41)) (a0_4 : Int) (a0_5 : Int) (a1 : Int) (a2 : Int) : Option (Bool) := if (Int.tmod a1 4096) = 0 then (if a1 = 0 then (some false) else (if ((((Int.tdiv a1 4096) % 4294967296) + a2) % 4294967296) ≤ 458752 then ((gmap_some.f l0_0 l0_1 a0_2 l0_3 ((Int.tdiv a1 4096) % 4294967296) a2).bind fun t726 => (some (!t726))) else (some false))) else (some false)
set_option maxHeartbeats 8000000 in
set_option maxRecDepth 100000 in
theorem gmap_hint.calls (A0_0 : Option Addr) (c0_0 : Nat) (l0_0 : List (S83)) (A0_1 : Option Addr) (c0_1 : Nat) (l0_1 : List (S88)) (a0_2 : Int) (A0_3 : Option Addr) (c0_3 : Nat) (l0_3 : List (S41)) (a0_4 : Int) (a0_5 : Int) (a1 : Int) (a2 : Int) (r : Bool) (w : World) (hr0_0 : Kd.C k83 w A0_0 l0_0.length l0_0) (hc0_0 : l0_0.length ≤ c0_0) (hr0_1 : Kd.C k88 w A0_1 l0_1.length l0_1) (hc0_1 : l0_1.length ≤ c0_1) (hr0_3 : Kd.C k41 w A0_3 l0_3.length l0_3) (hc0_3 : l0_3.length ≤ c0_3) (h : gmap_hint.f l0_0 l0_1 a0_2 l0_3 a0_4 a0_5 a1 a2 = some r) :
    Calls Try.prog 66 #[.agg #[.slice A0_0 l0_0.length c0_0, .slice A0_1 l0_1.length c0_1, .int .u64 a0_2, .slice A0_3 l0_3.length c0_3, .int .u32 a0_4, .int .u32 a0_5], .int .u32 a1, .int .u32 a2] w fun e w' => e = .returned (.bool r) ∧ Below w.heap.size w w' := by
  have hu63 := Try.underlying63
  have hu29 := Try.underlying29
  have HR0_0 := Aside0.mk hr0_0
  have HC0_0 := Aside0.mk hc0_0
  clear hr0_0 hc0_0
  have HR0_1 := Aside0.mk hr0_1
  have HC0_1 := Aside0.mk hc0_1
  clear hr0_1 hc0_1
  have HR0_3 := Aside0.mk hr0_3
  have HC0_3 := Aside0.mk hc0_3
  clear hr0_3 hc0_3
  have HB := Aside0.mk (Below.refl w.heap.size w)
  have H : (if (Int.tmod a1 4096) = 0 then (if a1 = 0 then (some false) else (if ((((Int.tdiv a1 4096) % 4294967296) + a2) % 4294967296) ≤ 458752 then ((gmap_some.f l0_0 l0_1 a0_2 l0_3 ((Int.tdiv a1 4096) % 4294967296) a2).bind fun t726 => (some (!t726))) else (some false))) else (some false)) = some r := h
  clear h
  by_cases c4 : (Int.tmod a1 4096) = 0
  · rw [if_pos c4] at H
    have c4b0 : ((Int.tmod a1 4096) == 0) = true := beq_iff_eq.mpr c4
    have c4b1 : ((Int.tmod a1 4096) != 0) = false := bne_eq_false_iff_eq.mpr c4
    clear c4
    by_cases c5 : a1 = 0
    · rw [if_pos c5] at H
      have c5b0 : (a1 == 0) = true := beq_iff_eq.mpr c5
      have c5b1 : (a1 != 0) = false := bne_eq_false_iff_eq.mpr c5
      clear c5
      obtain rfl := Option.some.inj H
      go_enter Try.func66, Try.ntmps66
      go_wp2_with (first | ((with_reducible refine gate_dst (N := 3) rfl ?_); refine bE_ 3 #[.slice A0_0 l0_0.length c0_0, .slice A0_1 l0_1.length c0_1, .int .u64 a0_2, .slice A0_3 l0_3.length c0_3, .int .u32 a0_4, .int .u32 a0_5] 63 ?_; intro gb725 hg w6 hbox hb; have BK725 := Aside0.mk hbox; have GW725 := geT_ w.heap.size hg; have GE725 := geT_ w.heap.size hg; replace HB := hB_ hb; clear hb hbox hg))
      go_ret
      exact ⟨r3_, beT_⟩
    rw [if_neg c5] at H
    have c5b0 : (a1 == 0) = false := beq_eq_false_iff_ne.mpr c5
    have c5b1 : (a1 != 0) = true := bne_iff_ne.mpr c5
    by_cases c7 : ((((Int.tdiv a1 4096) % 4294967296) + a2) % 4294967296) ≤ 458752
    · rw [if_pos c7] at H
      have c7b0 : decide (((((Int.tdiv a1 4096) % 4294967296) + a2) % 4294967296) ≤ 458752) = true := decide_eq_true c7
      (try (have c7bs0 := c7b0; simp only [Int.add_emod_emod, Int.emod_add_emod, Int.sub_emod_emod, Int.emod_sub_emod] at c7bs0))
      clear c7
      replace H := Option.bind_eq_some_iff.mp H
      obtain ⟨t726, A80, H⟩ := H
      have A8 := Aside0.mk A80
      clear A80
      obtain rfl := Option.some.inj H
      go_enter Try.func66, Try.ntmps66
      go_wp2_with (first | ((with_reducible refine gate_dst (N := 3) rfl ?_); refine bE_ 3 #[.slice A0_0 l0_0.length c0_0, .slice A0_1 l0_1.length c0_1, .int .u64 a0_2, .slice A0_3 l0_3.length c0_3, .int .u32 a0_4, .int .u32 a0_5] 63 ?_; intro gb725 hg w9 hbox hb; have BK725 := Aside0.mk hbox; have GW725 := geT_ w.heap.size hg; have GE725 := geT_ w.heap.size hg; replace HB := hB_ hb; clear hb hbox hg; obtain ⟨hcz10_0, hcz10_1, hcz10_2, hcz10_3, hcz10_4, hcz10_5, hfz10_0, hfz10_1, hfz10_2, hfz10_3, hfz10_4, hfz10_5⟩ := b6_ BK725.out) | (go_at_call 63; (with_reducible refine (gmap_some.calls _ _ l0_0 _ _ l0_1 a0_2 _ _ l0_3 ((Int.tdiv a1 4096) % 4294967296) a2 t726 _ ?side1 ?side2 ?side3 ?side4 ?side5 ?side6 A8.out).mono ?_); (case side1 => exact cT_ (Kd.C_below HR0_0.out HB.out)); (case side2 => exact HC0_0.out); (case side3 => exact cT_ (Kd.C_below HR0_1.out HB.out)); (case side4 => exact HC0_1.out); (case side5 => exact cT_ (Kd.C_below HR0_3.out HB.out)); (case side6 => exact HC0_3.out); rintro e w11 ⟨rfl, hb⟩; replace BK725 := kB_ BK725 hb; replace HB := hB_ hb; (try clear hb); (try clear hb2); (try clear hk); (try clear hi)))
      go_ret
      exact ⟨r3_, beT_⟩
    rw [if_neg c7] at H
    have c7b0 : decide (((((Int.tdiv a1 4096) % 4294967296) + a2) % 4294967296) ≤ 458752) = false := decide_eq_false c7
    (try (have c7bs0 := c7b0; simp only [Int.add_emod_emod, Int.emod_add_emod, Int.sub_emod_emod, Int.emod_sub_emod] at c7bs0))
    clear c7
    obtain rfl := Option.some.inj H
    go_enter Try.func66, Try.ntmps66
    go_wp2_with (first | ((with_reducible refine gate_dst (N := 3) rfl ?_); refine bE_ 3 #[.slice A0_0 l0_0.length c0_0, .slice A0_1 l0_1.length c0_1, .int .u64 a0_2, .slice A0_3 l0_3.length c0_3, .int .u32 a0_4, .int .u32 a0_5] 63 ?_; intro gb725 hg w12 hbox hb; have BK725 := Aside0.mk hbox; have GW725 := geT_ w.heap.size hg; have GE725 := geT_ w.heap.size hg; replace HB := hB_ hb; clear hb hbox hg))
    go_ret
    exact ⟨r3_, beT_⟩
  rw [if_neg c4] at H
  have c4b0 : ((Int.tmod a1 4096) == 0) = false := beq_eq_false_iff_ne.mpr c4
  have c4b1 : ((Int.tmod a1 4096) != 0) = true := bne_iff_ne.mpr c4
  obtain rfl := Option.some.inj H
  go_enter Try.func66, Try.ntmps66
  go_wp2_with (first | ((with_reducible refine gate_dst (N := 3) rfl ?_); refine bE_ 3 #[.slice A0_0 l0_0.length c0_0, .slice A0_1 l0_1.length c0_1, .int .u64 a0_2, .slice A0_3 l0_3.length c0_3, .int .u32 a0_4, .int .u32 a0_5] 63 ?_; intro gb725 hg w13 hbox hb; have BK725 := Aside0.mk hbox; have GW725 := geT_ w.heap.size hg; have GE725 := geT_ w.heap.size hg; replace HB := hB_ hb; clear hb hbox hg))
  go_ret
  exact ⟨r3_, beT_⟩

end Go.Proofs.Ytgkjdpdmmlalcaa.F
end
section
namespace Go.Proofs.Ytgkjdpdmmlalcaa.F
open Go Go.RowKit
variable {F : Fence} {n : Nat} {P : Program}
def StaysB {β : Type} (b : Nat) (I : β → World → Prop) : Prop := ∀ s A B, I s A → Below b A B → I s B
def SeqStopsX {α : Type} (F : Fence) (n : Nat) (P : Program) (g : Nat) (lb : Array Value) (encs : α → Array Value) (T : List α → Prop) (Kp : World → World → Prop) (S Sp : List α → Prop) (N : Nat) (w : World) : Prop :=
  ∀ (l : Nat) (J Jx : List α → World → Prop) (W : World), Below w.heap.size w W → w.heap.size + 2 ≤ W.heap.size → StaysB W.heap.size J → StaysB W.heap.size Jx → (∀ pre V, J pre V → T pre) →
    (∀ pre x V, J pre V → pre.length < N → YieldAt F (n - 1) P l (encs x) V fun e V' => (e = .returned (.bool true) ∧ J (pre ++ [x]) V' ∧ Kp V V') ∨ (e = .returned (.bool false) ∧ Jx (pre ++ [x]) V' ∧ ∀ k o, w.heap.size + 2 ≤ k → V.heap[k]? = some o → o.isCells = false → V'.heap[k]? = some o)) →
    J [] W → CallsIn F n P g (#[.func (.yield l) #[] #[]] ++ lb) W fun e V => (∃ v, e = .returned v) ∧ ((∃ xs, S xs ∧ J xs V) ∨ (∃ pre, Sp pre ∧ Jx pre V))
theorem rangeFunc_X {α : Type} {g : Operand} {ps : Array Tmp} {assign body : Code} {Q : Exit → Act → World → Prop} {a : Act} {w : World}
    (hro : F.round = none) (h1 : 1 ≤ n) {gf : Nat} {lb : Array Value} (hg : a.eval g = .func (.func gf) #[] lb) (hFg : F.fn gf) (eg : ∀ args w, (callFunc gf args).run P w = .ok (.enter gf args) w)
    {encs : α → Array Value} {T : List α → Prop} {Kp : World → World → Prop} {S Sp : List α → Prop} {N : Nat} (hseq : SeqStopsX F (n - 1) P gf lb encs T Kp S Sp N w)
    (hKt : ∀ {A B C : World}, Kp A B → Kp B C → Kp A C) (hKb : ∀ (W : World) (o o' : Obj), W.heap[w.heap.size + 1]? = some o → o.isCells = false → o.isWalk = false → Kp W (W.putObj (w.heap.size + 1) o')) (hps : ∀ x, (encs x).size = ps.size)
    (I : List α → World → Prop) (Ix : Code → List α → World → Prop) (hT : ∀ pre V, I pre V → T pre) (hI : OwnFrom w.heap.size I) (hIx : ∀ c, OwnFrom w.heap.size (Ix c)) (hIb : StaysB w.heap.size I) (hIxb : ∀ c, StaysB w.heap.size (Ix c)) (h0 : I [] w) (a₁ : α → World → Act) (w₁ : α → World → World) (hw₁ : ∀ x W, Below W.heap.size W (w₁ x W)) (hKg : ∀ {A B : World}, Below A.heap.size A B → Kp A B)
    (hassign : ∀ (l : Nat) (x : α) (W : World) (K : Act → World → Prop), K (a₁ x W) (w₁ x W) → assign.wpIn (F.inRound l) (n - 1 - 1) P (Exit.then K (fun _ _ _ => False)) { tmps := (ps.zip (encs x)).foldl (fun t (p, v) => t.setIfInBounds p v) a.tmps, defers := [] } W)
    (hbody : ∀ (l : Nat) (pre : List α) (x : α) (W0 W : World), w.heap.size ≤ W0.heap.size → I pre W → pre.length < N → (∀ k, W0.heap.size ≤ k → W.heap[k]? = (w₁ x W0).heap[k]?) → W.heap.size = (w₁ x W0).heap.size → body.wpIn (F.inRound l) (n - 1 - 1) P (ownPostG w.heap.size Kp I Ix (pre ++ [x]) W) (a₁ x W0) W)
    (hdone : ∀ (D : Nat) (xs : List α) (W : World), w.heap.size ≤ D → S xs → I xs W → W.heap[D]? = some (.deferred (some [])) → Q .normal { a with defers := { target := .collected D, args := #[] } :: a.defers } W)
    (hstop : ∀ (D : Nat) (c : Code) (pre : List α) (W : World), w.heap.size ≤ D → Sp pre → Ix c pre W → W.heap[D]? = some (.deferred (some [])) → c.wpIn F n P Q { a with defers := { target := .collected D, args := #[] } :: a.defers } W) :
    (Code.rangeFunc g ps assign body).wpIn F n P Q a w := by
  apply wpIn_rangeFunc
  intro fn hfn
  rw [hro]
  obtain ⟨rc, hrc⟩ : ∃ rc : LoopState → Option Code → Loop, rc = fun st pe => { state := st, pending := pe, fn, tmps := a.tmps, params := ps, assign, body, defers := w.heap.size } := ⟨_, rfl⟩
  obtain ⟨V, hV⟩ : ∃ V, V = (w.alloc (.deferred (some []))).alloc (.loop (rc .ready none)) := ⟨_, rfl⟩
  have hz : V.heap.size = w.heap.size + 2 := by rw [hV]; simp
  have hL : V.heap[w.heap.size + 1]? = some (.loop (rc .ready none)) := by
    have := World.alloc_heap_new (w.alloc (.deferred (some []))) (.loop (rc .ready none))
    rw [World.size_alloc] at this
    rw [hV]
    exact this
  have hD : V.heap[w.heap.size]? = some (.deferred (some [])) := by
    rw [hV]
    exact (Below.heap_alloc _ _ _ (by simp)).trans (World.alloc_heap_new w _)
  have hIV : I [] V := by
    rw [hV]
    exact hI.alloc _ (hI.alloc _ h0)
  have hbV : Below w.heap.size w V := by
    rw [hV]
    exact ((Below.refl _ w).alloc (Nat.le_refl _) _).alloc (by simp) _
  have hcall := hseq (w.heap.size + 1) (fun pre W => I pre W ∧ W.heap[w.heap.size + 1]? = some (.loop (rc .ready none)) ∧ W.heap[w.heap.size]? = some (.deferred (some [])))
    (fun pre W => ∃ c, Ix c pre W ∧ W.heap[w.heap.size + 1]? = some (.loop (rc .done (some c))) ∧ W.heap[w.heap.size]? = some (.deferred (some []))) V hbV (by omega)
    (fun s A B hs hb => ⟨hIb s A B hs.1 (hb.mono (by omega)), (hb.block _ (by omega)).trans hs.2.1, (hb.block _ (by omega)).trans hs.2.2⟩)
    (fun s A B hs hb => by
      obtain ⟨c, hc, hl, hk⟩ := hs
      exact ⟨c, hIxb c s A B hc (hb.mono (by omega)), (hb.block _ (by omega)).trans hl, (hb.block _ (by omega)).trans hk⟩)
    (fun pre W h => hT pre W h.1) ?round ⟨hIV, hL, hD⟩
  case round =>
    rintro pre x W0 ⟨hi0, hl0, hk0⟩ hlen
    have hlt0 := (Array.getElem?_eq_some_iff.1 hl0).1
    obtain ⟨W, hW⟩ : ∃ W, W = w₁ x W0 := ⟨_, rfl⟩
    have hbW : Below W0.heap.size W0 W := by rw [hW]; exact hw₁ x W0
    have hi : I pre W := hI _ _ _ none hi0 ⟨hbW.os, hbW.tape, hbW.output, hbW.size, fun k hk _ => hbW.block k hk⟩ (fun r e => by cases e)
    have hl : W.heap[w.heap.size + 1]? = some (.loop (rc .ready none)) := (hbW.block _ hlt0).trans hl0
    have hk : W.heap[w.heap.size]? = some (.deferred (some [])) := (hbW.block _ (by omega)).trans hk0
    have hlt := (Array.getElem?_eq_some_iff.1 hl).1
    obtain ⟨B, hB⟩ : ∃ B, B = W.putObj (w.heap.size + 1) (.loop { rc .ready none with state := .busy }) := ⟨_, rfl⟩
    have hlB : B.heap[w.heap.size + 1]? = some (.loop { rc .ready none with state := .busy }) := by rw [hB]; exact World.putObj_heap_same hlt
    have hkB : B.heap[w.heap.size]? = some (.deferred (some [])) := by rw [hB]; exact (World.putObj_heap_other (by omega)).trans hk
    have hwB : Kp W0 B := hKt (hKg hbW) (by rw [hB]; exact hKb _ _ _ hl rfl rfl)
    have hiB : I pre B := by rw [hB]; exact hI.putObj _ hi (by omega) hl rfl
    have hoB : ∀ k, W0.heap.size ≤ k → B.heap[k]? = (w₁ x W0).heap[k]? := fun k hk' => by rw [hB, ← hW]; exact World.putObj_heap_other (by omega)
    have hzB : B.heap.size = (w₁ x W0).heap.size := by rw [hB, ← hW]; simp [World.putObj]
    have hy := run_yield (P := P) (args := encs x) hl0 (by rw [hrc]; exact hps x)
    rw [hrc] at hy
    refine ⟨fn, _, assign, body, hy, roundIn_of_wpIn hfn (hassign _ x W0 _ ⟨B, by rw [hB, ← hW]; exact run_beginRound hl (by rw [hrc]), wpIn_mono (hbody _ pre x W0 B (by omega) hiB hlen hoB hzB) ?_⟩)⟩
    -- how a round ends
    have close : ∀ (j : Option Code) (C : World), KeepsFrom w.heap.size B C → ∃ C', C' = C.putObj (w.heap.size + 1) (.loop (rc (if j.isNone then .ready else .done) j)) ∧ (Instr.endRound (w.heap.size + 1) j).run P C = .ok (.bool j.isNone) C' ∧
        C.heap[w.heap.size + 1]? = some (.loop { rc .ready none with state := .busy }) ∧ C'.heap[w.heap.size + 1]? = some (.loop (rc (if j.isNone then .ready else .done) j)) ∧ C'.heap[w.heap.size]? = some (.deferred (some [])) := fun j C hkC => by
      have hlC := hkC.same _ _ (by omega) hlB rfl
      have hrun := run_endRound (P := P) j hlC
      refine ⟨_, rfl, ?_, hlC, World.putObj_heap_same (Array.getElem?_eq_some_iff.1 hlC).1, (World.putObj_heap_other (by omega)).trans (hkC.same _ _ (Nat.le_refl _) hkB rfl)⟩
      rw [hrc] at hrun ⊢
      exact hrun
    have stop : ∀ (c : Code) (C : World), KeepsFrom w.heap.size B C ∧ Ix c (pre ++ [x]) C → ∃ b C', (Instr.endRound (w.heap.size + 1) (some c)).run P C = .ok b C' ∧
        ((Ending.returned b = .returned (.bool true) ∧ (I (pre ++ [x]) C' ∧ C'.heap[w.heap.size + 1]? = some (.loop (rc .ready none)) ∧ C'.heap[w.heap.size]? = some (.deferred (some []))) ∧ Kp W0 C') ∨
          (Ending.returned b = .returned (.bool false) ∧ (∃ d, Ix d (pre ++ [x]) C' ∧ C'.heap[w.heap.size + 1]? = some (.loop (rc .done (some d))) ∧ C'.heap[w.heap.size]? = some (.deferred (some []))) ∧ ∀ k o, w.heap.size + 2 ≤ k → W0.heap[k]? = some o → o.isCells = false → C'.heap[k]? = some o)) := fun c C h => by
      obtain ⟨C', hC', hrun, hlC, hl2, hk2⟩ := close (some c) C h.1
      refine ⟨_, C', hrun, .inr ⟨rfl, ⟨c, by rw [hC']; exact (hIx c).putObj _ h.2 (by omega) hlC rfl, hl2, hk2⟩, fun k o hk ho hc => ?_⟩⟩
      have h1 : B.heap[k]? = some o := by
        rw [hB]
        exact (World.putObj_heap_other (by omega)).trans ((hbW.block k (Array.getElem?_eq_some_iff.1 ho).1).trans ho)
      rw [hC']
      exact (World.putObj_heap_other (by omega)).trans (h.1.same _ _ (by omega) h1 hc)
    intro e a3 C hp
    cases e with
    | normal =>
      obtain ⟨h1, h2, h3⟩ := hp
      obtain ⟨C', hC', hrun, hlC, hl2, hk2⟩ := close none C h1
      refine ⟨_, C', hrun, .inl ⟨rfl, ⟨?_, hl2, hk2⟩, hKt (hKt hwB h2) ?_⟩⟩
      · rw [hC']
        exact hI.putObj _ h3 (by omega) hlC rfl
      · rw [hC']
        exact hKb _ _ _ hlC rfl rfl
    | ret => exact stop .ret C hp
    | exit id => exact stop (.exit id) C hp
    | goto t => exact stop (.goto t) C hp
    | panic ch => exact hp.elim
    | outgrown => exact hp.elim
  refine ⟨w.heap.size + 1, [{ target := .collected w.heap.size, args := #[] }], V, { target := .fn (.func gf) lb, args := #[.func (.yield (w.heap.size + 1)) #[] #[]] }, V, gf, #[.func (.yield (w.heap.size + 1)) #[] #[]] ++ lb, V, ?_, ?_, ?_, ?_, fun _ => h1, ?_⟩
  · rw [hV, hrc]
    exact run_enterLoop_outer _ _ _ _ _
  · simp only [resolve, hg]
    simp [go_sem]
  · intro f' hf'
    simp [Target.leads] at hf'
    subst hf'
    exact hFg
  · simp [invoke, go_sem, eg]
  · refine hcall.mono ?_
    rintro e C ⟨⟨v, rfl⟩, (⟨xs, hS, hi, hl, hk⟩ | ⟨pre, hSp, c, hi, hl, hk⟩)⟩
    · have hrun := run_endLoop (P := P) hl (by rw [hrc]; simp)
      rw [hrc] at hrun
      exact ⟨none, _, hrun, hdone _ xs _ (Nat.le_refl _) hS (hI.putObj _ hi (by omega) hl rfl) ((World.putObj_heap_other (by omega)).trans hk)⟩
    · have hrun := run_endLoop (P := P) hl (by rw [hrc]; simp)
      rw [hrc] at hrun
      exact ⟨some c, _, hrun, hstop _ c pre _ (Nat.le_refl _) hSp ((hIx c).putObj _ hi (by omega) hl rfl) ((World.putObj_heap_other (by omega)).trans hk)⟩
theorem leaves_marks {fn : Func} {tmps : Array Value} {R : Ending → World → Prop} {B : Nat} {K : World → Prop} (hK : ∀ W D, K W → B ≤ D → W.heap[D]? = some (.deferred (some [])) → K (W.putObj D (.deferred none)))
    (hR : ∀ W, K W → ∃ v, (results fn tmps).run P W = .ok v W ∧ R (.returned v) W) : ∀ (ds : List Nat) (W : World), K W → ds.Nodup → (∀ D ∈ ds, B ≤ D ∧ W.heap[D]? = some (.deferred (some []))) → LeavesInM F n P fn tmps R (ds.map fun D => { target := .collected D, args := #[] }) .returning W
  | [], W, h, _, _ => hR W h
  | D :: ds, W, h, hn, hd => by
    have h1 := hd D (List.mem_cons_self ..)
    have hn2 := List.nodup_cons.1 hn
    refine ⟨by simp, .inl ⟨D, _, rfl, run_takeDeferred h1.2, leaves_marks hK hR ds _ (hK W D h h1.1 h1.2) hn2.2 (fun D' h' => ?_)⟩⟩
    have h2 := hd D' (List.mem_cons_of_mem _ h')
    have hne : D' ≠ D := fun e => hn2.1 (by rw [← e]; exact h')
    exact ⟨h2.1, (World.putObj_heap_other hne).trans h2.2⟩
end Go.Proofs.Ytgkjdpdmmlalcaa.F
end
section
namespace Go.Proofs.Ytgkjdpdmmlalcaa.F
open Go.RowKit Go.Shelf Go.Proofs.YtgkjdpdmmlalcaaW.PrintWords Go.Proofs.YtgkjdpdmmlalcaaW.PrintLast Go.Proofs.YtgkjdpdmmlalcaaW.PrintMore
set_option linter.unusedVariables false
set_option linter.unusedSimpArgs false
attribute [local go_sem] Oper.semAt_some
structure SInv (w0 : World) (B1 B2 B3 B4 : Nat) (gv : Array Value) (a n need : Int) (W : World) : Prop where
  bel : Below w0.heap.size w0 W
  b1 : W.heap[B1]? = some (.cells #[.int .u32 a] 30 (0, 0))
  b2 : W.heap[B2]? = some (.cells #[.int .i64 n] 3 (0, 0))
  b3 : W.heap[B3]? = some (.cells gv 29 (0, 0))
  b4 : W.heap[B4]? = some (.cells #[.int .i64 need] 3 (0, 0))
theorem SInv.below {w0 : World} {B1 B2 B3 B4 : Nat} {gv : Array Value} {a n need : Int} {W W' : World} (h : SInv w0 B1 B2 B3 B4 gv a n need W) (hb : Below W.heap.size W W') : SInv w0 B1 B2 B3 B4 gv a n need W' :=
  ⟨h.bel.trans (hb.mono h.bel.size), blk_below h.b1 hb, blk_below h.b2 hb, blk_below h.b3 hb, blk_below h.b4 hb⟩
theorem SInv.own {w0 : World} {B1 B2 B3 B4 : Nat} {gv : Array Value} {a n need : Int} {W W' : World} {row : Option Nat} (h : SInv w0 B1 B2 B3 B4 gv a n need W) (hg : W.grownBy W' row) (hr : ∀ r, row = some r → w0.heap.size ≤ r ∧ ∃ o : Obj, W.heap[r]? = some o ∧ o.isCells = false) : SInv w0 B1 B2 B3 B4 gv a n need W' :=
  ⟨h.bel.grown hg h.bel.size (fun k e => (hr k e).1), blk_own h.b1 hg (fun r e => (hr r e).2), blk_own h.b2 hg (fun r e => (hr r e).2), blk_own h.b3 hg (fun r e => (hr r e).2), blk_own h.b4 hg (fun r e => (hr r e).2)⟩
end Go.Proofs.Ytgkjdpdmmlalcaa.F
end
section
namespace Go.Proofs.Ytgkjdpdmmlalcaa.F
open Go.RowKit Go.Shelf Go.Proofs.YtgkjdpdmmlalcaaW.PrintWords Go.Proofs.YtgkjdpdmmlalcaaW.PrintLast Go.Proofs.YtgkjdpdmmlalcaaW.PrintMore
set_option linter.unusedVariables false
set_option linter.unusedSimpArgs false
attribute [local go_sem] Oper.semAt_some
def backL (n k : Nat) : List Nat := ((List.range n).drop k).reverse
theorem backL_nil (n : Nat) : backL n n = [] := by simp [backL]
theorem backL_len (n k : Nat) : (backL n k).length = n - k := by simp [backL]
theorem backL_snoc {n k : Nat} (h : k < n) : backL n (k + 1) ++ [k] = backL n k := by
  have h1 : (List.range n).drop k = k :: (List.range n).drop (k + 1) := by
    rw [List.drop_eq_getElem_cons (by simpa using h)]
    simp
  unfold backL
  rw [h1, List.reverse_cons]
structure BInv (w0 : World) (B1 : Nat) (v : Value) (W : World) : Prop where
  bel : Below w0.heap.size w0 W
  b1 : W.heap[B1]? = some (.cells #[v] 27 (0, 0))
theorem BInv.below {w0 : World} {B1 : Nat} {v : Value} {W W' : World} (h : BInv w0 B1 v W) (hb : Below W.heap.size W W') : BInv w0 B1 v W' :=
  ⟨h.bel.trans (hb.mono h.bel.size), blk_below h.b1 hb⟩
theorem BInv.own {w0 : World} {B1 : Nat} {v : Value} {W W' : World} {row : Option Nat} (h : BInv w0 B1 v W) (hg : W.grownBy W' row) (hr : ∀ r, row = some r → w0.heap.size ≤ r ∧ ∃ o : Obj, W.heap[r]? = some o ∧ o.isCells = false) : BInv w0 B1 v W' :=
  ⟨h.bel.grown hg h.bel.size (fun k e => (hr k e).1), blk_own h.b1 hg (fun r e => (hr r e).2)⟩
set_option maxHeartbeats 8000000 in
set_option maxRecDepth 100000 in
theorem gBack1_any (w0 : World) (l B1 : Nat) (A : Option Addr) (c : Nat) (p : List SP) (hr : Kd.C kP w0 A p.length p) (hc : p.length ≤ c) (hp : p.length ≤ 1000000) (J Jx : List Nat → World → Prop) (m : Nat)
    (hY : ∀ pre (x : Nat) W, J pre W → pre.length < p.length → YieldAt Fence.wide (m - 1) Try.prog l #[.int .i64 (x : Int), .agg #[.int .u32 (rd_T41 p (x : Int)).f0, .int .i64 (rd_T41 p (x : Int)).f1]] W fun e W' =>
      (e = .returned (.bool true) ∧ J (pre ++ [x]) W' ∧ (BInv w0 B1 (.slice A p.length c) W → BInv w0 B1 (.slice A p.length c) W')) ∨ (e = .returned (.bool false) ∧ Jx (pre ++ [x]) W'))
    (W : World) (hI : BInv w0 B1 (.slice A p.length c) W) (h0 : J [] W) :
    CallsIn Fence.wide m Try.prog 158 #[.func (.yield l) #[] #[], .pointer (some ⟨B1, 0, none⟩)] W fun e W' => (∃ v, e = .returned v) ∧
      ((∃ ys, ys = backL p.length 0 ∧ J ys W') ∨ (∃ pre, pre <+: backL p.length 0 ∧ Jx pre W')) := by
  have HY := Lib.hid hY
  have HI := Lib.hid hI
  have HJ0 := Lib.hid h0
  have HR := Lib.hid hr
  have HP := Lib.hid hp
  clear hY hI h0 hr hp
  have hu := Try.underlying41
  refine callsIn_of_wp Try.func158 rfl trivial ?_ rfl
  simp only [Try.ntmps158, List.size_toArray, List.length_cons, List.length_nil, Nat.reduceAdd, Nat.reduceSub, Array.replicate_succ, Array.replicate_zero, List.push_toArray, List.append_toArray, List.nil_append, List.cons_append]
  have g1 := (sblk_cell HI.out.b1 0).trans rfl
  gi_wp2
  have e0 := Lib.hid (show wrap64 ((p.length : Int) - 1) = (p.length : Int) - 1 by
    have := HP.out
    unfold wrap64
    omega)
  gi_loopw [3] (fun q wr => ∃ k : Nat, q = .int .i64 ((k : Int) - 1) ∧ k ≤ p.length ∧ J (backL p.length k) wr ∧ BInv w0 B1 (.slice A p.length c) wr) (fun q wr => ((intOf q) + 1).toNat)
  case atStart => exact ⟨p.length, by rw [e0.out], Nat.le_refl _, by rw [backL_nil]; exact HJ0.out, HI.out⟩
  case round =>
    obtain ⟨k, rfl, hk, hJk, hIk⟩ := hrel
    clear g1 HJ0 HI
    have HI := Lib.hid hIk
    have HJ := Lib.hid hJk
    clear hIk hJk
    have q1 := (sblk_cell HI.out.b1 0).trans rfl
    cases k with
    | zero =>
      gi_wp2
      go_end0
      exact ⟨⟨_, rfl⟩, .inl ⟨_, rfl, HJ.out⟩⟩
    | succ k =>
      have hlt : k < p.length := hk
      have HK := Lib.hid hlt
      have e1 : ((k + 1 : Nat) : Int) - 1 = (k : Int) := by omega
      obtain ⟨fn, tmps, assign, body, hy, hR⟩ := HY.out _ k wr HJ.out (by rw [backL_len]; omega)
      obtain ⟨ad, rfl, c0, c1⟩ := at_T41 (Kd.C_below HR.out HI.out.bel) (k : Int) (by omega) (by omega)
      rw [Int.toNat_natCast] at c0 c1
      have ew := Lib.hid (show wrap64 ((k : Int) - 1) = (k : Int) - 1 by have := HP.out; unfold wrap64; omega)
      rw [e1]
      clear hk e1
      gi_wp2
      refine ⟨(fun h => by cases h), hR.mono ?_⟩
      rintro e W3 (⟨rfl, hJ3, hk3⟩ | ⟨rfl, hJx3⟩)
      · have HI3 := Lib.hid (hk3 HI.out)
        have HJ3 := Lib.hid hJ3
        clear hk3 hJ3 hR hy
        gi_wp2
        go_roundw
        case rel =>
          exact ⟨k, by rw [ew.out], Nat.le_of_lt HK.out, by rw [← backL_snoc HK.out]; exact HJ3.out, HI3.out⟩
        case measure =>
          rw [ew.out]
          show ((k : Int) - 1 + 1).toNat < ((k : Int) + 1).toNat
          omega
      · gi_wp2
        refine bodyPost_ret (results_none rfl _ _ _) rfl ?_
        exact ⟨⟨_, rfl⟩, .inr ⟨_, ⟨((List.range p.length).take k).reverse, by rw [backL_snoc HK.out]; unfold backL; rw [← List.reverse_append, List.take_append_drop, List.drop_zero]⟩, hJx3⟩⟩
theorem gBack_stopsX (m : Nat) (w0 : World) (B1 : Nat) (A : Option Addr) (c : Nat) (p : List SP) (hr : Kd.C kP w0 A p.length p) (hc : p.length ≤ c) (hp : p.length ≤ 1000000) (w : World) (hI : BInv w0 B1 (.slice A p.length c) w) :
    SeqStopsX Fence.wide m Try.prog 158 #[.pointer (some ⟨B1, 0, none⟩)] (fun x : Nat => #[.int .i64 (x : Int), .agg #[.int .u32 (rd_T41 p (x : Int)).f0, .int .i64 (rd_T41 p (x : Int)).f1]]) (fun _ => True)
      (fun W W' => BInv w0 B1 (.slice A p.length c) W → BInv w0 B1 (.slice A p.length c) W') (fun xs => xs = backL p.length 0) (fun pre => pre <+: backL p.length 0) p.length w :=
  fun l J Jx W hW _ _ _ _ hY h0 => gBack1_any w0 l B1 A c p hr hc hp J Jx m (fun pre x V hj hl => by
    obtain ⟨fn, t, a, b, hy, hR⟩ := hY pre x V hj hl
    refine ⟨fn, t, a, b, hy, hR.mono ?_⟩
    rintro e V' (h | ⟨h1, h2, _⟩)
    · exact .inl h
    · exact .inr ⟨h1, h2⟩) W (hI.below hW) h0
theorem binv_b {w0 : World} {B1 : Nat} {v : Value} {w : World} (hw : w0.heap.size ≤ w.heap.size) (W : World) (l : Nat) (o o' : Obj) (h0 : w.heap.size ≤ l) (hl : W.heap[l]? = some o) (hc : o.isCells = false) (_ : o.isWalk = false) : BInv w0 B1 v W → BInv w0 B1 v (W.putObj l o') :=
  fun h => h.own (grownBy_putObj' W l o') (fun r e => by cases e; exact ⟨Nat.le_trans hw h0, o, hl, hc⟩)
theorem gBack.calls (v : Value) (A : Option Addr) (n c : Nat) (hv : v = .slice A n c) (w : World) :
    Calls Try.prog 139 #[v] w fun e w' => e = .returned (.func (.func 158) #[] #[.pointer (some ⟨w.heap.size, 0, none⟩)]) ∧ w' = w.alloc (.cells #[v] 27) := by
  subst hv
  go_enter Try.func139, Try.ntmps139
  go_wp2
  go_ret
  exact ⟨rfl, rfl⟩
end Go.Proofs.Ytgkjdpdmmlalcaa.F
end
section
namespace Go.Proofs.Ytgkjdpdmmlalcaa.F
open Go.RowKit Go.Shelf Go.Proofs.YtgkjdpdmmlalcaaW.PrintWords Go.Proofs.YtgkjdpdmmlalcaaW.PrintLast Go.Proofs.YtgkjdpdmmlalcaaW.PrintMore
set_option linter.unusedVariables false
set_option linter.unusedSimpArgs false
attribute [local go_sem] Oper.semAt_some
def inWay (x : SP) (first e : Int) : Bool := decide (x.f0 ≥ first) && decide (x.f0 < e)
def nextP (p : List SP) (first e : Int) : Int := p.foldr (fun x nx => if inWay x first e = true then x.f0 else nx) e
def nextI (p : List SP) (first e : Int) (is : List Nat) : Int := is.foldl (fun nx (i : Nat) => if inWay (rd_T41 p (i : Int)) first e = true then (rd_T41 p (i : Int)).f0 else nx) e
theorem nextI_snoc (p : List SP) (first e : Int) (is : List Nat) (i : Nat) : nextI p first e (is ++ [i]) = if inWay (rd_T41 p (i : Int)) first e = true then (rd_T41 p (i : Int)).f0 else nextI p first e is := by
  unfold nextI
  rw [List.foldl_append]
  rfl
theorem nextI_back (p : List SP) (first e : Int) : ∀ d k : Nat, k + d = p.length → nextI p first e (backL p.length k) = nextP (p.drop k) first e
  | 0, k, h => by
    have e1 : k = p.length := by omega
    subst e1
    rw [backL_nil, List.drop_length]
    rfl
  | d + 1, k, h => by
    have hlt : k < p.length := by omega
    have ih := nextI_back p first e d (k + 1) (by omega)
    rw [← backL_snoc hlt, nextI_snoc, ih, pg_getR hlt]
    have e2 : p.drop k = p[k] :: p.drop (k + 1) := List.drop_eq_getElem_cons hlt
    rw [e2]
    rfl
theorem nextI_all (p : List SP) (first e : Int) : nextI p first e (backL p.length 0) = nextP p first e := by
  have h := nextI_back p first e p.length 0 (Nat.zero_add _)
  rwa [List.drop_zero] at h
theorem nextP_range (first e : Int) (h : first ≤ e) : ∀ p : List SP, first ≤ nextP p first e ∧ nextP p first e ≤ e
  | [] => ⟨h, Int.le_refl _⟩
  | x :: p => by
    have ih := nextP_range first e h p
    show first ≤ (if inWay x first e = true then x.f0 else nextP p first e) ∧ (if inWay x first e = true then x.f0 else nextP p first e) ≤ e
    by_cases c : inWay x first e = true
    · rw [if_pos c]
      unfold inWay at c
      rw [Bool.and_eq_true, decide_eq_true_iff, decide_eq_true_iff] at c
      exact ⟨c.1, Int.le_of_lt c.2⟩
    rw [if_neg c]
    exact ih
def heapB (low high first e : Int) : Bool := decide (low < high) && (decide (first < high) && decide (low < e))
def nextS (p : List SP) (low high n e : Int) : Int := if heapB low high (e - n) e = true then min (nextP p (e - n) e) low else nextP p (e - n) e
theorem nextS_range {p : List SP} {low high n e : Int} (l0 : 0 ≤ low) (n0 : 0 ≤ n) (h : n < e) : 0 ≤ nextS p low high n e ∧ nextS p low high n e ≤ e := by
  have h1 := nextP_range (e - n) e (by omega) p
  unfold nextS
  split <;> omega
def freeGo (p : List SP) (low high n : Int) : Nat → Int → Option (Int × Bool)
  | 0, _ => none
  | k + 1, e => if e > n then (if nextS p low high n e = e then some (e - n, true) else freeGo p low high n k (nextS p low high n e)) else some (0, false)
def RoomE (p : List SP) (low high n e : Int) : Prop := 0 ≤ e ∧ e ≤ 458752 ∧ ∀ r, (∀ k, e.toNat < k → freeGo p low high n k e = some r) → ∀ k, 458752 < k → freeGo p low high n k 458752 = some r
theorem RoomE.start (p : List SP) (low high n : Int) : RoomE p low high n 458752 := ⟨by decide, by decide, fun r h => h⟩
theorem RoomE.step {p : List SP} {low high n e : Int} (h : RoomE p low high n e) (l0 : 0 ≤ low) (n0 : 0 ≤ n) (hn : n < e) (hne : nextS p low high n e ≠ e) : RoomE p low high n (nextS p low high n e) := by
  have h1 := nextS_range (p := p) (high := high) l0 n0 hn
  have h0 := h.1
  refine ⟨h1.1, Int.le_trans h1.2 h.2.1, fun r hr => h.2.2 r (fun k hk => ?_)⟩
  cases k with
  | zero => exact absurd hk (Nat.not_lt_zero _)
  | succ k =>
    rw [freeGo, if_pos hn, if_neg hne]
    exact hr k (by omega)
theorem RoomE.found {p : List SP} {low high n e : Int} (h : RoomE p low high n e) (hn : n < e) (he : nextS p low high n e = e) : ∀ k, 458752 < k → freeGo p low high n k 458752 = some (e - n, true) := h.2.2 _ (fun k hk => by
  cases k with
  | zero => exact absurd hk (Nat.not_lt_zero _)
  | succ k => rw [freeGo, if_pos hn, if_pos he])
theorem RoomE.none {p : List SP} {low high n e : Int} (h : RoomE p low high n e) (hn : ¬ n < e) : ∀ k, 458752 < k → freeGo p low high n k 458752 = some (0, false) := h.2.2 _ (fun k hk => by
  cases k with
  | zero => exact absurd hk (Nat.not_lt_zero _)
  | succ k => rw [freeGo, if_neg hn])
structure MInv (w0 : World) (Bn Bs Bl Bh : Nat) (gv : Array Value) (n low high : Int) (W : World) : Prop where
  bel : Below w0.heap.size w0 W
  bn : W.heap[Bn]? = some (.cells #[.int .u32 n] 30 (0, 0))
  bs : W.heap[Bs]? = some (.cells gv 63 (0, 0))
  bl : W.heap[Bl]? = some (.cells #[.int .u32 low] 30 (0, 0))
  bh : W.heap[Bh]? = some (.cells #[.int .u32 high] 30 (0, 0))
theorem MInv.below {w0 : World} {Bn Bs Bl Bh : Nat} {gv : Array Value} {n low high : Int} {W W' : World} (h : MInv w0 Bn Bs Bl Bh gv n low high W) (hb : Below W.heap.size W W') : MInv w0 Bn Bs Bl Bh gv n low high W' :=
  ⟨h.bel.trans (hb.mono h.bel.size), blk_below h.bn hb, blk_below h.bs hb, blk_below h.bl hb, blk_below h.bh hb⟩
theorem MInv.own {w0 : World} {Bn Bs Bl Bh : Nat} {gv : Array Value} {n low high : Int} {W W' : World} {row : Option Nat} (h : MInv w0 Bn Bs Bl Bh gv n low high W) (hg : W.grownBy W' row) (hr : ∀ r, row = some r → w0.heap.size ≤ r ∧ ∃ o : Obj, W.heap[r]? = some o ∧ o.isCells = false) : MInv w0 Bn Bs Bl Bh gv n low high W' :=
  ⟨h.bel.grown hg h.bel.size (fun k e => (hr k e).1), blk_own h.bn hg (fun r e => (hr r e).2), blk_own h.bs hg (fun r e => (hr r e).2), blk_own h.bl hg (fun r e => (hr r e).2), blk_own h.bh hg (fun r e => (hr r e).2)⟩
end Go.Proofs.Ytgkjdpdmmlalcaa.F
end
