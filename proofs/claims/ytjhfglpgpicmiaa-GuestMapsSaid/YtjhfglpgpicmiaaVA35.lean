import Derived.Test.YtjhfglpgpicmiaaVZF0
import Derived.Test.YtjhfglpgpicmiaaVA0
import Derived.Test.YtjhfglpgpicmiaaVA3
import Derived.Test.YtjhfglpgpicmiaaVA5
import Derived.Test.YtjhfglpgpicmiaaVA6HHost3
import Derived.Test.YtjhfglpgpicmiaaVA9
import Derived.Test.YtjhfglpgpicmiaaVA11
import Derived.Test.YtjhfglpgpicmiaaVA16
import Derived.Test.YtjhfglpgpicmiaaVA17FFerryref04Fit
import Derived.Test.YtjhfglpgpicmiaaVA19FFerryref04Same
import Derived.Test.YtjhfglpgpicmiaaVA20PGuest1
import Derived.Test.YtjhfglpgpicmiaaVA21HGuest4
import Derived.Test.YtjhfglpgpicmiaaVA22
import Derived.Test.YtjhfglpgpicmiaaVA23HGuest7
import Derived.Test.YtjhfglpgpicmiaaVA24
import Derived.Test.YtjhfglpgpicmiaaVA26FFerryref04Map
import Derived.Test.YtjhfglpgpicmiaaVA27PGuest2
import Derived.Test.YtjhfglpgpicmiaaVA28HGuest9
import Derived.Test.YtjhfglpgpicmiaaVA29
import Derived.Test.YtjhfglpgpicmiaaVA30FGuestProtect
import Derived.Test.YtjhfglpgpicmiaaVA31FFerryref04Unmap
import Derived.Test.YtjhfglpgpicmiaaVA32FFerryref04Protect
import Derived.Test.YtjhfglpgpicmiaaVA33PGuest3
section
namespace Go.Proofs.Ytjhfglpgpicmiaa.F
open Go.RowKit Go.Shelf Go.Proofs.YtjhfglpgpicmiaaW.PrintWords Go.Proofs.YtjhfglpgpicmiaaW.PrintLast Go.Proofs.YtjhfglpgpicmiaaW.PrintMore
set_option linter.unusedVariables false
def okGH (l : List SM) (m : List SC) (p : List SP) (a n : Int) : Bool := okH l m && (fitB l m && (risesB pgK p && decide (p.length ≤ 256 ∧ 0 ≤ a ∧ a < 4294967296 ∧ 0 ≤ n ∧ n < 4294967296)))
theorem okGH_of {l : List SM} {m : List SC} {p : List SP} {a n : Int} (h : okGH l m p a n = true) : FitH l m ∧ Rises pgK p ∧ p.length ≤ 256 ∧ 0 ≤ a ∧ a < 4294967296 ∧ 0 ≤ n ∧ n < 4294967296 := by
  unfold okGH at h
  rw [Bool.and_eq_true, Bool.and_eq_true, Bool.and_eq_true, decide_eq_true_eq] at h
  have hw := okH_wf h.1
  exact ⟨(fitB_iff hw.1 hw.2).1 h.2.1, (risesB_iff p).1 h.2.2.1, h.2.2.2⟩
def guest_Map.f (l0_0 : List SM) (l0_1 : List SC) (a0_2 : Int) (l0_3 : List SP) (a1 a2 a3 : Int) : Option (List SM × List SC × Int × List SP × Int) :=
  if okGH l0_0 l0_1 l0_3 a1 a2 = true then some ((gMapS l0_0 l0_1 a0_2 l0_3 a1 a2 a3).1, (gMapS l0_0 l0_1 a0_2 l0_3 a1 a2 a3).2.1, a0_2, (gMapS l0_0 l0_1 a0_2 l0_3 a1 a2 a3).2.2.1, (gMapS l0_0 l0_1 a0_2 l0_3 a1 a2 a3).2.2.2) else none
theorem guest_Map.calls (P0_0_ : Nat → Prop) (A0_0 : Option Addr) (c0_0 : Nat) (l0_0 : List SM) (P0_1_ : Nat → Prop) (A0_1 : Option Addr) (c0_1 : Nat) (l0_1 : List SC) (a0_2 : Int) (P0_3_ : Nat → Prop) (A0_3 : Option Addr) (c0_3 : Nat) (l0_3 : List SP) (a1 a2 a3 : Int) (r1 : List SM) (r2 : List SC) (r3 : Int) (r4 : List SP) (r5 : Int) (w : World) (hs0_0 : Kd.V kM 55 w w.heap.size (fun k_ => P0_0_ k_) (.slice A0_0 l0_0.length c0_0) l0_0) (hs0_1 : Kd.V kC 60 w w.heap.size (fun k_ => P0_1_ k_) (.slice A0_1 l0_1.length c0_1) l0_1) (hs0_3 : Kd.V kP 39 w w.heap.size (fun k_ => P0_3_ k_) (.slice A0_3 l0_3.length c0_3) l0_3) (h : guest_Map.f l0_0 l0_1 a0_2 l0_3 a1 a2 a3 = some (r1, r2, r3, r4, r5)) :
    Calls Try.prog 12 #[.agg #[.slice A0_0 l0_0.length c0_0, .slice A0_1 l0_1.length c0_1, .int .u64 a0_2, .slice A0_3 l0_3.length c0_3], .int .u32 a1, .int .u32 a2, .int .i64 a3] w fun e w' => ∃ v0_ v1_ v3_ : Value, e = .returned (.tuple #[.agg #[v0_, v1_, .int .u64 r3, v3_], .int .i64 r5]) ∧ Kd.V kM 55 w' w.heap.size (fun k_ => ((P0_0_ k_ ∨ P0_1_ k_ ∨ P0_3_ k_) ∨ w.heap.size ≤ k_)) v0_ r1 ∧ Kd.V kC 60 w' w.heap.size (fun k_ => ((P0_0_ k_ ∨ P0_1_ k_ ∨ P0_3_ k_) ∨ w.heap.size ≤ k_)) v1_ r2 ∧ Kd.V kP 39 w' w.heap.size (fun k_ => ((P0_0_ k_ ∨ P0_1_ k_ ∨ P0_3_ k_) ∨ w.heap.size ≤ k_)) v3_ r4 ∧ Below w.heap.size w w' := by
  unfold guest_Map.f at h
  split at h
  rotate_left
  · cases h
  rename_i hc
  obtain ⟨hF, hr, hp, h1, h2, h3, h4⟩ := okGH_of hc
  simp only [Option.some.injEq, Prod.mk.injEq] at h
  obtain ⟨rfl, rfl, rfl, rfl, rfl⟩ := h
  refine (gMap_A A0_0 c0_0 l0_0 A0_1 c0_1 l0_1 a0_2 A0_3 c0_3 l0_3 a1 a2 a3 w (fun k_ => P0_0_ k_ ∨ P0_1_ k_ ∨ P0_3_ k_) ⟨Kd.V_mono hs0_0 (fun k hk => .inl hk), Kd.V_mono hs0_1 (fun k hk => .inr (.inl hk)), Kd.V_mono hs0_3 (fun k hk => .inr (.inr hk))⟩ hF hr hp h1 h2 h3 h4 rfl).mono ?_
  rintro e w' ⟨B0, d0, B1, d1, B3, d3, he, hV, hb⟩
  exact ⟨_, _, _, he, hV.1, hV.2.1, hV.2.2, hb⟩
-- HAND fn=ferry/guest.Unmap ; rounds=0 ; making=1 ; laid=0 ; share=0_0,0_1,0_3 ; views=0,1,3
def guest_Unmap.f (l0_0 : List SM) (l0_1 : List SC) (a0_2 : Int) (l0_3 : List SP) (a1 a2 : Int) : Option (List SM × List SC × Int × List SP × Int) :=
  if okGH l0_0 l0_1 l0_3 a1 a2 = true then some ((gUnmapS l0_0 l0_1 a0_2 l0_3 a1 a2).1, (gUnmapS l0_0 l0_1 a0_2 l0_3 a1 a2).2.1, a0_2, (gUnmapS l0_0 l0_1 a0_2 l0_3 a1 a2).2.2.1, (gUnmapS l0_0 l0_1 a0_2 l0_3 a1 a2).2.2.2) else none
theorem guest_Unmap.calls (P0_0_ : Nat → Prop) (A0_0 : Option Addr) (c0_0 : Nat) (l0_0 : List SM) (P0_1_ : Nat → Prop) (A0_1 : Option Addr) (c0_1 : Nat) (l0_1 : List SC) (a0_2 : Int) (P0_3_ : Nat → Prop) (A0_3 : Option Addr) (c0_3 : Nat) (l0_3 : List SP) (a1 a2 : Int) (r1 : List SM) (r2 : List SC) (r3 : Int) (r4 : List SP) (r5 : Int) (w : World) (hs0_0 : Kd.V kM 55 w w.heap.size (fun k_ => P0_0_ k_) (.slice A0_0 l0_0.length c0_0) l0_0) (hs0_1 : Kd.V kC 60 w w.heap.size (fun k_ => P0_1_ k_) (.slice A0_1 l0_1.length c0_1) l0_1) (hs0_3 : Kd.V kP 39 w w.heap.size (fun k_ => P0_3_ k_) (.slice A0_3 l0_3.length c0_3) l0_3) (h : guest_Unmap.f l0_0 l0_1 a0_2 l0_3 a1 a2 = some (r1, r2, r3, r4, r5)) :
    Calls Try.prog 11 #[.agg #[.slice A0_0 l0_0.length c0_0, .slice A0_1 l0_1.length c0_1, .int .u64 a0_2, .slice A0_3 l0_3.length c0_3], .int .u32 a1, .int .u32 a2] w fun e w' => ∃ v0_ v1_ v3_ : Value, e = .returned (.tuple #[.agg #[v0_, v1_, .int .u64 r3, v3_], .int .i64 r5]) ∧ Kd.V kM 55 w' w.heap.size (fun k_ => ((P0_0_ k_ ∨ P0_1_ k_ ∨ P0_3_ k_) ∨ w.heap.size ≤ k_)) v0_ r1 ∧ Kd.V kC 60 w' w.heap.size (fun k_ => ((P0_0_ k_ ∨ P0_1_ k_ ∨ P0_3_ k_) ∨ w.heap.size ≤ k_)) v1_ r2 ∧ Kd.V kP 39 w' w.heap.size (fun k_ => ((P0_0_ k_ ∨ P0_1_ k_ ∨ P0_3_ k_) ∨ w.heap.size ≤ k_)) v3_ r4 ∧ Below w.heap.size w w' := by
  unfold guest_Unmap.f at h
  split at h
  rotate_left
  · cases h
  rename_i hc
  obtain ⟨hF, hr, hp, h1, h2, h3, h4⟩ := okGH_of hc
  simp only [Option.some.injEq, Prod.mk.injEq] at h
  obtain ⟨rfl, rfl, rfl, rfl, rfl⟩ := h
  refine (gUnmap_A A0_0 c0_0 l0_0 A0_1 c0_1 l0_1 a0_2 A0_3 c0_3 l0_3 a1 a2 w (fun k_ => P0_0_ k_ ∨ P0_1_ k_ ∨ P0_3_ k_) ⟨Kd.V_mono hs0_0 (fun k hk => .inl hk), Kd.V_mono hs0_1 (fun k hk => .inr (.inl hk)), Kd.V_mono hs0_3 (fun k hk => .inr (.inr hk))⟩ hF hr hp h1 h2 h3 h4 rfl).mono ?_
  rintro e w' ⟨B0, d0, B1, d1, B3, d3, he, hV, hb⟩
  exact ⟨_, _, _, he, hV.1, hV.2.1, hV.2.2, hb⟩
end Go.Proofs.Ytjhfglpgpicmiaa.F
end
section
namespace Go.Proofs.Ytjhfglpgpicmiaa.F
open Go.RowKit Go.Proofs.YtjhfglpgpicmiaaW.PrintWords Go.Proofs.YtjhfglpgpicmiaaW.PrintLast Go.Proofs.YtjhfglpgpicmiaaW.PrintMore
attribute [local go_sem] max2_int min2_int max_two min_two max_three min_three max_four min_four
set_option linter.unusedVariables false
set_option linter.unusedSimpArgs false

def ferrylaw04_few.f (l0_0 : List (S55)) (l0_1 : List (S60)) (a0_2 : Int) (l0_3 : List (S39)) : Option (Bool) := if (l0_0.length : Int) ≤ 70 then (if (l0_1.length : Int) ≤ 100 then (some (decide ((l0_3.length : Int) ≤ 60))) else (some false)) else (some false)
set_option maxHeartbeats 8000000 in
set_option maxRecDepth 100000 in
theorem ferrylaw04_few.calls (A0_0 : Option Addr) (c0_0 : Nat) (l0_0 : List (S55)) (A0_1 : Option Addr) (c0_1 : Nat) (l0_1 : List (S60)) (a0_2 : Int) (A0_3 : Option Addr) (c0_3 : Nat) (l0_3 : List (S39)) (r : Bool) (w : World) (hr0_0 : Kd.C k55 w A0_0 l0_0.length l0_0) (hc0_0 : l0_0.length ≤ c0_0) (hr0_1 : Kd.C k60 w A0_1 l0_1.length l0_1) (hc0_1 : l0_1.length ≤ c0_1) (hr0_3 : Kd.C k39 w A0_3 l0_3.length l0_3) (hc0_3 : l0_3.length ≤ c0_3) (h : ferrylaw04_few.f l0_0 l0_1 a0_2 l0_3 = some r) :
    Calls Try.prog 8 #[.agg #[.slice A0_0 l0_0.length c0_0, .slice A0_1 l0_1.length c0_1, .int .u64 a0_2, .slice A0_3 l0_3.length c0_3]] w fun e w' => e = .returned (.bool r) ∧ Below w.heap.size w w' := by
  have hu29 := Try.underlying29
  have HR0_0 := Aside0.mk hr0_0
  have HC0_0 := Aside0.mk hc0_0
  clear hr0_0 hc0_0
  have HR0_1 := Aside0.mk hr0_1
  have HC0_1 := Aside0.mk hc0_1
  clear hr0_1 hc0_1
  have HR0_3 := Aside0.mk hr0_3
  have HC0_3 := Aside0.mk hc0_3
  clear hr0_3 hc0_3
  have HB := Aside0.mk (Below.refl w.heap.size w)
  have H : (if (l0_0.length : Int) ≤ 70 then (if (l0_1.length : Int) ≤ 100 then (some (decide ((l0_3.length : Int) ≤ 60))) else (some false)) else (some false)) = some r := h
  clear h
  by_cases c2 : (l0_0.length : Int) ≤ 70
  · rw [if_pos c2] at H
    have c2b0 : decide ((l0_0.length : Int) ≤ 70) = true := decide_eq_true c2
    have c2b1 : decide (l0_0.length ≤ 70) = true := decide_eq_true (by omega)
    clear c2
    by_cases c3 : (l0_1.length : Int) ≤ 100
    · rw [if_pos c3] at H
      have c3b0 : decide ((l0_1.length : Int) ≤ 100) = true := decide_eq_true c3
      have c3b1 : decide (l0_1.length ≤ 100) = true := decide_eq_true (by omega)
      clear c3
      obtain rfl := Option.some.inj H
      go_enter Try.func8, Try.ntmps8
      go_wp2_with (first | ((with_reducible refine gate_dst (N := 1) rfl ?_); (try (refine gate_guard (by rfl) ?_; dsimp only)); refine bE_ 1 #[.slice A0_0 l0_0.length c0_0, .slice A0_1 l0_1.length c0_1, .int .u64 a0_2, .slice A0_3 l0_3.length c0_3] 29 ?_; intro gb101 hg w4 hbox hb; have BK101 := Aside0.mk hbox; have GW101 := geT_ w.heap.size hg; have GE101 := geT_ w.heap.size hg; replace HB := hB_ hb; clear hb hbox hg; obtain ⟨hcz5_0, hcz5_1, hcz5_2, hcz5_3, hfz5_0, hfz5_1, hfz5_2, hfz5_3⟩ := b4_ BK101.out))
      go_ret
      exact ⟨r3_, beT_⟩
    rw [if_neg c3] at H
    have c3b0 : decide ((l0_1.length : Int) ≤ 100) = false := decide_eq_false c3
    have c3b1 : decide (l0_1.length ≤ 100) = false := decide_eq_false (by omega)
    clear c3
    obtain rfl := Option.some.inj H
    go_enter Try.func8, Try.ntmps8
    go_wp2_with (first | ((with_reducible refine gate_dst (N := 1) rfl ?_); (try (refine gate_guard (by rfl) ?_; dsimp only)); refine bE_ 1 #[.slice A0_0 l0_0.length c0_0, .slice A0_1 l0_1.length c0_1, .int .u64 a0_2, .slice A0_3 l0_3.length c0_3] 29 ?_; intro gb101 hg w6 hbox hb; have BK101 := Aside0.mk hbox; have GW101 := geT_ w.heap.size hg; have GE101 := geT_ w.heap.size hg; replace HB := hB_ hb; clear hb hbox hg; obtain ⟨hcz7_0, hcz7_1, hcz7_2, hcz7_3, hfz7_0, hfz7_1, hfz7_2, hfz7_3⟩ := b4_ BK101.out))
    go_ret
    exact ⟨r3_, beT_⟩
  rw [if_neg c2] at H
  have c2b0 : decide ((l0_0.length : Int) ≤ 70) = false := decide_eq_false c2
  have c2b1 : decide (l0_0.length ≤ 70) = false := decide_eq_false (by omega)
  clear c2
  obtain rfl := Option.some.inj H
  go_enter Try.func8, Try.ntmps8
  go_wp2_with (first | ((with_reducible refine gate_dst (N := 1) rfl ?_); (try (refine gate_guard (by rfl) ?_; dsimp only)); refine bE_ 1 #[.slice A0_0 l0_0.length c0_0, .slice A0_1 l0_1.length c0_1, .int .u64 a0_2, .slice A0_3 l0_3.length c0_3] 29 ?_; intro gb101 hg w8 hbox hb; have BK101 := Aside0.mk hbox; have GW101 := geT_ w.heap.size hg; have GE101 := geT_ w.heap.size hg; replace HB := hB_ hb; clear hb hbox hg; obtain ⟨hcz9_0, hcz9_1, hcz9_2, hcz9_3, hfz9_0, hfz9_1, hfz9_2, hfz9_3⟩ := b4_ BK101.out))
  go_ret
  exact ⟨r3_, beT_⟩

end Go.Proofs.Ytjhfglpgpicmiaa.F
end
section
namespace Go.Proofs.Ytjhfglpgpicmiaa.F
open Go.RowKit Go.Shelf Go.Proofs.YtjhfglpgpicmiaaW.PrintWords Go.Proofs.YtjhfglpgpicmiaaW.PrintLast Go.Proofs.YtjhfglpgpicmiaaW.PrintMore
set_option linter.unusedVariables false
set_option linter.unusedSimpArgs false
def few4 (l : List SM) (m : List SC) (p : List SP) : Bool := decide (l.length ≤ 70 ∧ m.length ≤ 100 ∧ p.length ≤ 60)
theorem few04 (l : List SM) (m : List SC) (b : Int) (p : List SP) : ferrylaw04_few.f l m b p = some (few4 l m p) := by
  unfold ferrylaw04_few.f few4
  by_cases h1 : (l.length : Int) ≤ 70
  · rw [if_pos h1]
    by_cases h2 : (m.length : Int) ≤ 100
    · rw [if_pos h2]
      by_cases h3 : (p.length : Int) ≤ 60
      · rw [decide_eq_true h3, decide_eq_true ⟨by omega, by omega, by omega⟩]
      rw [decide_eq_false h3, decide_eq_false (fun e => h3 (by omega))]
    rw [if_neg h2, decide_eq_false (fun e => h2 (by omega))]
  rw [if_neg h1, decide_eq_false (fun e => h1 (by omega))]
theorem few4_len {l : List SM} {m : List SC} {p : List SP} (h : few4 l m p = true) : l.length ≤ 70 ∧ m.length ≤ 100 ∧ p.length ≤ 60 := of_decide_eq_true h
theorem FitG.wp {l : List SM} {m : List SC} {b : Int} {p : List SP} (h : FitG l m b p) : ∀ x ∈ p, wfP x := fun x hx => by
  have := h.pages.pp x hx
  exact ⟨⟨by omega, by omega⟩, by omega, by omega⟩
theorem FitG.gfitB {l : List SM} {m : List SC} {b : Int} {p : List SP} (h : FitG l m b p) : F.gfitB l m b p = true := (gfitB_iff h.h.wl h.h.wm h.base.b0 (by have := h.base.b1; omega) h.wp).2 h
theorem FitG.same {l : List SM} {m : List SC} {b : Int} {p : List SP} (h : FitG l m b p) (k : Nat) (hk : 200000 < k) : ferryref04_Same.f k l m b p l m b p = some true := by
  have h1 := h.h.ln
  have h2 := h.h.mn
  have h3 := h.pages.pn
  rw [ref04_Same l m b p l m b p (by omega) (by omega) (by omega) k (by omega), sameG_refl]
end Go.Proofs.Ytjhfglpgpicmiaa.F
end
section
namespace Go.Proofs.Ytjhfglpgpicmiaa.F
open Go.RowKit Go.Shelf Go.Proofs.YtjhfglpgpicmiaaW.PrintWords Go.Proofs.YtjhfglpgpicmiaaW.PrintLast Go.Proofs.YtjhfglpgpicmiaaW.PrintMore
set_option linter.unusedVariables false
section
variable {W : World} {v0 v1 v3 : Value} {l : List SM} {m : List SC} {b : Int} {p : List SP} {u0 u1 u3 : Value} {l' : List SM} {m' : List SC} {b' : Int} {p' : List SP}
theorem GuestV.below {W' : World} (h : GuestV W v0 v1 v3 l m p) (hb : Below W.heap.size W W') : GuestV W' v0 v1 v3 l m p := ⟨h.1.below hb, h.2.1.below hb, h.2.2.below hb⟩
theorem GuestV.host (h : GuestV W v0 v1 v3 l m p) : HostV W v0 v1 l m := ⟨h.1, h.2.1⟩
theorem FitG.len (h : FitG l m b p) : l.length ≤ 1000000 ∧ m.length ≤ 1000000 ∧ p.length ≤ 1000000 := by
  have h1 := h.h.ln
  have h2 := h.h.mn
  have h3 := h.pages.pn
  omega
theorem RetG.of {W w' : World} {l : List SM} {m : List SC} {b : Int} {p : List SP} {f : Value → Value} {v0 v1 v3 : Value} {B B' B3 e1 e2 e3 : Nat} {ok ok' ok3 : Nat → Prop} {e : Ending} (he : e = .returned (f (.agg #[v0, v1, .int .u64 b, v3]))) (h0 : Kd.V kM e1 w' B ok v0 l) (h1 : Kd.V kC e2 w' B' ok' v1 m) (h3 : Kd.V kP e3 w' B3 ok3 v3 p) (hb : Below W.heap.size W w') : RetG W l m b p f e w' := by
  obtain ⟨A, c, rfl, hc, hC⟩ := SlV.of_view h0
  obtain ⟨A', c', rfl, hc', hC'⟩ := SlV.of_view h1
  obtain ⟨A3, c3, rfl, hc3, hC3⟩ := SlV.of_view h3
  exact ⟨A, c, A', c', A3, c3, he, ⟨SlV.mk hC hc, SlV.mk hC' hc', SlV.mk hC3 hc3⟩, hb⟩
theorem rFit04_L (hG : GuestV W v0 v1 v3 l m p) (hl : l.length ≤ 1000000 ∧ m.length ≤ 1000000 ∧ p.length ≤ 1000000) (wl : ∀ x ∈ l, wfM x) (wm : ∀ x ∈ m, wfC x) (b0 : 0 ≤ b) (b1 : b ≤ 18446744073709551615) (wp : ∀ x ∈ p, wfP x) : Calls Try.prog 9 #[.agg #[v0, v1, .int .u64 b, v3]] W fun e w' => e = .returned (.bool (F.gfitB l m b p)) ∧ Below W.heap.size W w' := by
  obtain ⟨⟨A0, c0, rfl, h0, k0⟩, ⟨A1, c1, rfl, h1, k1⟩, ⟨A3, c3, rfl, h3, k3⟩⟩ := hG
  exact ferryref04_Fit.calls (3 * p.length + l.length + m.length + 6) A0 c0 l A1 c1 m b A3 c3 p _ W k0 h0 k1 h1 k3 h3 (ref04_Fit wl wm b0 b1 wp hl.1 hl.2.1 _ (by omega))
theorem rFit04T_L (hG : GuestV W v0 v1 v3 l m p) (hF : FitG l m b p) : Calls Try.prog 9 #[.agg #[v0, v1, .int .u64 b, v3]] W fun e w' => e = .returned (.bool true) ∧ Below W.heap.size W w' := by
  have := rFit04_L hG hF.len hF.h.wl hF.h.wm hF.base.b0 (by have := hF.base.b1; omega) hF.wp
  rwa [hF.gfitB] at this
theorem rSame04_L (hG : GuestV W v0 v1 v3 l m p) (hK : GuestV W u0 u1 u3 l' m' p') (hl : l.length ≤ 1000000 ∧ m.length ≤ 1000000 ∧ p.length ≤ 1000000) : Calls Try.prog 13 #[.agg #[v0, v1, .int .u64 b, v3], .agg #[u0, u1, .int .u64 b', u3]] W fun e w' => e = .returned (.bool (sameG l m b p l' m' b' p')) ∧ Below W.heap.size W w' := by
  obtain ⟨⟨A0, c0, rfl, h0, k0⟩, ⟨A1, c1, rfl, h1, k1⟩, ⟨A3, c3, rfl, h3, k3⟩⟩ := hG
  obtain ⟨⟨B0, d0, rfl, g0, j0⟩, ⟨B1, d1, rfl, g1, j1⟩, ⟨B3, d3, rfl, g3, j3⟩⟩ := hK
  exact ferryref04_Same.calls _ A0 c0 l A1 c1 m b A3 c3 p B0 d0 l' B1 d1 m' b' B3 d3 p' _ W k0 h0 k1 h1 k3 h3 j0 g0 j1 g1 j3 g3 (ref04_Same l m b p l' m' b' p' hl.1 hl.2.1 hl.2.2 (l.length + m.length + p.length + 4) (by omega))
theorem rSame04T_L (hG : GuestV W v0 v1 v3 l m p) (hK : GuestV W u0 u1 u3 l m p) (hl : l.length ≤ 1000000 ∧ m.length ≤ 1000000 ∧ p.length ≤ 1000000) : Calls Try.prog 13 #[.agg #[v0, v1, .int .u64 b, v3], .agg #[u0, u1, .int .u64 b, u3]] W fun e w' => e = .returned (.bool true) ∧ Below W.heap.size W w' := by
  have := rSame04_L (b := b) (b' := b) hG hK hl
  rwa [sameG_refl] at this
theorem gMapG_L (hG : GuestV W v0 v1 v3 l m p) (hF : FitG l m b p) {a n q : Int} (a0 : 0 ≤ a) (a1 : a < 4294967296) (n0 : 0 ≤ n) (n1 : n < 4294967296) (q0 : -9223372036854775808 ≤ q) (q1 : q ≤ 9223372036854775807) {r1 : List SM} {r2 : List SC} {r3 : List SP} {r4 : Int} (hr : mapG l m b p a n q = (r1, r2, r3, r4)) : Calls Try.prog 12 #[.agg #[v0, v1, .int .u64 b, v3], .int .u32 a, .int .u32 n, .int .i64 q] W (RetG W r1 r2 b r3 (fun g => .tuple #[g, .int .i64 r4])) := by
  exact gMap_L hG hF.h hF.pages.pr hF.pages.pn a0 a1 n0 n1 ((gMapS_eq hF.base hF.pages a0 a1 n0 n1 q0 q1).trans hr)
theorem gUnmapG_L (hG : GuestV W v0 v1 v3 l m p) (hF : FitG l m b p) {a n : Int} (a0 : 0 ≤ a) (a1 : a < 4294967296) (n0 : 0 ≤ n) (n1 : n < 4294967296) {r1 : List SM} {r2 : List SC} {r3 : List SP} {r4 : Int} (hr : unmapG l m b p a n = (r1, r2, r3, r4)) : Calls Try.prog 11 #[.agg #[v0, v1, .int .u64 b, v3], .int .u32 a, .int .u32 n] W (RetG W r1 r2 b r3 (fun g => .tuple #[g, .int .i64 r4])) := by
  exact gUnmap_L hG hF.h hF.pages.pr hF.pages.pn a0 a1 n0 n1 ((gUnmapS_eq hF.base hF.pages a0 a1 n0 n1).trans hr)
theorem gProtG_L (hG : GuestV W v0 v1 v3 l m p) (hF : FitG l m b p) {a n q : Int} (a0 : 0 ≤ a) (a1 : a < 4294967296) (n0 : 0 ≤ n) (n1 : n < 4294967296) (q0 : -9223372036854775808 ≤ q) (q1 : q ≤ 9223372036854775807) {r1 : List SM} {r2 : List SC} {r3 : List SP} {r4 : Int} (hr : protG l m b p a n q = (r1, r2, r3, r4)) : Calls Try.prog 19 #[.agg #[v0, v1, .int .u64 b, v3], .int .u32 a, .int .u32 n, .int .i64 q] W (RetG W r1 r2 b r3 (fun g => .tuple #[g, .int .i64 r4])) := by
  obtain ⟨⟨A0, c0, rfl, h0, k0⟩, ⟨A1, c1, rfl, h1, k1⟩, ⟨A3, c3, rfl, h3, k3⟩⟩ := hG
  refine (guest_Protect.calls 301 _ A0 c0 l _ A1 c1 m b _ A3 c3 p a n q r1 r2 b r3 r4 W (SlV.view kM_heap _ _ k0 h0) (SlV.view kC_heap _ _ k1 h1) (SlV.view kP_heap _ _ k3 h3) (by rw [guest_Protect_spec l m b hF.pages a0 a1 n0 n1 q0 q1 301 (by omega), hr])).mono ?_
  rintro e w' ⟨x, y, z, he, h0, h1, h3, hb⟩
  exact RetG.of he h0 h1 h3 hb
theorem rMapG_L (hG : GuestV W v0 v1 v3 l m p) (hF : FitG l m b p) {a n q : Int} (a0 : 0 ≤ a) (a1 : a < 4294967296) (n0 : 0 ≤ n) (n1 : n < 4294967296) {r1 : List SM} {r2 : List SC} {r3 : List SP} {r4 : Int} (hr : mapG l m b p a n q = (r1, r2, r3, r4)) : Calls Try.prog 17 #[.agg #[v0, v1, .int .u64 b, v3], .int .u32 a, .int .u32 n, .int .i64 q] W (RetG W r1 r2 b r3 (fun g => .tuple #[g, .int .i64 r4])) := by
  obtain ⟨⟨A0, c0, rfl, h0, k0⟩, ⟨A1, c1, rfl, h1, k1⟩, ⟨A3, c3, rfl, h3, k3⟩⟩ := hG
  refine (ferryref04_Map.calls (10 * m.length + 3000001) _ A0 c0 l _ A1 c1 m b _ A3 c3 p a n q r1 r2 b r3 r4 W (SlV.view kM_heap _ _ k0 h0) (SlV.view kC_heap _ _ k1 h1) (SlV.view kP_heap _ _ k3 h3) (by rw [ref04_Map hF.h hF.base hF.pages a0 a1 n0 n1 _ (by omega), hr])).mono ?_
  rintro e w' ⟨x, y, z, he, h0, h1, h3, hb⟩
  exact RetG.of he h0 h1 h3 hb
theorem rUnmapG_L (hG : GuestV W v0 v1 v3 l m p) (hF : FitG l m b p) {a n : Int} (a0 : 0 ≤ a) (a1 : a < 4294967296) (n0 : 0 ≤ n) (n1 : n < 4294967296) {r1 : List SM} {r2 : List SC} {r3 : List SP} {r4 : Int} (hr : unmapG l m b p a n = (r1, r2, r3, r4)) : Calls Try.prog 18 #[.agg #[v0, v1, .int .u64 b, v3], .int .u32 a, .int .u32 n] W (RetG W r1 r2 b r3 (fun g => .tuple #[g, .int .i64 r4])) := by
  obtain ⟨⟨A0, c0, rfl, h0, k0⟩, ⟨A1, c1, rfl, h1, k1⟩, ⟨A3, c3, rfl, h3, k3⟩⟩ := hG
  refine (ferryref04_Unmap.calls 1500001 _ A0 c0 l _ A1 c1 m b _ A3 c3 p a n r1 r2 b r3 r4 W (SlV.view kM_heap _ _ k0 h0) (SlV.view kC_heap _ _ k1 h1) (SlV.view kP_heap _ _ k3 h3) (by rw [ref04_Unmap hF.h hF.base hF.pages a0 a1 n0 n1 _ (by omega), hr])).mono ?_
  rintro e w' ⟨x, y, z, he, h0, h1, h3, hb⟩
  exact RetG.of he h0 h1 h3 hb
theorem rProtG_L (hG : GuestV W v0 v1 v3 l m p) (hF : FitG l m b p) {a n q : Int} (a0 : 0 ≤ a) (a1 : a < 4294967296) (n0 : 0 ≤ n) (n1 : n < 4294967296) {r1 : List SM} {r2 : List SC} {r3 : List SP} {r4 : Int} (hr : protG l m b p a n q = (r1, r2, r3, r4)) : Calls Try.prog 20 #[.agg #[v0, v1, .int .u64 b, v3], .int .u32 a, .int .u32 n, .int .i64 q] W (RetG W r1 r2 b r3 (fun g => .tuple #[g, .int .i64 r4])) := by
  obtain ⟨⟨A0, c0, rfl, h0, k0⟩, ⟨A1, c1, rfl, h1, k1⟩, ⟨A3, c3, rfl, h3, k3⟩⟩ := hG
  refine (ferryref04_Protect.calls 301 _ A0 c0 l _ A1 c1 m b _ A3 c3 p a n q r1 r2 b r3 r4 W (SlV.view kM_heap _ _ k0 h0) (SlV.view kC_heap _ _ k1 h1) (SlV.view kP_heap _ _ k3 h3) (by rw [ref04_Protect l m b hF.pages a0 a1 n0 n1 _ (by omega), hr])).mono ?_
  rintro e w' ⟨x, y, z, he, h0, h1, h3, hb⟩
  exact RetG.of he h0 h1 h3 hb
end
end Go.Proofs.Ytjhfglpgpicmiaa.F
end
