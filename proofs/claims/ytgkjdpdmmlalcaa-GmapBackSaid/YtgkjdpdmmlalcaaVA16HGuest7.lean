import Derived.Test.YtgkjdpdmmlalcaaVZF0
import Derived.Test.YtgkjdpdmmlalcaaVA0
import Derived.Test.YtgkjdpdmmlalcaaVA4HHost3
import Derived.Test.YtgkjdpdmmlalcaaVA5
import Derived.Test.YtgkjdpdmmlalcaaVA6HHost11
import Derived.Test.YtgkjdpdmmlalcaaVA9
import Derived.Test.YtgkjdpdmmlalcaaVA10HGuest1
import Derived.Test.YtgkjdpdmmlalcaaVA11
import Derived.Test.YtgkjdpdmmlalcaaVA13
import Derived.Test.YtgkjdpdmmlalcaaVA14HGuest4
import Derived.Test.YtgkjdpdmmlalcaaVA15
section
namespace Go.Proofs.Ytgkjdpdmmlalcaa.F
open Go.RowKit Go.Shelf Go.Proofs.YtgkjdpdmmlalcaaW.PrintWords Go.Proofs.YtgkjdpdmmlalcaaW.PrintLast Go.Proofs.YtgkjdpdmmlalcaaW.PrintMore
set_option linter.unusedVariables false
set_option linter.unusedSimpArgs false
attribute [local go_sem] Oper.semAt_some
def gwrongS (a n q : Int) : Bool := (guest_wrong.f a n q).getD false
theorem gwrong_some (a n q : Int) : guest_wrong.f a n q = some (gwrongS a n q) := by
  unfold gwrongS guest_wrong.f
  repeat' split
  all_goals rfl
def mapStep (p : List SP) (b : Int) (st : List SM × List SC) (a : Int) : Option (List SM × List SC) :=
  if usedS p b a = true then some st else if (mapS st.1 st.2 a 1 3).2.2 = 0 then some ((mapS st.1 st.2 a 1 3).1, (mapS st.1 st.2 a 1 3).2.1) else none
def mapLoop (p : List SP) (b : Int) : List Int → List SM × List SC → Option (List SM × List SC)
  | [], st => some st
  | a :: ps, st => (mapStep p b st a).bind (mapLoop p b ps)
theorem mapLoop_app (p : List SP) (b : Int) : ∀ (ps bs : List Int) (st : List SM × List SC), mapLoop p b (ps ++ bs) st = (mapLoop p b ps st).bind (mapLoop p b bs)
  | [], bs, st => rfl
  | a :: ps, bs, st => by
    show (mapStep p b st a).bind (mapLoop p b (ps ++ bs)) = ((mapStep p b st a).bind (mapLoop p b ps)).bind (mapLoop p b bs)
    cases mapStep p b st a with
    | none => rfl
    | some s => exact mapLoop_app p b ps bs s
theorem mapLoop_snoc (p : List SP) (b : Int) (ps : List Int) (a : Int) (st : List SM × List SC) : mapLoop p b (ps ++ [a]) st = (mapLoop p b ps st).bind (fun s => mapStep p b s a) := by
  rw [mapLoop_app]
  congr 1
  funext s
  show (mapStep p b s a).bind (fun s => some s) = _
  cases mapStep p b s a <;> rfl
theorem mapLoop_none {p : List SP} {b : Int} {ps xs : List Int} {st : List SM × List SC} (h : mapLoop p b ps st = none) (hp : ps <+: xs) : mapLoop p b xs st = none := by
  obtain ⟨bs, rfl⟩ := hp
  rw [mapLoop_app, h]
  rfl
def moreG (a : Int) (n : Nat) (q : Int) : List SP := (List.range n).map (fun i : Nat => ⟨(a + ((i : Nat) : Int)) % 4294967296, q⟩)
def hiG (b a n : Int) : Int := hoS b (IntKind.u32.wrap (a + IntKind.u32.wrap (n - 1)))
def gMapS (l : List SM) (m : List SC) (b : Int) (p : List SP) (a n q : Int) : List SM × List SC × List SP × Int :=
  if gwrongS a n q = true then (l, m, p, 22)
  else if wrap64 (256 - ((delS p a n).length : Int)) % 4294967296 < n then (l, m, p, 12)
  else match mapLoop p b (hostsL (hoS b a) (hiG b a n)) (l, dropC m b a n) with
    | none => (l, m, p, 105)
    | some st => (st.1, st.2, (delS p a n).take (lowB pgK a (delS p a n)) ++ moreG a n.toNat q ++ (delS p a n).drop (lowB pgK a (delS p a n)), 0)
theorem hoS_range (b a : Int) : 0 ≤ hoS b a ∧ hoS b a ≤ 1125899906842623 := by
  unfold hoS
  have h : ∀ x : Int, 0 ≤ IntKind.u64.wrap x ∧ IntKind.u64.wrap x ≤ 18446744073709551615 := fun x => by
    simp [IntKind.wrap, IntKind.bits, IntKind.signed]
    omega
  have h1 := h (b + IntKind.u64.wrap (a * 4096 % 4294967296))
  generalize IntKind.u64.wrap (b + IntKind.u64.wrap (a * 4096 % 4294967296)) = x at h1 ⊢
  rw [Int.tdiv_eq_ediv_of_nonneg h1.1]
  have h2 : IntKind.u64.wrap (x / 16384) = x / 16384 := by
    simp [IntKind.wrap, IntKind.bits, IntKind.signed]
    omega
  rw [h2]
  omega
theorem hostsL_mod {lo hi : Int} (h0 : 0 ≤ lo) (h1 : hi ≤ 18446744073709551615) : (hostsL lo hi).map (fun x => x % 18446744073709551616) = hostsL lo hi := by
  refine (List.map_congr_left (fun x hx => ?_)).trans (List.map_id _)
  simp only [hostsL, List.mem_map, List.mem_range] at hx
  obtain ⟨i, hi', rfl⟩ := hx
  exact Int.emod_eq_of_lt (by omega) (by omega)
theorem hostsG_mod (b a n : Int) : (hostsL (hoS b a) (hiG b a n)).map (fun x => x % 18446744073709551616) = hostsL (hoS b a) (hiG b a n) := hostsL_mod (hoS_range _ _).1 (Int.le_trans (hoS_range _ _).2 (by decide))
def GuestV (W : World) (v0 v1 v3 : Value) (l : List SM) (m : List SC) (p : List SP) : Prop := SlV kM W v0 l ∧ SlV kC W v1 m ∧ SlV kP W v3 p
def RetG (W : World) (l : List SM) (m : List SC) (b : Int) (p : List SP) (f : Value → Value) : Ending → World → Prop := fun e w' => ∃ A0 c0 A1 c1 A3 c3, e = .returned (f (.agg #[.slice A0 l.length c0, .slice A1 m.length c1, .int .u64 b, .slice A3 p.length c3])) ∧ GuestV w' (.slice A0 l.length c0) (.slice A1 m.length c1) (.slice A3 p.length c3) l m p ∧ Below W.heap.size W w'
def RetA (W : World) (ok : Nat → Prop) (l : List SM) (m : List SC) (b : Int) (p : List SP) (f : Value → Value) : Ending → World → Prop := fun e w' => ∃ A0 c0 A1 c1 A3 c3, e = .returned (f (.agg #[.slice A0 l.length c0, .slice A1 m.length c1, .int .u64 b, .slice A3 p.length c3])) ∧ RowsG w' (fun k => ok k ∨ W.heap.size ≤ k) A0 c0 A1 c1 A3 c3 l m p ∧ Below W.heap.size W w'
theorem RetA.G {W : World} {ok : Nat → Prop} {l : List SM} {m : List SC} {b : Int} {p : List SP} {f : Value → Value} {e : Ending} {w' : World} (h : RetA W ok l m b p f e w') : RetG W l m b p f e w' := by
  obtain ⟨A0, c0, A1, c1, A3, c3, he, hr, hb⟩ := h
  exact ⟨A0, c0, A1, c1, A3, c3, he, ⟨SlV.of_view hr.1, SlV.of_view hr.2.1, SlV.of_view hr.2.2⟩, hb⟩
theorem OwnP.V {W : World} {B : Nat} {A : Option Addr} {c : Nat} {p : List SP} (h : OwnP W B A c p) : Kd.V kP 41 W 0 (fun k => B ≤ k) (.slice A p.length c) p := Kd.V_mono (Kd.R_V (base' := 0) (Kd.R_bound h.R)) (fun k hk => hk.2.1)
theorem ret_put {y : World} {b8 b9 : Nat} {T T' : TypeId} {x0 x1 x2 x3 x4 : Value} (h8 : y.heap[b8]? = some (.cells #[x0, x1, x2, x3] T (0, 0))) (h9 : y.heap[b9]? = some (.cells #[x4] T' (0, 0))) (hne : b8 ≠ b9) (v0 v1 v2 v3 v4 : Value) :
    (((((y.setCell ⟨b8, 0, none⟩ v0).setCell ⟨b8, 1, none⟩ v1).setCell ⟨b8, 2, none⟩ v2).setCell ⟨b8, 3, none⟩ v3).setCell ⟨b9, 0, none⟩ v4).heap[b8]? = some (.cells #[v0, v1, v2, v3] T (0, 0)) ∧
    (((((y.setCell ⟨b8, 0, none⟩ v0).setCell ⟨b8, 1, none⟩ v1).setCell ⟨b8, 2, none⟩ v2).setCell ⟨b8, 3, none⟩ v3).setCell ⟨b9, 0, none⟩ v4).heap[b9]? = some (.cells #[v4] T' (0, 0)) ∧
    (∀ k, k ≠ b8 → k ≠ b9 → (((((y.setCell ⟨b8, 0, none⟩ v0).setCell ⟨b8, 1, none⟩ v1).setCell ⟨b8, 2, none⟩ v2).setCell ⟨b8, 3, none⟩ v3).setCell ⟨b9, 0, none⟩ v4).heap[k]? = y.heap[k]?) ∧
    (∀ n, n ≤ b8 → n ≤ b9 → Below n y (((((y.setCell ⟨b8, 0, none⟩ v0).setCell ⟨b8, 1, none⟩ v1).setCell ⟨b8, 2, none⟩ v2).setCell ⟨b8, 3, none⟩ v3).setCell ⟨b9, 0, none⟩ v4)) :=
  ⟨blk_far (blk_put (blk_put (blk_put (blk_put h8 0 v0 rfl) 1 v1 rfl) 2 v2 rfl) 3 v3 rfl) hne v4,
   blk_put (blk_far (blk_far (blk_far (blk_far h9 (Ne.symm hne) v0) (Ne.symm hne) v1) (Ne.symm hne) v2) (Ne.symm hne) v3) 0 v4 rfl,
   fun k h1 h2 => (set_far h2).trans ((set_far h1).trans ((set_far h1).trans ((set_far h1).trans (set_far h1)))),
   fun n h1 h2 => (((((Below.refl n y).setCell h1 _).setCell h1 _).setCell h1 _).setCell h1 _).setCell h2 _⟩
theorem blk_new2 (w : World) (o o' o'' : Obj) : (((w.alloc o).alloc o').alloc o'').heap[w.heap.size + 1 + 1]? = some o'' := by
  have h := blk_new1 (w.alloc o) o' o''
  rwa [World.size_alloc] at h
theorem gHMap_V {W : World} {ok : Nat → Prop} {A0 A1 : Option Addr} {c0 c1 : Nat} {l : List SM} {m : List SC} (hH : RowsH W ok A0 c0 A1 c1 l m) (hF : FitH l m) (a : Int) (a0 : 0 ≤ a) (a1 : a ≤ 18446744073709551615) :
    Calls Try.prog 96 #[.agg #[.slice A0 l.length c0, .slice A1 m.length c1], .int .u64 a, .int .u64 1, .int .i64 3] W fun e w' => ∃ A' c' B' d', e = .returned (.tuple #[.agg #[.slice A' (mapS l m a 1 3).1.length c', .slice B' (mapS l m a 1 3).2.1.length d'], .int .i64 (mapS l m a 1 3).2.2]) ∧ RowsH w' (fun k => (ok k ∨ W.heap.size ≤ k) ∧ k < w'.heap.size) A' c' B' d' (mapS l m a 1 3).1 (mapS l m a 1 3).2.1 ∧ Below W.heap.size W w' := by
  refine (host_Map.calls ok A0 c0 l ok A1 c1 m a 1 3 _ _ _ W hH.1 hH.2 (host_Map_spec l m hF.wl hF.ln hF.lr a0 a1 (by decide) (by decide) (by decide))).mono ?_
  rintro e w' ⟨x, y, he, h0, h1, hb⟩
  obtain ⟨A', c', B', d', rfl, rfl, h⟩ := RowsH.swap h0 h1
  exact ⟨A', c', B', d', he, h.bound.wide (fun k hk => ⟨hk.1.imp (fun h => h.elim id id) id, hk.2⟩), hb⟩
theorem OwnP.own {W W' : World} {B : Nat} {A : Option Addr} {c : Nat} {p : List SP} {row : Option Nat} (h : OwnP W B A c p) (hg : W.grownBy W' row) (hr : ∀ r, row = some r → ∃ o : Obj, W.heap[r]? = some o ∧ o.isCells = false) : OwnP W' B A c p := by
  rcases h with h | ⟨g, e, hB, cur, h0, h1⟩
  · exact .inl h
  · exact .inr ⟨g, e, hB, cur, blk_own h0 hg hr, h1⟩
def Ends (Q : Exit → Act → World → Prop) : Exit → Act → World → Prop
  | .normal, a, w => Q .normal a w
  | _, _, _ => False
theorem ends_of {P : Program} {c : Code} {Q : Exit → Act → World → Prop} {a : Act} {w : World} (h : c.wp P (Ends Q) a w) : c.wp P Q a w := wp_mono h (fun e a w hq => by
  cases e <;> first | exact hq | exact hq.elim)
theorem OwnP.C {W : World} {B : Nat} {A : Option Addr} {c : Nat} {p : List SP} (h : OwnP W B A c p) : Kd.C kP W A p.length p ∧ p.length ≤ c := by
  obtain ⟨A', c', e, h1, h2⟩ := Kd.R_reads h.R
  cases e
  exact ⟨h2, h1⟩
theorem gIns.calls {W : World} {N : Nat} {A : Option Addr} {c gv vc i : Nat} {p vs : List SP} (hO : OwnP W N A c p) (hN : N ≤ W.heap.size) (hv : OwnB pgE 41 W gv vc vs) (hne : ∀ g, A = some ⟨g, 0, none⟩ → gv ≠ g) (hl : p.length ≤ 1000000) (hvl : vs.length ≤ 1000000) (hv0 : 0 < vs.length) (hi : i ≤ p.length) :
    Calls Try.prog 98 #[.slice A p.length c, .int .i64 i, .slice (some ⟨gv, 0, none⟩) vs.length vc] W fun e w' => ∃ g' cap', e = .returned (.slice (some ⟨g', 0, none⟩) (p.length + vs.length) cap') ∧ OwnB pgE 41 w' g' cap' (p.take i ++ vs ++ p.drop i) ∧ N ≤ g' ∧ Below N W w' ∧ ∀ k, k < W.heap.size → (∀ g, A = some ⟨g, 0, none⟩ → k ≠ g) → w'.heap[k]? = W.heap[k]? := by
  rcases hO with ⟨rfl, rfl, rfl⟩ | ⟨g, rfl, hg, ho⟩
  · obtain rfl : i = 0 := by simpa using hi
    refine (pg_ins_nil.calls gv vc vs W hv hvl hv0).mono ?_
    rintro e w' ⟨g', cap', rfl, h1, h2, h3⟩
    exact ⟨g', cap', by simp, by simpa using h1, Nat.le_trans hN h2, h3.mono hN, fun k hk _ => h3.block k hk⟩
  · refine (pg_ins.calls g c gv vc i p vs W ho hv (hne g rfl) hl hvl hv0 hi).mono ?_
    rintro e w' ⟨g', cap', rfl, h1, h2, h3⟩
    exact ⟨g', cap', rfl, h1, by rcases h2 with rfl | h2 <;> omega, below_of_grown (Below.refl _ _) h3 hg hN, fun k hk hn => h3.block k hk (fun e => hn g rfl (by injection e))⟩
def okGM (okI : Nat → Prop) (w : World) (gw : Nat) (A3 : Option Addr) (k : Nat) : Prop := ((okI k ∧ k < w.heap.size) ∨ gw + 1 + 1 ≤ k) ∧ ∀ g, A3 = some ⟨g, 0, none⟩ → k ≠ g
theorem OwnP.lt {W : World} {B : Nat} {A : Option Addr} {c : Nat} {p : List SP} (h : OwnP W B A c p) {g : Nat} (e : A = some ⟨g, 0, none⟩) : B ≤ g ∧ g < W.heap.size := by
  rcases h with h | ⟨g', e', hB, ho⟩
  · rw [h.1] at e
    cases e
  · rw [e'] at e
    cases e
    exact ⟨hB, ho.lt⟩
structure MapI (okI : Nat → Prop) (w W : World) (gv : Array Value) (gw B : Nat) (b a n : Int) (p2 : List SP) (st : List SM × List SC) : Prop where
  bel : Below w.heap.size w W
  c4 : W.heap[w.heap.size]? = some (.cells gv 29 (0, 0))
  c8 : W.heap[w.heap.size + 1]? = some (.cells #[.slice none 0 0, .slice none 0 0, .int .u64 0, .slice none 0 0] 29 (0, 0))
  c9 : W.heap[w.heap.size + 1 + 1]? = some (.cells #[.int .i64 0] 53 (0, 0))
  c10 : W.heap[gw + 1]? = some (.cells #[.pointer (some ⟨gw, 0, none⟩)] 133 (0, 0))
  h0 : W.heap[B]? = some (.cells #[.pointer (some ⟨gw, 0, none⟩)] 133 (0, 0))
  h1 : W.heap[B + 1]? = some (.cells #[.int .u32 a] 30 (0, 0))
  h2 : W.heap[B + 1 + 1]? = some (.cells #[.int .u32 n] 30 (0, 0))
  cw : ∃ A0 c0 A1 c1 A3 c3, W.heap[gw]? = some (.cells #[.slice A0 st.1.length c0, .slice A1 st.2.length c1, .int .u64 b, .slice A3 p2.length c3] 135 (0, 0)) ∧ RowsH W (okGM okI w gw A3) A0 c0 A1 c1 st.1 st.2 ∧ OwnP W (gw + 1 + 1) A3 c3 p2
  fit : FitH st.1 st.2
section
variable {okI : Nat → Prop} {w W W' : World} {gv : Array Value} {gw B : Nat} {b a n : Int} {p2 : List SP} {st : List SM × List SC}
theorem MapI.inv (h : MapI okI w W gv gw B b a n p2 st) : HInv gw B (B + 1) (B + 1 + 1) b a n W := by
  obtain ⟨A0, c0, A1, c1, A3, c3, hc, _⟩ := h.cw
  exact ⟨h.h0, h.h1, h.h2, A0, _, c0, A1, _, c1, A3, _, c3, hc⟩
theorem MapI.below (h : MapI okI w W gv gw B b a n p2 st) (hb : Below W.heap.size W W') : MapI okI w W' gv gw B b a n p2 st := by
  obtain ⟨A0, c0, A1, c1, A3, c3, hc, hR, hO⟩ := h.cw
  exact ⟨h.bel.trans (hb.mono h.bel.size), blk_below h.c4 hb, blk_below h.c8 hb, blk_below h.c9 hb, blk_below h.c10 hb, blk_below h.h0 hb, blk_below h.h1 hb, blk_below h.h2 hb,
    ⟨A0, c0, A1, c1, A3, c3, blk_below hc hb, hR.below hb, hO.move (fun k _ hk => hb.block k hk)⟩, h.fit⟩
theorem MapI.own {row : Option Nat} (h : MapI okI w W gv gw B b a n p2 st) (hg : W.grownBy W' row) (hr : ∀ r, row = some r → w.heap.size ≤ r ∧ ∃ o : Obj, W.heap[r]? = some o ∧ o.isCells = false) : MapI okI w W' gv gw B b a n p2 st := by
  obtain ⟨A0, c0, A1, c1, A3, c3, hc, hR, hO⟩ := h.cw
  have hr' := fun r e => (hr r e).2
  exact ⟨h.bel.grown hg h.bel.size (fun k e => (hr k e).1), blk_own h.c4 hg hr', blk_own h.c8 hg hr', blk_own h.c9 hg hr', blk_own h.c10 hg hr', blk_own h.h0 hg hr', blk_own h.h1 hg hr', blk_own h.h2 hg hr',
    ⟨A0, c0, A1, c1, A3, c3, blk_own hc hg hr', hR.own hg hr', hO.own hg hr'⟩, h.fit⟩
theorem MapI.put {A0 A1 A3 : Option Addr} {c0 c1 c3 : Nat} {x y : Value} {l' : List SM} {m' : List SC} (h : MapI okI w W gv gw B b a n p2 st) (hz : w.heap.size + 1 + 1 < gw) (hB : gw + 1 < B) (hc : W.heap[gw]? = some (.cells #[x, y, .int .u64 b, .slice A3 p2.length c3] 135 (0, 0)))
    (hR : RowsH W (okGM okI w gw A3) A0 c0 A1 c1 l' m') (ho : OwnP W (gw + 1 + 1) A3 c3 p2) (hF : FitH l' m') : MapI okI w ((W.setCell ⟨gw, 0, none⟩ (.slice A0 l'.length c0)).setCell ⟨gw, 1, none⟩ (.slice A1 m'.length c1)) gv gw B b a n p2 (l', m') := by
  have F : ∀ {k : Nat} {cs : Array Value} {t : TypeId}, W.heap[k]? = some (.cells cs t (0, 0)) → k ≠ gw → ((W.setCell ⟨gw, 0, none⟩ (.slice A0 l'.length c0)).setCell ⟨gw, 1, none⟩ (.slice A1 m'.length c1)).heap[k]? = some (.cells cs t (0, 0)) := fun hh hn => blk_far2 hh hn _ _
  exact ⟨(h.bel.setCell (p := ⟨gw, 0, none⟩) (by show w.heap.size ≤ gw; omega) _).setCell (p := ⟨gw, 1, none⟩) (by show w.heap.size ≤ gw; omega) _, F h.c4 (by omega), F h.c8 (by omega), F h.c9 (by omega), F h.c10 (by omega), F h.h0 (by omega), F h.h1 (by omega), F h.h2 (by omega),
    ⟨A0, c0, A1, c1, A3, c3, blk_put (blk_put hc 0 _ rfl) 1 _ rfl, hR.move (fun k hk _ => (set_far (show k ≠ gw by have h1 := hk.1; omega)).trans (set_far (show k ≠ gw by have h1 := hk.1; omega))), ho.move (fun k hk _ => (set_far (by omega)).trans (set_far (by omega)))⟩, hF⟩
end
def MapX (w : World) (gv : Array Value) (p : List SP) (b : Int) (st : List SM × List SC) (c : Code) (pre : List Int) (W : World) : Prop :=
  c = .ret ∧ mapLoop p b (pre.map (fun x => x % 18446744073709551616)) st = none ∧ Below w.heap.size w W ∧ W.heap[w.heap.size + 1]? = some (.cells gv 29 (0, 0)) ∧ W.heap[w.heap.size + 1 + 1]? = some (.cells #[.int .i64 105] 53 (0, 0))
theorem mapX_own {w : World} {gv : Array Value} {p : List SP} {b : Int} {st : List SM × List SC} {N : Nat} (hN : w.heap.size ≤ N) (c : Code) : OwnFrom N (MapX w gv p b st c) := fun s A A' row hs hg hr =>
  ⟨hs.1, hs.2.1, hs.2.2.1.grown hg hs.2.2.1.size (fun k e => Nat.le_trans hN (hr k e).1), blk_own hs.2.2.2.1 hg (fun r e => (hr r e).2), blk_own hs.2.2.2.2 hg (fun r e => (hr r e).2)⟩
theorem keeps_two {W W' : World} {b8 b9 : Nat} {c8 c9 : Array Value} {T T' : TypeId} {f f' : Nat × Nat} (h8 : W.heap[b8]? = some (.cells c8 T f)) (h9 : W.heap[b9]? = some (.cells c9 T' f')) (hs : W.heap.size ≤ W'.heap.size) (hk : ∀ k, k ≠ b8 → k ≠ b9 → k < W.heap.size → W'.heap[k]? = W.heap[k]?) : KeepsOthers W W' :=
  ⟨hs, fun k o ho hc => (hk k (fun e => by subst e; rw [h8] at ho; cases ho; cases hc) (fun e => by subst e; rw [h9] at ho; cases ho; cases hc) (sblk_lt ho)).trans ho⟩
theorem keeps_below {W W' : World} (hb : Below W.heap.size W W') : KeepsOthers W W' := ⟨hb.size, fun k o ho _ => (hb.block k (sblk_lt ho)).trans ho⟩
def gMap.T21 : Bool × List (List Nat × List Nat) := (true, [([], []), ([], []), ([1], [1]), ([2], [2]), ([3], [3]), ([4], [4]), ([], []), ([], []), ([5, 6, 7], [5, 6, 7]), ([0, 0, 1, 2, 3, 4, 5, 6, 7, 8], [0]), ([9, 0, 1, 2, 3, 4, 5, 6, 7, 8], [9]), ([10, 0, 1, 2, 3, 4, 5, 6, 7, 8], [10]), ([11, 8, 8, 0, 1, 2, 3, 4, 5, 6, 7, 8], [8, 11])])
def gMap.B21 : List Nat := [0, 0, 2, 6, 14, 30, 0, 0, 254, 511, 1023, 2047, 4095]
theorem gMap.tab21 : rtab .any (opsOf Try.f64 21) = gMap.T21 := by kernel_rfl
theorem gMap.bits21 : waitsOk gMap.T21.2 gMap.B21 = true := by kernel_rfl
set_option maxHeartbeats 8000000 in
set_option maxRecDepth 100000 in
theorem gMap_A (A0_0 : Option Addr) (c0_0 : Nat) (l0_0 : List SM) (A0_1 : Option Addr) (c0_1 : Nat) (l0_1 : List SC) (a0_2 : Int) (A0_3 : Option Addr) (c0_3 : Nat) (l0_3 : List SP) (a n q : Int) (w : World) (okI : Nat → Prop) (hR : RowsG w okI A0_0 c0_0 A0_1 c0_1 A0_3 c0_3 l0_0 l0_1 l0_3) (hF : FitH l0_0 l0_1) (hs : Rises pgK l0_3) (hp : l0_3.length ≤ 256) (ha : 0 ≤ a) (ha2 : a < 4294967296) (hn : 0 ≤ n) (hn2 : n < 4294967296) {r1 : List SM} {r2 : List SC} {r3 : List SP} {r4 : Int} (hr : gMapS l0_0 l0_1 a0_2 l0_3 a n q = (r1, r2, r3, r4)) :
    Calls Try.prog 64 #[.agg #[.slice A0_0 l0_0.length c0_0, .slice A0_1 l0_1.length c0_1, .int .u64 a0_2, .slice A0_3 l0_3.length c0_3], .int .u32 a, .int .u32 n, .int .i64 q] w (RetA w okI r1 r2 a0_2 r3 (fun g => .tuple #[g, .int .i64 r4])) := by
  have mixed : Try.prog.follows Departure.mixedOrders = true := by kernel_rfl
  have hu := Try.underlying135
  have hu2 := Try.underlying29
  have hu3 := Try.underlying25
  have hu4 := Try.underlying41
  have FF := Lib.hid hF
  have SS := Lib.hid hs
  have LP := Lib.hid hp
  have NA := Lib.hid (And.intro ha ha2)
  have NN := Lib.hid (And.intro hn hn2)
  have RG := Lib.hid hR.bound
  have HR := Lib.hid hr
  clear hF hs hp ha ha2 hn hn2 hR hr
  have WR := Lib.hid (fun w => guest_wrong.calls a n q _ w (gwrong_some a n q))
  have CH := Lib.hid (show Chain [w] w from ⟨Below.refl _ _, trivial⟩)
  refine (callsIn_wide (n := 6)).1 ?_
  refine callsIn_of_wp_marks Try.func64 rfl trivial ?_ rfl
  simp only [Try.ntmps64, List.size_toArray, List.length_cons, List.length_nil, Nat.reduceAdd, Nat.reduceSub, Array.replicate_succ, Array.replicate_zero, List.push_toArray, List.append_toArray, List.nil_append, List.cons_append]
  refine wpIn_wide.2 ?_
  go_wp2_with (fail)
  refine (WR.out _).mono ?_
  rintro e wx ⟨rfl, ⟨nd, rfl⟩⟩
  replace CH := Lib.hid (pw_below_drewN (((CH.out.head.alloc (Nat.le_refl _) (.cells #[.slice A0_0 l0_0.length c0_0, .slice A0_1 l0_1.length c0_1, .int .u64 a0_2, .slice A0_3 l0_3.length c0_3] 29)).alloc (by simp) (.cells #[.slice none 0 0, .slice none 0 0, .int .u64 0, .slice none 0 0] 29)).alloc (by simp; omega) (.cells #[.int .i64 0] 53)) nd)
  have B4 := Lib.hid (show (World.drewN (((w.alloc (.cells #[.slice A0_0 l0_0.length c0_0, .slice A0_1 l0_1.length c0_1, .int .u64 a0_2, .slice A0_3 l0_3.length c0_3] 29)).alloc (.cells #[.slice none 0 0, .slice none 0 0, .int .u64 0, .slice none 0 0] 29)).alloc (.cells #[.int .i64 0] 53)) nd).heap[w.heap.size]? = some (.cells #[.slice A0_0 l0_0.length c0_0, .slice A0_1 l0_1.length c0_1, .int .u64 a0_2, .slice A0_3 l0_3.length c0_3] 29 (0, 0)) from blk_alloc (blk_alloc (blk_new w _) _) _)
  have B8 := Lib.hid (show (World.drewN (((w.alloc (.cells #[.slice A0_0 l0_0.length c0_0, .slice A0_1 l0_1.length c0_1, .int .u64 a0_2, .slice A0_3 l0_3.length c0_3] 29)).alloc (.cells #[.slice none 0 0, .slice none 0 0, .int .u64 0, .slice none 0 0] 29)).alloc (.cells #[.int .i64 0] 53)) nd).heap[w.heap.size + 1]? = some (.cells #[.slice none 0 0, .slice none 0 0, .int .u64 0, .slice none 0 0] 29 (0, 0)) from blk_alloc (blk_new1 w _ _) _)
  have B9 := Lib.hid (show (World.drewN (((w.alloc (.cells #[.slice A0_0 l0_0.length c0_0, .slice A0_1 l0_1.length c0_1, .int .u64 a0_2, .slice A0_3 l0_3.length c0_3] 29)).alloc (.cells #[.slice none 0 0, .slice none 0 0, .int .u64 0, .slice none 0 0] 29)).alloc (.cells #[.int .i64 0] 53)) nd).heap[w.heap.size + 1 + 1]? = some (.cells #[.int .i64 0] 53 (0, 0)) from blk_new2 w _ _ _)
  generalize World.drewN (((w.alloc (.cells #[.slice A0_0 l0_0.length c0_0, .slice A0_1 l0_1.length c0_1, .int .u64 a0_2, .slice A0_3 l0_3.length c0_3] 29)).alloc (.cells #[.slice none 0 0, .slice none 0 0, .int .u64 0, .slice none 0 0] 29)).alloc (.cells #[.int .i64 0] 53)) nd = y1 at CH B4 B8 B9 ⊢
  cases hw : gwrongS a n q
  rotate_left
  · skip
    have HQ := HR.out
    unfold gMapS at HQ
    rw [if_pos hw] at HQ
    cases HQ
    have q4_0 := (sblk_cell B4.out 0).trans rfl
    have q4_1 := (sblk_cell B4.out 1).trans rfl
    have q4_2 := (sblk_cell B4.out 2).trans rfl
    have q4_3 := (sblk_cell B4.out 3).trans rfl
    have f8_0 := sblk_free B8.out 0
    have f8_1 := sblk_free B8.out 1
    have f8_2 := sblk_free B8.out 2
    have f8_3 := sblk_free B8.out 3
    have f9_0 := sblk_free B9.out 0
    have q8_0 := (sblk_cell B8.out 0).trans rfl
    have q8_1 := (sblk_cell B8.out 1).trans rfl
    have q8_2 := (sblk_cell B8.out 2).trans rfl
    have q8_3 := (sblk_cell B8.out 3).trans rfl
    have q9_0 := (sblk_cell B9.out 0).trans rfl
    go_wp2
    obtain ⟨u8, u9, uk, ub⟩ := ret_put B8.out B9.out (by omega) (.slice A0_0 l0_0.length c0_0) (.slice A0_1 l0_1.length c0_1) (.int .u64 a0_2) (.slice A0_3 l0_3.length c0_3) (.int .i64 22)
    have e0 := (sblk_cell u8 0).trans rfl
    have e1 := (sblk_cell u8 1).trans rfl
    have e2 := (sblk_cell u8 2).trans rfl
    have e3 := (sblk_cell u8 3).trans rfl
    have e4 := (sblk_cell u9 0).trans rfl
    have hB := CH.out.trans (ub w.heap.size (by omega) (by omega))
    have hV := (RG.out.below hB).wide (ok' := fun k => okI k ∨ w.heap.size ≤ k) (fun k hk => .inl hk.1)
    exact ⟨.tuple #[.agg #[.slice A0_0 l0_0.length c0_0, .slice A0_1 l0_1.length c0_1, .int .u64 a0_2, .slice A0_3 l0_3.length c0_3], .int .i64 22], by simp [results, Try.results64, go_sem, e0, e1, e2, e3, e4], _, _, _, _, _, _, rfl, hV, hB⟩
  have HW := Lib.hid hw
  clear hw WR
  have q4_0 := (sblk_cell B4.out 0).trans rfl
  have q4_1 := (sblk_cell B4.out 1).trans rfl
  have q4_2 := (sblk_cell B4.out 2).trans rfl
  have q4_3 := (sblk_cell B4.out 3).trans rfl
  go_wp2_with (fail)
  have CD := Lib.hid ((CH.out.alloc CH.out.size (.cells #[.slice A0_0 l0_0.length c0_0, .slice A0_1 l0_1.length c0_1, .int .u64 a0_2, .slice A0_3 l0_3.length c0_3] 135)).alloc (by simp; exact Nat.le_succ_of_le CH.out.size) (.cells #[.pointer (some ⟨y1.heap.size, 0, none⟩)] 133))
  refine (gDrop.calls y1.heap.size A0_0 c0_0 l0_0 A0_1 c0_1 l0_1 a0_2 A0_3 c0_3 l0_3 a n (fun k => okI k ∧ k < w.heap.size) ((y1.alloc (.cells #[.slice A0_0 l0_0.length c0_0, .slice A0_1 l0_1.length c0_1, .int .u64 a0_2, .slice A0_3 l0_3.length c0_3] 135)).alloc (.cells #[.pointer (some ⟨y1.heap.size, 0, none⟩)] 133)) (fun k hk e => by have := CH.out.size; omega) (blk_alloc (blk_new y1 _) _) (RG.out.below CD.out) (Nat.le_trans FF.out.mn (by decide)) (Nat.le_trans LP.out (by decide))).mono ?_
  rintro e y2 ⟨rfl, hg, ND, A0, c0, A1, c1, A3, c3, hND, hbk, hR2, hOw⟩
  have L9 := sblk_lt B9.out
  have C4 := Lib.hid (blk_keep (blk_alloc (blk_alloc B4.out (.cells #[.slice A0_0 l0_0.length c0_0, .slice A0_1 l0_1.length c0_1, .int .u64 a0_2, .slice A0_3 l0_3.length c0_3] 135)) (.cells #[.pointer (some ⟨y1.heap.size, 0, none⟩)] 133)) hg (by omega))
  have C8 := Lib.hid (blk_keep (blk_alloc (blk_alloc B8.out (.cells #[.slice A0_0 l0_0.length c0_0, .slice A0_1 l0_1.length c0_1, .int .u64 a0_2, .slice A0_3 l0_3.length c0_3] 135)) (.cells #[.pointer (some ⟨y1.heap.size, 0, none⟩)] 133)) hg (by omega))
  have C9 := Lib.hid (blk_keep (blk_alloc (blk_alloc B9.out (.cells #[.slice A0_0 l0_0.length c0_0, .slice A0_1 l0_1.length c0_1, .int .u64 a0_2, .slice A0_3 l0_3.length c0_3] 135)) (.cells #[.pointer (some ⟨y1.heap.size, 0, none⟩)] 133)) hg (by omega))
  have C10 := Lib.hid (blk_keep (blk_new1 y1 (.cells #[.slice A0_0 l0_0.length c0_0, .slice A0_1 l0_1.length c0_1, .int .u64 a0_2, .slice A0_3 l0_3.length c0_3] 135) (.cells #[.pointer (some ⟨y1.heap.size, 0, none⟩)] 133)) hg (by omega))
  have CW := Lib.hid hbk
  have CB := Lib.hid (below_of_grown CD.out hg CH.out.size CD.out.size)
  rw [World.size_alloc, World.size_alloc] at hR2 hND
  have RW := Lib.hid (hR2.wide (ok' := okGM okI w y1.heap.size A3) (fun k hk => ⟨hk.1, fun g e => by have := (hOw.lt e).1; have := hk.2; omega⟩))
  have OW := Lib.hid (hOw.low (B' := y1.heap.size + 1 + 1) hND)
  have SZ := Lib.hid (show w.heap.size + 1 + 1 < y1.heap.size ∧ y1.heap.size + 1 < y2.heap.size from ⟨L9, sblk_lt C10.out⟩)
  clear CH B4 B8 B9 hg hbk hR2 hOw hND L9 CD q4_0 q4_1 q4_2 q4_3
  generalize y1.heap.size = gw at C10 CW RW OW SZ ⊢
  clear y1
  have q10_0 := (sblk_cell C10.out 0).trans rfl
  have qW_0 := (sblk_cell CW.out 0).trans rfl
  have qW_1 := (sblk_cell CW.out 1).trans rfl
  have qW_2 := (sblk_cell CW.out 2).trans rfl
  have qW_3 := (sblk_cell CW.out 3).trans rfl
  cases hn : decide (wrap64 (256 - ((delS l0_3 a n).length : Int)) % 4294967296 < n)
  rotate_left
  · skip
    have HQ := HR.out
    unfold gMapS at HQ
    rw [if_neg (by rw [HW.out]; decide), if_pos (of_decide_eq_true hn)] at HQ
    cases HQ
    have q4_0 := (sblk_cell C4.out 0).trans rfl
    have q4_1 := (sblk_cell C4.out 1).trans rfl
    have q4_2 := (sblk_cell C4.out 2).trans rfl
    have q4_3 := (sblk_cell C4.out 3).trans rfl
    have f8_0 := sblk_free C8.out 0
    have f8_1 := sblk_free C8.out 1
    have f8_2 := sblk_free C8.out 2
    have f8_3 := sblk_free C8.out 3
    have f9_0 := sblk_free C9.out 0
    have q8_0 := (sblk_cell C8.out 0).trans rfl
    have q8_1 := (sblk_cell C8.out 1).trans rfl
    have q8_2 := (sblk_cell C8.out 2).trans rfl
    have q8_3 := (sblk_cell C8.out 3).trans rfl
    have q9_0 := (sblk_cell C9.out 0).trans rfl
    go_wp2
    obtain ⟨u8, u9, uk, ub⟩ := ret_put C8.out C9.out (by omega) (.slice A0_0 l0_0.length c0_0) (.slice A0_1 l0_1.length c0_1) (.int .u64 a0_2) (.slice A0_3 l0_3.length c0_3) (.int .i64 12)
    have e0 := (sblk_cell u8 0).trans rfl
    have e1 := (sblk_cell u8 1).trans rfl
    have e2 := (sblk_cell u8 2).trans rfl
    have e3 := (sblk_cell u8 3).trans rfl
    have e4 := (sblk_cell u9 0).trans rfl
    have hB := CB.out.trans (ub w.heap.size (by omega) (by omega))
    have hV := (RG.out.below hB).wide (ok' := fun k => okI k ∨ w.heap.size ≤ k) (fun k hk => .inl hk.1)
    exact ⟨.tuple #[.agg #[.slice A0_0 l0_0.length c0_0, .slice A0_1 l0_1.length c0_1, .int .u64 a0_2, .slice A0_3 l0_3.length c0_3], .int .i64 12], by simp [results, Try.results64, go_sem, e0, e1, e2, e3, e4], _, _, _, _, _, _, rfl, hV, hB⟩
  have HN := Lib.hid hn
  go_wp2_with (fail)
  refine (gHosts.calls gw a n y2).mono ?_
  rintro e y3 ⟨rfl, rfl⟩
  go_wp2_with (fail)
  have D0 := Lib.hid (show Below y2.heap.size y2 (((y2.alloc (.cells #[.pointer (some ⟨gw, 0, none⟩)] 133)).alloc (.cells #[.int .u32 a] 30)).alloc (.cells #[.int .u32 n] 30)) from (((Below.refl _ y2).alloc (Nat.le_refl _) (.cells #[.pointer (some ⟨gw, 0, none⟩)] 133)).alloc (by simp) (.cells #[.int .u32 a] 30)).alloc (by simp; omega) (.cells #[.int .u32 n] 30))
  have WN := Lib.hid (fun x : Int => show 0 ≤ IntKind.u64.wrap x by (simp [IntKind.wrap, IntKind.bits, IntKind.signed]; omega))
  have M0 := Lib.hid (show MapI okI w (((y2.alloc (.cells #[.pointer (some ⟨gw, 0, none⟩)] 133)).alloc (.cells #[.int .u32 a] 30)).alloc (.cells #[.int .u32 n] 30)) #[.slice A0_0 l0_0.length c0_0, .slice A0_1 l0_1.length c0_1, .int .u64 a0_2, .slice A0_3 l0_3.length c0_3] gw y2.heap.size a0_2 a n (delS l0_3 a n) (l0_0, dropC l0_1 a0_2 a n) from ⟨CB.out.trans (D0.out.mono CB.out.size), blk_below C4.out D0.out, blk_below C8.out D0.out, blk_below C9.out D0.out, blk_below C10.out D0.out, blk_alloc (blk_alloc (blk_new y2 _) _) _, blk_alloc (blk_new1 y2 _ _) _, blk_new2 y2 _ _ _, ⟨A0, c0, A1, c1, A3, c3, blk_below CW.out D0.out, RW.out.below D0.out, OW.out.move (fun k _ hk => D0.out.block k hk)⟩, FF.out.clear (WN.out _) (WN.out _)⟩)
  have S3 := Lib.hid (show w.heap.size ≤ ((((y2.alloc (.cells #[.pointer (some ⟨gw, 0, none⟩)] 133)).alloc (.cells #[.int .u32 a] 30)).alloc (.cells #[.int .u32 n] 30))).heap.size from Nat.le_trans CB.out.size D0.out.size)
  clear hn C4 C8 C9 C10 CW RW OW CB D0 q10_0 qW_0 qW_1 qW_2 qW_3
  obtain ⟨m2, hm2⟩ : ∃ m2, dropC l0_1 a0_2 a n = m2 := ⟨_, rfl⟩
  obtain ⟨p2, hp2⟩ : ∃ p2, delS l0_3 a n = p2 := ⟨_, rfl⟩
  rw [hm2, hp2] at M0
  rw [hp2] at HN
  rw [hp2]
  have EM := Lib.hid hm2
  have EP := Lib.hid hp2
  clear hm2 hp2
  generalize (((y2.alloc (.cells #[.pointer (some ⟨gw, 0, none⟩)] 133)).alloc (.cells #[.int .u32 a] 30)).alloc (.cells #[.int .u32 n] 30)) = y3 at M0 S3 ⊢
  generalize y2.heap.size = B at M0 SZ ⊢
  skip
  have UE := Lib.hid (fun W (hB : Below w.heap.size w W) x => guest_used.calls A0_0 c0_0 l0_0 A0_1 c0_1 l0_1 a0_2 A0_3 c0_3 l0_3 x _ W (Kd.C_below RG.out.r0 hB) RG.out.n0 (Kd.C_below RG.out.r1 hB) RG.out.n1 (Kd.C_below RG.out.r3 hB) RG.out.n3 (used_f l0_0 l0_1 a0_2 (Nat.le_trans LP.out (by decide)) SS.out x))
  refine (wpIn_wide (n := 6)).1 ?_
  refine' wpIn_rangeFunc_ownG rfl (by omega) (gf := 121) (lb := #[.pointer (some ⟨B, 0, none⟩), .pointer (some ⟨B + 1, 0, none⟩), .pointer (some ⟨B + 1 + 1, 0, none⟩)]) rfl trivial (enters_of Try.func121 (by kernel_rfl) rfl)
    (gHosts_stops (6 - 1) gw B (B + 1) (B + 1 + 1) a0_2 a n (hoS a0_2 a) (hiG a0_2 a n) rfl rfl (hoS_range _ _).1 (Int.lt_of_le_of_lt (hoS_range _ _).2 (by decide)) _ M0.out.inv) (fun h k => hinv_t h k) hinv_b (Below.refl _ _) (fun _ => rfl)
    (fun pre W => ∃ st, mapLoop l0_3 a0_2 (pre.map (fun x => x % 18446744073709551616)) (l0_0, m2) = some st ∧ MapI okI w W #[.slice A0_0 l0_0.length c0_0, .slice A0_1 l0_1.length c0_1, .int .u64 a0_2, .slice A0_3 l0_3.length c0_3] gw B a0_2 a n p2 st)
    (MapX w #[.slice A0_0 l0_0.length c0_0, .slice A0_1 l0_1.length c0_1, .int .u64 a0_2, .slice A0_3 l0_3.length c0_3] l0_3 a0_2 (l0_0, m2))
    (fun pre A A' row hs hg hr => hs.imp (fun st h => ⟨h.1, h.2.own hg (fun r e => ⟨Nat.le_trans S3.out (hr r e).1, (hr r e).2⟩)⟩))
    (mapX_own S3.out) ⟨_, rfl, M0.out⟩ (fun x => { tmps := #[.agg #[.slice A0_0 l0_0.length c0_0, .slice A0_1 l0_1.length c0_1, .int .u64 a0_2, .slice A0_3 l0_3.length c0_3], .int .u32 a, .int .u32 n, .int .i64 q, .pointer (some ⟨w.heap.size, 0, none⟩), undef, undef, undef, .pointer (some ⟨w.heap.size + 1, 0, none⟩), .pointer (some ⟨w.heap.size + 1 + 1, 0, none⟩), .pointer (some ⟨gw + 1, 0, none⟩), .int .u64 (x % 18446744073709551616), undef, undef, undef, undef, undef, undef, .int .u32 a, .int .u32 n, .int .i64 q, .bool false, undef, .agg #[.slice A0_0 l0_0.length c0_0, .slice A0_1 l0_1.length c0_1, .int .u64 a0_2, .slice A0_3 l0_3.length c0_3], .agg #[.slice A0_0 l0_0.length c0_0, .slice A0_1 l0_1.length c0_1, .int .u64 a0_2, .slice A0_3 l0_3.length c0_3], .pointer (some ⟨gw, 0, none⟩), .pointer (some ⟨gw, 0, none⟩), .int .u32 a, .int .u32 n, .tuple #[], .int .u32 n, .pointer (some ⟨gw, 0, none⟩), .pointer (some ⟨gw, 0, none⟩), .pointer (some ⟨gw, 0, none⟩), .pointer (some ⟨gw, 3, none⟩), .slice A3 p2.length c3, .int .i64 (p2.length : Int), .int .i64 (wrap64 (256 - (p2.length : Int))), .int .u32 ((wrap64 (256 - (p2.length : Int))) % 4294967296), .bool false, undef, .pointer (some ⟨gw, 0, none⟩), .int .u32 a, .int .u32 n, .func (.func 121) #[] #[.pointer (some ⟨B, 0, none⟩), .pointer (some ⟨B + 1, 0, none⟩), .pointer (some ⟨B + 1 + 1, 0, none⟩)], .int .u64 (x % 18446744073709551616), undef, undef, undef, undef, undef, undef, undef, undef, undef, undef, undef, undef, undef, undef, undef, undef, undef, undef, undef, undef, undef, undef, undef, undef, undef, undef, undef, undef, undef, undef, undef, undef, undef, undef, undef, undef, undef, undef, undef, undef, undef, undef, undef, undef, undef, undef, undef, undef, undef, undef, undef, undef, undef, undef, undef, undef, undef, undef, undef, undef, undef, undef, undef, undef], defers := [] }) ?assign ?body ?done ?stop
  case assign =>
    intro l x W K hK
    gi_wp2
    exact hK
  case body =>
    rintro l pre x W ⟨st, hst, hM⟩ hlen
    have hx : 0 ≤ x % 18446744073709551616 ∧ x % 18446744073709551616 ≤ 18446744073709551615 := by omega
    have HX := Lib.hid hx
    clear hx
    have HST : Hid (mapLoop l0_3 a0_2 ((pre ++ [x]).map (fun x => x % 18446744073709551616)) (l0_0, m2) = mapStep l0_3 a0_2 st (x % 18446744073709551616)) := by
      rw [List.map_append, List.map_singleton, mapLoop_snoc, hst, Option.bind_some]
      exact rfl
    clear hst hlen
    have M := Lib.hid hM
    clear hM
    generalize x % 18446744073709551616 = xx at HX HST ⊢
    have q4_0 := (sblk_cell M.out.c4 0).trans rfl
    have q4_1 := (sblk_cell M.out.c4 1).trans rfl
    have q4_2 := (sblk_cell M.out.c4 2).trans rfl
    have q4_3 := (sblk_cell M.out.c4 3).trans rfl
    cases hu : usedS l0_3 a0_2 xx
    rotate_left
    · skip
      gi_wp2_with (refine ⟨trivial, ?_⟩; gi_at_call 95; refine (CallsIn.inRound l (callsIn_wide.2 (UE.out _ M.out.bel xx))).mono ?_; rintro e W1 ⟨rfl, hb1⟩; have hK1 := keeps_below hb1; have M1 := Lib.hid (M.out.below hb1); have K1 := Lib.hid hK1; clear hb1 hK1 M q4_0 q4_1 q4_2 q4_3)
      exact ⟨K1.out.from _, fun _ => M1.out.inv, st, by rw [HST.out]; unfold mapStep; rw [if_pos hu], M1.out⟩
    gi_wp2_with (fail)
    refine ⟨trivial, ?_⟩
    gi_at_call 95
    refine (CallsIn.inRound l (callsIn_wide.2 (UE.out _ M.out.bel xx))).mono ?_
    rintro e W1 ⟨rfl, hb1⟩
    have hK1 := keeps_below hb1
    have M1 := Lib.hid (M.out.below hb1)
    have K1 := Lib.hid hK1
    clear hb1 hK1 M q4_0 q4_1 q4_2 q4_3
    have HU := Lib.hid hu
    obtain ⟨E0, e0, E1, e1, E3, e3, hcw, hrw, how⟩ := M1.out.cw
    have CW := Lib.hid hcw
    have RW := Lib.hid hrw
    have OW := Lib.hid how
    clear hcw hrw how
    have q10_0 := (sblk_cell M1.out.c10 0).trans rfl
    have qW_0 := (sblk_cell CW.out 0).trans rfl
    have qW_1 := (sblk_cell CW.out 1).trans rfl
    have qW_2 := (sblk_cell CW.out 2).trans rfl
    have qW_3 := (sblk_cell CW.out 3).trans rfl
    gi_wp2_with (fail)
    refine ⟨trivial, ?_⟩
    gi_at_call 96
    refine (CallsIn.inRound l (callsIn_wide.2 (gHMap_V RW.out M1.out.fit xx HX.out.1 HX.out.2))).mono ?_
    rintro e W2 ⟨A', c', B', d', rfl, hR2, hb2⟩
    have hf := M1.out.fit.map (p := 3) (n := 1) HX.out.1
    obtain ⟨⟨ml, mm, me⟩, hS⟩ : ∃ s, mapS st.1 st.2 xx 1 3 = s := ⟨_, rfl⟩
    rw [hS] at hR2 hf ⊢
    dsimp only at hR2 hf ⊢
    have z10 := sblk_lt M1.out.c10
    have M3 := Lib.hid ((M1.out.below hb2).below (below_new W2 (.cells #[.slice A' ml.length c', .slice B' mm.length d'] 25)))
    have K3 := Lib.hid ((K1.out.trans (keeps_below hb2)).trans (KeepsOthers.alloc W2 (.cells #[.slice A' ml.length c', .slice B' mm.length d'] 25)))
    have R3 := Lib.hid ((hR2.wide (ok' := okGM okI w gw E3) (fun k hk => hk.1.elim id (fun h => ⟨.inr (by omega), fun g e => by have := (OW.out.lt e).2; omega⟩))).below (below_new W2 (.cells #[.slice A' ml.length c', .slice B' mm.length d'] 25)))
    have C3 := Lib.hid (blk_below (blk_below CW.out hb2) (below_new W2 (.cells #[.slice A' ml.length c', .slice B' mm.length d'] 25)))
    have O3 := Lib.hid ((OW.out.move (fun k _ hk => hb2.block k hk)).move (fun k _ hk => (below_new W2 (.cells #[.slice A' ml.length c', .slice B' mm.length d'] 25)).block k hk))
    have F3 := Lib.hid hf
    have N3 := Lib.hid (blk_new W2 (.cells #[.slice A' ml.length c', .slice B' mm.length d'] 25))
    have HS := Lib.hid hS
    clear hS hf hR2 hb2 z10 K1 M1 CW RW OW qW_0 qW_1 qW_2 qW_3 q10_0
    by_cases he : me = 0
    rotate_left
    · skip
      have HE := Lib.hid he
      have q4_0 := (sblk_cell M3.out.c4 0).trans rfl
      have q4_1 := (sblk_cell M3.out.c4 1).trans rfl
      have q4_2 := (sblk_cell M3.out.c4 2).trans rfl
      have q4_3 := (sblk_cell M3.out.c4 3).trans rfl
      have q8_0 := (sblk_cell M3.out.c8 0).trans rfl
      have q8_1 := (sblk_cell M3.out.c8 1).trans rfl
      have q8_2 := (sblk_cell M3.out.c8 2).trans rfl
      have q8_3 := (sblk_cell M3.out.c8 3).trans rfl
      have q9_0 := (sblk_cell M3.out.c9 0).trans rfl
      have f8_0 := sblk_free M3.out.c8 0
      have f8_1 := sblk_free M3.out.c8 1
      have f8_2 := sblk_free M3.out.c8 2
      have f8_3 := sblk_free M3.out.c8 3
      have f9_0 := sblk_free M3.out.c9 0
      gi_wp2
      obtain ⟨u8, u9, uk, ub⟩ := ret_put M3.out.c8 M3.out.c9 (by omega) (.slice A0_0 l0_0.length c0_0) (.slice A0_1 l0_1.length c0_1) (.int .u64 a0_2) (.slice A0_3 l0_3.length c0_3) (.int .i64 105)
      exact ⟨(K3.out.trans (keeps_two M3.out.c8 M3.out.c9 (ub 0 (Nat.zero_le _) (Nat.zero_le _)).size (fun k h1 h2 _ => uk k h1 h2))).from _, rfl, by rw [HST.out]; unfold mapStep; rw [if_neg (by rw [HU.out]; decide), HS.out]; exact if_neg HE.out, M3.out.bel.trans (ub w.heap.size (by omega) (by omega)), u8, u9⟩
    obtain rfl := he
    have q10_0 := (sblk_cell M3.out.c10 0).trans rfl
    have qC3_0 := (sblk_cell C3.out 0).trans rfl
    have qC3_1 := (sblk_cell C3.out 1).trans rfl
    have qC3_2 := (sblk_cell C3.out 2).trans rfl
    have qC3_3 := (sblk_cell C3.out 3).trans rfl
    have f3_0 := sblk_free C3.out 0
    have f3_1 := sblk_free C3.out 1
    have qN3_0 := (sblk_cell N3.out 0).trans rfl
    have qN3_1 := (sblk_cell N3.out 1).trans rfl
    gi_wp2
    have MP := M3.out.put SZ.out.1 SZ.out.2 C3.out R3.out O3.out F3.out
    exact ⟨(K3.out.trans ((KeepsOthers.setCell _ _ _).trans (KeepsOthers.setCell _ _ _))).from _, fun _ => MP.inv, (ml, mm), by rw [HST.out]; unfold mapStep; rw [if_neg (by rw [HU.out]; decide), HS.out]; exact if_pos rfl, MP⟩
  case stop =>
    rintro D c pre W hD hpre ⟨rfl, hnone, hB, h8, h9⟩ hK
    have hn2 : mapLoop l0_3 a0_2 (hostsL (hoS a0_2 a) (hiG a0_2 a n)) (l0_0, m2) = none := mapLoop_none hnone (by have h := hpre.map (fun x => x % 18446744073709551616); rwa [hostsG_mod] at h)
    have HQ := HR.out
    unfold gMapS at HQ
    rw [EP.out, EM.out, if_neg (by rw [HW.out]; decide), if_neg (of_decide_eq_false HN.out), hn2] at HQ
    dsimp only at HQ
    cases HQ
    have hbD := fun o' => belowK_b (n₀ := w.heap.size) (w := w) (Nat.le_refl _) W D _ o' (Nat.le_trans S3.out hD) hK rfl rfl
    have L8 := sblk_lt M0.out.c9
    have d8 : D ≠ w.heap.size + 1 := by omega
    have d9 : D ≠ w.heap.size + 1 + 1 := by omega
    have HD := Lib.hid hbD
    have H8 := Lib.hid h8
    have H9 := Lib.hid h9
    have HB := Lib.hid hB
    clear hbD h8 h9 hB hn2 hnone
    gi_wp2
    refine ⟨by simp, .inl ⟨_, _, rfl, run_takeDeferred hK, ?_⟩⟩
    have u8 := (World.putObj_heap_other (o := .deferred none) (w := W) (show w.heap.size + 1 ≠ D by omega)).trans H8.out
    have u9 := (World.putObj_heap_other (o := .deferred none) (w := W) (show w.heap.size + 1 + 1 ≠ D by omega)).trans H9.out
    have e0 := (sblk_cell u8 0).trans rfl
    have e1 := (sblk_cell u8 1).trans rfl
    have e2 := (sblk_cell u8 2).trans rfl
    have e3 := (sblk_cell u8 3).trans rfl
    have e4 := (sblk_cell u9 0).trans rfl
    have hB := HB.out.trans (HD.out (.deferred none))
    have hV := (RG.out.below hB).wide (ok' := fun k => okI k ∨ w.heap.size ≤ k) (fun k hk => .inl hk.1)
    exact ⟨.tuple #[.agg #[.slice A0_0 l0_0.length c0_0, .slice A0_1 l0_1.length c0_1, .int .u64 a0_2, .slice A0_3 l0_3.length c0_3], .int .i64 105], by simp [results, Try.results64, go_sem, e0, e1, e2, e3, e4], _, _, _, _, _, _, rfl, hV, hB⟩
  case done =>
    rintro D ys W hD rfl ⟨st, hst, hM⟩ hK
    rw [hostsG_mod] at hst
    have HQ := HR.out
    unfold gMapS at HQ
    rw [EP.out, EM.out, if_neg (by rw [HW.out]; decide), if_neg (of_decide_eq_false HN.out), hst] at HQ
    dsimp only at HQ
    cases HQ
    have MW := Lib.hid hM
    have KD := Lib.hid hK
    have DD := Lib.hid (Nat.le_trans S3.out hD)
    clear hM hK hst HR
    have M9 := Lib.hid (Nat.le_trans (Nat.le_of_lt (sblk_lt M0.out.h2)) hD)
    clear hD
    obtain ⟨nn, rfl⟩ := Int.eq_ofNat_of_zero_le NN.out.1
    have hwl : wrap64 (256 - (p2.length : Int)) = 256 - (p2.length : Int) := by
      have h1 := delS_len l0_3 a (nn : Int)
      rw [EP.out] at h1
      have := LP.out
      unfold wrap64
      omega
    have hn3 := of_decide_eq_false HN.out
    rw [hwl] at hn3
    have NB := Lib.hid (show nn ≤ 256 ∧ p2.length ≤ 256 by have h1 := delS_len l0_3 a (nn : Int); rw [EP.out] at h1; have := LP.out; omega)
    clear hwl hn3
    have HN0 : Hid (0 < nn) := by
      refine Lib.hid (Nat.pos_of_ne_zero (fun e => ?_))
      subst e
      have h := HW.out
      unfold gwrongS guest_wrong.f at h
      exact absurd h (by simp)
    have nb1 := NB.out.1
    obtain ⟨i0, hi0, hii⟩ := Option.map_eq_some_iff.1 info41
    simp only [Prod.mk.injEq] at hii
    obtain ⟨hz0, hzs, hzb⟩ := hii
    have hmk := run_make (P := Try.prog) W 27 41 i0 _ Try.underlying27 hi0 hz0 .u32 .u32 (nn : Int) (nn : Int) (by omega) (by omega) (by rw [hzb]; omega) (by omega)
    simp only [Int.toNat_natCast, hzs] at hmk
    have hme := pg_flat_of (Kd.reps_made (R := (k41).M W 0 (fun _ => True)) (z := (.agg #[(.int .u32 0), (.int .i64 0)] : Value)) (z0 := ⟨0, 0⟩) (size := 2) rfl (by decide) (k41_mkM _ _ _ _) nn)
    have hms : (madeCells (.agg #[(.int .u32 0), (.int .i64 0)] : Value).cells (nn * 2)).size = nn * 2 := by simp [size_madeCells]
    generalize madeCells (.agg #[(.int .u32 0), (.int .i64 0)] : Value).cells (nn * 2) = made at hmk hme hms
    have O3 := Lib.hid (show OwnB pgE 41 (W.alloc (.cells made 41)) W.heap.size nn (List.replicate nn ⟨0, 0⟩) from ⟨made, blk_new W _, hms, by omega, by rw [List.length_replicate]; exact Nat.le_refl _, by rw [List.length_replicate, hme]; exact List.take_of_length_le (by rw [flat_len pgE_2, List.length_replicate]; exact Nat.le_refl _)⟩)
    have D3 := Lib.hid (below_new W (.cells made 41))
    have Z3 := Lib.hid (show W.heap.size < (W.alloc (.cells made 41)).heap.size by rw [World.size_alloc]; omega)
    clear hms hme hi0 hz0 hzs hzb nb1
    go_wp2
    clear hmk
    generalize W.alloc (.cells made 41) = w3 at O3 D3 Z3 ⊢
    go_loopw [15, 71] (fun t15 t71 wr => ∃ k : Nat, t71 = .int .i64 k ∧ k ≤ nn ∧ Hid (OwnB pgE 41 wr W.heap.size nn ((moreG a nn q).take k ++ (List.replicate nn (⟨0, 0⟩ : SP)).drop k)) ∧ Hid (Below W.heap.size W wr) ∧ Hid (W.heap.size < wr.heap.size)) (fun _ t71 _ => nn - (intOf t71).toNat)
    case atStart => exact ⟨0, rfl, Nat.zero_le _, by simpa using O3, D3, Z3⟩
    case round =>
      obtain ⟨k, rfl, hk, O, U, Z⟩ := hrel
      have hml : (moreG a nn q).length = nn := by simp [moreG]
      have hol : ((moreG a nn q).take k ++ (List.replicate nn (⟨0, 0⟩ : SP)).drop k).length = nn := by
        rw [List.length_append, List.length_take, List.length_drop, List.length_replicate, hml]
        omega
      by_cases hlt : k < nn
      · skip
        have e0 := O.out.cell pgE_2 (show k < _ by rw [hol]; exact hlt) (j := 0) (by omega)
        have e1 := O.out.cell pgE_2 (show k < _ by rw [hol]; exact hlt) (j := 1) (by omega)
        have z0 := O.out.free (k * 2)
        have z1 := O.out.free (k * 2 + 1)
        generalize ((moreG a nn q).take k ++ (List.replicate nn (⟨0, 0⟩ : SP)).drop k)[k]'(by rw [hol]; exact hlt) = y at e0 e1
        simp only [pgE, List.getElem?_cons_zero, List.getElem?_cons_succ, Nat.add_zero] at e0 e1
        have HOL := Lib.hid hol
        have HML := Lib.hid hml
        clear hol hml
        have nb1 := NB.out.1
        go_wp2
        have hg : wr.grownBy (wr.setCells W.heap.size (k * 2) ([(⟨(a + (k : Int)) % 4294967296, q⟩ : SP)].flatMap pgE)) (some W.heap.size) := grown_setCells _ _
        refine ⟨⟨k + 1, by go_num, hlt, Lib.hid ?_, Lib.hid (below_of_grown U.out hg (Nat.le_refl _) U.out.size), Lib.hid (Nat.lt_of_lt_of_le Z.out hg.size)⟩, by simp [intOf]; omega⟩
        have h := O.out.put pgE_2 k [(⟨(a + (k : Int)) % 4294967296, q⟩ : SP)] (by rw [HOL.out]; omega) (by simp; omega)
        have hkm : k < (moreG a nn q).length := by rw [HML.out]; exact hlt
        have hx : (moreG a nn q)[k] = ⟨(a + (k : Int)) % 4294967296, q⟩ := by simp [moreG]
        have e1 : ((moreG a nn q).take k ++ (List.replicate nn (⟨0, 0⟩ : SP)).drop k).take k = (moreG a nn q).take k := List.take_left' (by rw [List.length_take]; omega)
        have e2 : ((moreG a nn q).take k ++ (List.replicate nn (⟨0, 0⟩ : SP)).drop k).drop (k + [(⟨(a + (k : Int)) % 4294967296, q⟩ : SP)].length) = (List.replicate nn (⟨0, 0⟩ : SP)).drop (k + 1) := by
          rw [List.length_singleton, ← List.drop_drop, List.drop_left' (by rw [List.length_take]; omega), List.drop_drop]
        rw [e1, e2, ← hx, ← List.take_succ_eq_append_getElem hkm] at h
        rw [hx] at h
        exact h
      obtain rfl : k = nn := by omega
      have e1 : (moreG a k q).take k ++ (List.replicate k (⟨0, 0⟩ : SP)).drop k = moreG a k q := by
        rw [List.take_of_length_le (by omega), List.drop_eq_nil_of_le (by rw [List.length_replicate]; exact Nat.le_refl _), List.append_nil]
      rw [e1] at O
      have HML := Lib.hid hml
      clear hol hml e1 hlt hk O3 D3 Z3
      have M4 := Lib.hid (MW.out.below U.out)
      have K4 := Lib.hid ((U.out.block D (sblk_lt KD.out)).trans KD.out)
      obtain ⟨E0, e0, E1, e1, E3, e3, hcw, hrw, how⟩ := MW.out.cw
      have GG := Lib.hid (fun g (e : E3 = some ⟨g, 0, none⟩) => show W.heap.size ≠ g from by have := (how.lt e).2; omega)
      have CW := Lib.hid (blk_below hcw U.out)
      have RW := Lib.hid (hrw.below U.out)
      have OWN := Lib.hid (how.move (fun k _ hk => U.out.block k hk))
      clear MW KD hcw hrw how
      have q10_0 := (sblk_cell M4.out.c10 0).trans rfl
      have qW_0 := (sblk_cell CW.out 0).trans rfl
      have qW_1 := (sblk_cell CW.out 1).trans rfl
      have qW_2 := (sblk_cell CW.out 2).trans rfl
      have qW_3 := (sblk_cell CW.out 3).trans rfl
      have hkk : decide ((k : Int) < (k : Int)) = false := decide_eq_false (by omega)
      go_wp2_with (fail)
      have RP := Lib.hid (show Rises pgK p2 from EP.out ▸ rises_filter pgK _ SS.out)
      refine (guest_at.calls E3 e3 p2 a _ _ wr OWN.out.C.1 OWN.out.C.2 (at_f (Nat.le_trans NB.out.2 (by decide)) RP.out a)).mono ?_
      rintro e w5 ⟨rfl, hb5⟩
      have M5 := Lib.hid (M4.out.below hb5)
      have K5 := Lib.hid ((hb5.block D (sblk_lt K4.out)).trans K4.out)
      have C5 := Lib.hid (blk_below CW.out hb5)
      have R5 := Lib.hid (RW.out.below hb5)
      have W5 := Lib.hid (OWN.out.move (fun k _ hk => hb5.block k hk))
      have O5 := Lib.hid (O.out.below hb5)
      clear hb5 M4 K4 CW RW OWN O U Z hkk q10_0 qW_0 qW_1 qW_2 qW_3
      go_wp2_with (fail)
      have INS := Lib.hid (fun Wc (hB : Below w5.heap.size w5 Wc) => by
        have h := gIns.calls (i := lowB pgK a p2) (gv := W.heap.size) (vc := k) (N := gw + 1 + 1) (vs := moreG a k q) (W := Wc) (W5.out.move (fun k _ hk => hB.block k hk)) (Nat.le_trans (sblk_lt M5.out.c10) hB.size) (O5.out.below hB) GG.out (Nat.le_trans NB.out.2 (by decide)) (by rw [HML.out]; exact Nat.le_trans NB.out.1 (by decide)) (by rw [HML.out]; exact HN0.out) (lowB_le _ _ _)
        rw [HML.out] at h
        exact h)
      have CH := Lib.hid (show Chain [w5] w5 from ⟨Below.refl _ _, trivial⟩)
      have BKa := Lib.hid M5.out.c10
      have SZ1 := SZ.out.1
      have SZ2 := SZ.out.2
      refine ends_of ?_
      replace CH := Lib.hid CH.out.drew
      refine start_ (n := 13) (S := fun w' => w'.cell? ⟨(gw + 1), 0, none⟩ = some (.pointer (some ⟨gw, 0, none⟩)) ∧ w'.cell? ⟨gw, 0, none⟩ = some (.slice E0 st.1.length e0) ∧ w'.cell? ⟨gw, 1, none⟩ = some (.slice E1 st.2.length e1) ∧ w'.cell? ⟨gw, 2, none⟩ = some (.int .u64 a0_2) ∧ w'.cell? ⟨gw, 3, none⟩ = some (.slice E3 p2.length e3)) (ds := [12]) (ms_ 13 0) (by kernel_rfl) rfl rfl ⟨((box_cell BKa.out CH.out.head 0).trans rfl), ((box_cell C5.out CH.out.head 0).trans rfl), ((box_cell C5.out CH.out.head 1).trans rfl), ((box_cell C5.out CH.out.head 2).trans rfl), ((box_cell C5.out CH.out.head 3).trans rfl)⟩ (fun hHeld => ?_)
      refine with_tabW gMap.tab21 gMap.bits21 (fun HT_ HW_ => ?_)
      refine pS_ 6 100 (mb_ 13 64) ?_
      refine pS_ 7 101 (mb_ 13 192) ?_
      refine t5S_ 0 94 (mb_ 13 193) ?_
      refine t5S_ 1 95 (mb_ 13 195) ?_
      refine pS_ 2 96 (mb_ 13 199) ?_
      refine pS_ 3 97 (mb_ 13 207) ?_
      refine pS_ 4 98 (mb_ 13 223) ?_
      refine t5S_ 5 99 (mb_ 13 255) ?_
      refine one_ (i := 8) (N := some 102) (mb_ 13 511) rfl rfl (one_of HT_.out (by kernel_rfl)) (by decide) (fun K hK => ?_)
      refine goes_ Try.func98 (by kernel_rfl) rfl #[.slice E3 p2.length e3, .int .i64 (lowB pgK a p2 : Nat), .slice (some ⟨W.heap.size, 0, none⟩) k k] (by rfl) rfl rfl (by simp only [List.map_toArray, List.map_cons, List.map_nil]; rfl) ?_
      with_reducible refine (INS.out _ CH.out.head).mono ?_
      rintro e wx ⟨g', cap', rfl, hO6, hg6, hb6, hk6⟩
      refine ⟨_, rfl, ?_⟩
      have J := Lib.hid (show ∀ k, k < w5.heap.size → (∀ g, E3 = some ⟨g, 0, none⟩ → k ≠ g) → wx.heap[k]? = w5.heap[k]? from fun k h1 h2 => (hk6 k (Nat.lt_of_lt_of_le h1 CH.out.head.size) h2).trans (CH.out.head.block k h1))
      have S6 := Lib.hid (Nat.le_trans CH.out.head.size hb6.size)
      have B6 := Lib.hid ((CH.out.head.mono (B' := gw + 1 + 1) (sblk_lt M5.out.c10)).trans hb6)
      have O6 := Lib.hid hO6
      have G6 := Lib.hid hg6
      clear CH hO6 hg6 hb6 hk6
      have C6 := Lib.hid ((B6.out.block gw (by omega)).trans C5.out)
      have q25_3 := (sblk_cell C6.out 3).trans rfl
      have f25_3 := sblk_free C6.out 3
      refine hK.out _ _ ⟨((sblk_cell ((B6.out.block (gw + 1) (by omega)).trans BKa.out) 0).trans rfl), ((sblk_cell C6.out 0).trans rfl), ((sblk_cell C6.out 1).trans rfl), ((sblk_cell C6.out 2).trans rfl), ((sblk_cell C6.out 3).trans rfl)⟩ (fun hHeld => ?_)
      clear hK K
      refine nS_ ?_
      refine pS_ 9 103 (mb_ 13 1023) ?_
      refine pS_ 10 104 (mb_ 13 2047) ?_
      refine pS_ 11 105 (mb_ 13 4095) ?_
      refine last_ (i := 12) (N := none) (mb_ 13 8191) rfl rfl (one_of HT_.out (by kernel_rfl)) (by decide) (fun K hK => ?_)
      refine skip_ (w1 := ?_) (by rfl) rfl ?_ ?_
      rotate_left
      · go_simp
        rfl
      have C7 := Lib.hid (show (wx.setCell ⟨gw, 3, none⟩ (.slice (some ⟨g', 0, none⟩) (p2.length + k) cap')).heap[gw]? = some (.cells #[.slice E0 st.1.length e0, .slice E1 st.2.length e1, .int .u64 a0_2, .slice (some ⟨g', 0, none⟩) (p2.length + k) cap'] 135 (0, 0)) from blk_put C6.out 3 _ rfl)
      have B7 : Hid (∀ j, j < gw → (wx.setCell ⟨gw, 3, none⟩ (.slice (some ⟨g', 0, none⟩) (p2.length + k) cap')).heap[j]? = w5.heap[j]?) := Lib.hid (fun j hk => (set_far (by omega)).trans (B6.out.block j (by omega)))
      have c7 := Lib.hid (show (wx.setCell ⟨gw, 3, none⟩ (.slice (some ⟨g', 0, none⟩) (p2.length + k) cap')).heap[gw + 1]? = w5.heap[gw + 1]? from (set_far (by omega)).trans (B6.out.block _ (by omega)))
      have K7 := Lib.hid (show (wx.setCell ⟨gw, 3, none⟩ (.slice (some ⟨g', 0, none⟩) (p2.length + k) cap')).heap[D]? = some (.deferred (some [])) from (set_far (fun e => by have h := K5.out; rw [e, C5.out] at h; cases h)).trans ((J.out D (sblk_lt K5.out) (fun g e e2 => by have h := K5.out; obtain ⟨cur, h2, _⟩ := (W5.out.elim (fun h => absurd (h.1.symm.trans e) (by simp)) (fun ⟨g2, h3, _, h4⟩ => by cases (h3.symm.trans e); exact h4) : OwnB pgE 41 w5 g e3 p2); rw [e2, h2] at h; cases h)).trans K5.out))
      have R7 := Lib.hid (show RowsH (wx.setCell ⟨gw, 3, none⟩ (.slice (some ⟨g', 0, none⟩) (p2.length + k) cap')) (okGM okI w gw E3) E0 e0 E1 e1 st.1 st.2 from R5.out.move (fun k hk hlt => (set_far (by have h1 := hk.1; omega)).trans (J.out k hlt hk.2)))
      have O7 := Lib.hid (show OwnB pgE 41 (wx.setCell ⟨gw, 3, none⟩ (.slice (some ⟨g', 0, none⟩) (p2.length + k) cap')) g' cap' _ from O6.out.move (set_far (by have := G6.out; omega)))
      have S7 := Lib.hid (show w5.heap.size ≤ (wx.setCell ⟨gw, 3, none⟩ (.slice (some ⟨g', 0, none⟩) (p2.length + k) cap')).heap.size by simpa [World.setCell] using S6.out)
      have P7 := Lib.hid (show (wx.setCell ⟨gw, 3, none⟩ (.slice (some ⟨g', 0, none⟩) (p2.length + k) cap')).os = w5.os ∧ (wx.setCell ⟨gw, 3, none⟩ (.slice (some ⟨g', 0, none⟩) (p2.length + k) cap')).tape = w5.tape ∧ (wx.setCell ⟨gw, 3, none⟩ (.slice (some ⟨g', 0, none⟩) (p2.length + k) cap')).output = w5.output from ⟨B6.out.os, B6.out.tape, B6.out.output⟩)
      clear J S6 B6 O6 C6 q25_3 f25_3
      generalize (wx.setCell ⟨gw, 3, none⟩ (.slice (some ⟨g', 0, none⟩) (p2.length + k) cap')) = y9 at C7 B7 c7 K7 R7 O7 S7 P7 ⊢
      refine hK.out _ _ ?_
      clear hK K
      refine done_ (done_of HT_.out (by kernel_rfl)) ?_
      unfold Ends
      have Q8 := Lib.hid ((B7.out _ (by omega)).trans M5.out.c8)
      have Q9 := Lib.hid ((B7.out _ (by omega)).trans M5.out.c9)
      have Q10 := Lib.hid (c7.out.trans M5.out.c10)
      have BB := Lib.hid (show Below w.heap.size w y9 from M5.out.bel.trans ⟨P7.out.1, P7.out.2.1, P7.out.2.2, S7.out, fun k hk => B7.out k (by omega)⟩)
      clear B7 c7 P7 S7 M5 C5 R5 W5 O5 K5 BKa INS
      have q10_0 := (sblk_cell Q10.out 0).trans rfl
      have q7_0 := (sblk_cell C7.out 0).trans rfl
      have q7_1 := (sblk_cell C7.out 1).trans rfl
      have q7_2 := (sblk_cell C7.out 2).trans rfl
      have q7_3 := (sblk_cell C7.out 3).trans rfl
      have q8_0 := (sblk_cell Q8.out 0).trans rfl
      have q8_1 := (sblk_cell Q8.out 1).trans rfl
      have q8_2 := (sblk_cell Q8.out 2).trans rfl
      have q8_3 := (sblk_cell Q8.out 3).trans rfl
      have q9_0 := (sblk_cell Q9.out 0).trans rfl
      have f8_0 := sblk_free Q8.out 0
      have f8_1 := sblk_free Q8.out 1
      have f8_2 := sblk_free Q8.out 2
      have f8_3 := sblk_free Q8.out 3
      have f9_0 := sblk_free Q9.out 0
      go_wp2
      refine ⟨by simp, .inl ?_⟩
      obtain ⟨v8, v9, uk, ub⟩ := ret_put Q8.out Q9.out (by omega) (.slice E0 st.1.length e0) (.slice E1 st.2.length e1) (.int .u64 a0_2) (.slice (some ⟨g', 0, none⟩) (p2.length + k) cap') (.int .i64 0)
      have hKD := (uk D (fun e => by have h := K7.out; rw [e, Q8.out] at h; cases h) (fun e => by have h := K7.out; rw [e, Q9.out] at h; cases h)).trans K7.out
      refine ⟨_, _, rfl, run_takeDeferred hKD, ?_⟩
      have d8 : D ≠ w.heap.size + 1 := fun e => by have h := K7.out; rw [e, Q8.out] at h; cases h
      have d9 : D ≠ w.heap.size + 1 + 1 := fun e => by have h := K7.out; rw [e, Q9.out] at h; cases h
      have u8 := (World.putObj_heap_other (o := .deferred none) (Ne.symm d8)).trans v8
      have u9 := (World.putObj_heap_other (o := .deferred none) (Ne.symm d9)).trans v9
      have hB := (BB.out.trans (ub w.heap.size (by omega) (by omega))).trans (belowK_b (w := w) (Nat.le_refl _) _ D _ (.deferred none) DD.out hKD rfl rfl)
      have hg := grownBy_putObj' (((((y9.setCell ⟨w.heap.size + 1, 0, none⟩ (.slice E0 st.1.length e0)).setCell ⟨w.heap.size + 1, 1, none⟩ (.slice E1 st.2.length e1)).setCell ⟨w.heap.size + 1, 2, none⟩ (.int .u64 a0_2)).setCell ⟨w.heap.size + 1, 3, none⟩ (.slice (some ⟨g', 0, none⟩) (p2.length + k) cap')).setCell ⟨w.heap.size + 1 + 1, 0, none⟩ (.int .i64 0)) D (.deferred none)
      have hR := (R7.out.move (fun j hj hlt => uk j (by have h1 := hj.1; omega) (by have h1 := hj.1; omega))).own hg (fun r e => by cases e; exact ⟨_, hKD, rfl⟩)
      have hO := ((show OwnP y9 (gw + 1 + 1) (some ⟨g', 0, none⟩) cap' _ from .inr ⟨g', rfl, G6.out, O7.out⟩).move (fun j hj hlt => uk j (by omega) (by omega))).own hg (fun r e => by cases e; exact ⟨_, hKD, rfl⟩)
      have hlen : (p2.take (lowB pgK a p2) ++ moreG a k q ++ p2.drop (lowB pgK a p2)).length = p2.length + k := by
        have h1 := lowB_le pgK a p2
        rw [List.length_append, List.length_append, List.length_take, List.length_drop, HML.out]
        omega
      have re0 := (sblk_cell u8 0).trans rfl
      have re1 := (sblk_cell u8 1).trans rfl
      have re2 := (sblk_cell u8 2).trans rfl
      have re3 := (sblk_cell u8 3).trans rfl
      have re4 := (sblk_cell u9 0).trans rfl
      rw [Int.toNat_natCast]
      exact ⟨.tuple #[.agg #[.slice E0 st.1.length e0, .slice E1 st.2.length e1, .int .u64 a0_2, .slice (some ⟨g', 0, none⟩) (p2.length + k) cap'], .int .i64 0], by simp [results, Try.results64, go_sem, re0, re1, re2, re3, re4], E0, _, E1, _, some ⟨g', 0, none⟩, cap', by rw [hlen], ⟨(hR.wide (ok' := fun k => okI k ∨ w.heap.size ≤ k) (fun k hk => hk.1.elim (fun h => .inl h.1) (fun h => .inr (by omega)))).1, (hR.wide (ok' := fun k => okI k ∨ w.heap.size ≤ k) (fun k hk => hk.1.elim (fun h => .inl h.1) (fun h => .inr (by omega)))).2, Kd.V_mono hO.V (fun k hk => .inr (by omega))⟩, hB⟩
end Go.Proofs.Ytgkjdpdmmlalcaa.F
end
