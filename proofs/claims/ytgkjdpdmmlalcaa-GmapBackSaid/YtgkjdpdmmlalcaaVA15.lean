import Derived.Test.YtgkjdpdmmlalcaaVZF0
import Derived.Test.YtgkjdpdmmlalcaaVA0
import Derived.Test.YtgkjdpdmmlalcaaVA4HHost3
import Derived.Test.YtgkjdpdmmlalcaaVA6HHost11
import Derived.Test.YtgkjdpdmmlalcaaVA11
import Derived.Test.YtgkjdpdmmlalcaaVA13
import Derived.Test.YtgkjdpdmmlalcaaVA14HGuest4
section
namespace Go.Proofs.Ytgkjdpdmmlalcaa.F
open Go.RowKit Go.Shelf Go.Proofs.YtgkjdpdmmlalcaaW.PrintWords Go.Proofs.YtgkjdpdmmlalcaaW.PrintLast Go.Proofs.YtgkjdpdmmlalcaaW.PrintMore
set_option linter.unusedVariables false
set_option linter.unusedSimpArgs false
def Flat {α : Type} (d : Kd α) : Prop := ∀ (W W' : World) (x : α) (c : List Value), d.K W x c → d.K W' x c
theorem kM_flat : Flat kM := fun _ _ _ _ h => h
theorem kC_flat : Flat kC := fun _ _ _ _ h => h
def IsC (W : World) (k : Nat) : Prop := ∃ cs t f, W.heap[k]? = some (.cells cs t f)
theorem isC_of_cell {W : World} {a : Addr} {u : Value} (h : W.cell? a = some u) : IsC W a.block := by
  unfold World.cell? at h
  cases hb : W.heap[a.block]? with
  | none => rw [hb] at h; cases h
  | some o =>
    rw [hb] at h
    cases o with
    | cells cs t f => exact ⟨cs, t, f, hb⟩
    | _ => cases h
theorem gadd_block (a : Addr) (n : Nat) : (a.add n).block = a.block := by unfold Addr.add; split <;> rfl
theorem C_block {α : Type} {d : Kd α} {W : World} {p : Addr} {n : Nat} {xs : List α} (h : Kd.C d W (some p) n xs) (hs : 0 < d.sz) (hn : 0 < n) : IsC W p.block := by
  obtain ⟨ad, e, hc⟩ := h.2.2 hn
  obtain rfl := Option.some.inj e
  have hl := h.1
  obtain ⟨c, hcl, _, hcell⟩ := hc 0 _ (List.getElem?_eq_getElem (by omega))
  exact gadd_block p (0 * d.sz + 0) ▸ isC_of_cell (hcell 0 c[0] (List.getElem?_eq_getElem (by omega)))
theorem C_same {α : Type} {d : Kd α} (hf : Flat d) {W W' : World} {A : Option Addr} {n : Nat} {xs : List α} (h : Kd.C d W A n xs) (hA : ∀ p, A = some p → 0 < n → W'.heap[p.block]? = W.heap[p.block]?) : Kd.C d W' A n xs := by
  refine ⟨h.1, h.2.1, fun hn => ?_⟩
  obtain ⟨ad, e, hc⟩ := h.2.2 hn
  refine ⟨ad, e, fun j p hj => ?_⟩
  obtain ⟨c, h1, h2, h3⟩ := hc j p hj
  exact ⟨c, h1, hf _ _ _ _ h2, fun i u hu => (World.cell?_of_block (a := ad.add (j * d.sz + i)) (by rw [gadd_block]; exact hA ad e hn)).trans (h3 i u hu)⟩
theorem F_in {α : Type} {d : Kd α} {W : World} {ok : Nat → Prop} {p : Addr} {n : Nat} {xs : List α} (h : Kd.F d W ok (some p) n xs) (hs : 0 < d.sz) (hn : 0 < n) : ok p.block := by
  refine Classical.byContradiction (fun hno => ?_)
  have h1 := h (W.putObj p.block (.deferred none)) (fun k hk _ => World.putObj_heap_other (fun e => hno (e ▸ hk)))
  obtain ⟨cs, t, f, h2⟩ := C_block h1 hs hn
  unfold World.putObj at h2
  rw [Array.getElem?_setIfInBounds_self] at h2
  split at h2 <;> cases h2
theorem F_cells {α : Type} {d : Kd α} (hf : Flat d) (hs : 0 < d.sz) {W : World} {ok : Nat → Prop} {A : Option Addr} {n : Nat} {xs : List α} (h : Kd.F d W ok A n xs) : Kd.F d W (fun k => ok k ∧ IsC W k) A n xs := fun W' hW =>
  C_same hf (Kd.F_now h) (fun p e hn => by
    subst e
    have hc := C_block (Kd.F_now h) hs hn
    obtain ⟨cs, t, f, h2⟩ := hc
    exact hW p.block ⟨F_in h hs hn, ⟨cs, t, f, h2⟩⟩ (sblk_lt h2))
theorem V_cells {α : Type} {d : Kd α} (hf : Flat d) (hs : 0 < d.sz) {e B : Nat} {W : World} {ok : Nat → Prop} {v : Value} {xs : List α} (h : Kd.V d e W B ok v xs) : Kd.V d e W B (fun k => ok k ∧ IsC W k) v xs := by
  obtain ⟨A, c, ev, hc, hF⟩ := h
  exact ⟨A, c, ev, hc, F_cells hf hs hF⟩
theorem RowsH.own {W W' : World} {ok : Nat → Prop} {A0 A1 : Option Addr} {c0 c1 : Nat} {l : List SM} {m : List SC} {row : Option Nat} (h : RowsH W ok A0 c0 A1 c1 l m) (hg : W.grownBy W' row) (hr : ∀ r, row = some r → ∃ o : Obj, W.heap[r]? = some o ∧ o.isCells = false) : RowsH W' ok A0 c0 A1 c1 l m := by
  have h2 : RowsH W (fun k => ok k ∧ IsC W k) A0 c0 A1 c1 l m := ⟨V_cells kM_flat (by decide) h.1, V_cells kC_flat (by decide) h.2⟩
  refine (h2.move (fun k hk hlt => hg.block k hlt (fun e => ?_))).wide (fun k hk => hk.1)
  obtain ⟨o, ho, hc⟩ := hr k e.symm
  obtain ⟨cs, t, f, h3⟩ := hk.2
  rw [h3] at ho
  cases ho
  cases hc
theorem blk_own {W W' : World} {row : Option Nat} {b : Nat} {cs : Array Value} {t : TypeId} {f : Nat × Nat} (h : W.heap[b]? = some (.cells cs t f)) (hg : W.grownBy W' row) (hr : ∀ r, row = some r → ∃ o : Obj, W.heap[r]? = some o ∧ o.isCells = false) : W'.heap[b]? = some (.cells cs t f) := by
  refine (hg.block b (sblk_lt h) (fun e => ?_)).trans h
  obtain ⟨o, ho, hc⟩ := hr b e.symm
  rw [h] at ho
  cases ho
  cases hc
set_option maxHeartbeats 4000000 in
theorem gPlace_any.calls (A0 : Option Addr) (n0 c0 : Nat) (A1 : Option Addr) (n1 c1 : Nat) (b : Int) (A3 : Option Addr) (n3 c3 : Nat) (a : Int) (w : World) :
    Calls Try.prog 75 #[.agg #[.slice A0 n0 c0, .slice A1 n1 c1, .int .u64 b, .slice A3 n3 c3], .int .u32 a] w fun e w' => e = .returned (.int .u64 (IntKind.u64.wrap (b + IntKind.u64.wrap a))) ∧ Below w.heap.size w w' := by
  have hu := Try.underlying29
  have HB := Lib.hid (below_new w (.cells #[.slice A0 n0 c0, .slice A1 n1 c1, .int .u64 b, .slice A3 n3 c3] 29))
  have q := (sblk_cell (blk_new w (.cells #[.slice A0 n0 c0, .slice A1 n1 c1, .int .u64 b, .slice A3 n3 c3] 29)) 2).trans rfl
  go_enter Try.func75, Try.ntmps75
  go_wp2
  go_ret
  exact ⟨rfl, HB.out⟩
set_option maxHeartbeats 4000000 in
theorem gHostOf_any.calls (A0 : Option Addr) (n0 c0 : Nat) (A1 : Option Addr) (n1 c1 : Nat) (b : Int) (A3 : Option Addr) (n3 c3 : Nat) (a : Int) (w : World) :
    Calls Try.prog 99 #[.agg #[.slice A0 n0 c0, .slice A1 n1 c1, .int .u64 b, .slice A3 n3 c3], .int .u32 a] w fun e w' => e = .returned (.int .u64 (hoS b a)) ∧ Below w.heap.size w w' := by
  have hu := Try.underlying29
  have CH := Lib.hid (below_new w (.cells #[.slice A0 n0 c0, .slice A1 n1 c1, .int .u64 b, .slice A3 n3 c3] 29))
  have BK := Lib.hid (blk_new w (.cells #[.slice A0 n0 c0, .slice A1 n1 c1, .int .u64 b, .slice A3 n3 c3] 29))
  have q0 := (sblk_cell BK.out 0).trans rfl
  have q1 := (sblk_cell BK.out 1).trans rfl
  have q2 := (sblk_cell BK.out 2).trans rfl
  have q3 := (sblk_cell BK.out 3).trans rfl
  go_enter Try.func99, Try.ntmps99
  go_wp2_with (go_at_call 75; (with_reducible refine (gPlace_any.calls A0 n0 c0 A1 n1 c1 b A3 n3 c3 _ _).mono ?_); rintro e w1 ⟨rfl, hb⟩; replace CH := Lib.hid (CH.out.trans (hb.mono CH.out.size)); clear hb)
  go_ret
  have e : IntKind.u64.wrap (a * 4096 % 4294967296) = a * 4096 % 4294967296 := by
    simp [IntKind.wrap, IntKind.bits, IntKind.signed]
    omega
  exact ⟨by unfold hoS; rw [e]; rfl, CH.out⟩
def hostsL (lo hi : Int) : List Int := (List.range (hi + 1 - lo).toNat).map (fun (i : Nat) => lo + (i : Int))
theorem hostsL_len (lo hi : Int) : (hostsL lo hi).length = (hi + 1 - lo).toNat := by simp [hostsL]
theorem hostsL_take (lo hi : Int) (k : Nat) (h : k < (hi + 1 - lo).toNat) : (hostsL lo hi).take (k + 1) = (hostsL lo hi).take k ++ [lo + (k : Int)] := by
  rw [List.take_succ_eq_append_getElem (by rw [hostsL_len]; exact h)]
  congr 2
  simp [hostsL]
def HInv (gw B0 B1 B2 : Nat) (b first n : Int) (W : World) : Prop :=
  W.heap[B0]? = some (.cells #[.pointer (some ⟨gw, 0, none⟩)] 133 (0, 0)) ∧ W.heap[B1]? = some (.cells #[.int .u32 first] 30 (0, 0)) ∧ W.heap[B2]? = some (.cells #[.int .u32 n] 30 (0, 0)) ∧
  ∃ A0 n0 c0 A1 n1 c1 A3 n3 c3, W.heap[gw]? = some (.cells #[.slice A0 n0 c0, .slice A1 n1 c1, .int .u64 b, .slice A3 n3 c3] 135 (0, 0))
theorem HInv.below {gw B0 B1 B2 : Nat} {b first n : Int} {W W' : World} (h : HInv gw B0 B1 B2 b first n W) (hb : Below W.heap.size W W') : HInv gw B0 B1 B2 b first n W' := by
  obtain ⟨h0, h1, h2, A0, n0, c0, A1, n1, c1, A3, n3, c3, h3⟩ := h
  exact ⟨blk_below h0 hb, blk_below h1 hb, blk_below h2 hb, A0, n0, c0, A1, n1, c1, A3, n3, c3, blk_below h3 hb⟩
theorem HInv.own {gw B0 B1 B2 : Nat} {b first n : Int} {W W' : World} {row : Option Nat} (h : HInv gw B0 B1 B2 b first n W) (hg : W.grownBy W' row) (hr : ∀ r, row = some r → ∃ o : Obj, W.heap[r]? = some o ∧ o.isCells = false) : HInv gw B0 B1 B2 b first n W' := by
  obtain ⟨h0, h1, h2, A0, n0, c0, A1, n1, c1, A3, n3, c3, h3⟩ := h
  exact ⟨blk_own h0 hg hr, blk_own h1 hg hr, blk_own h2 hg hr, A0, n0, c0, A1, n1, c1, A3, n3, c3, blk_own h3 hg hr⟩
theorem gHosts.calls (gw : Nat) (first n : Int) (w : World) :
    Calls Try.prog 94 #[.pointer (some ⟨gw, 0, none⟩), .int .u32 first, .int .u32 n] w fun e w' => e = .returned (.func (.func 121) #[] #[.pointer (some ⟨w.heap.size, 0, none⟩), .pointer (some ⟨w.heap.size + 1, 0, none⟩), .pointer (some ⟨w.heap.size + 1 + 1, 0, none⟩)]) ∧
      w' = ((w.alloc (.cells #[.pointer (some ⟨gw, 0, none⟩)] 133)).alloc (.cells #[.int .u32 first] 30)).alloc (.cells #[.int .u32 n] 30) := by
  go_enter Try.func94, Try.ntmps94
  go_wp2
  go_ret
  exact ⟨rfl, rfl⟩
end Go.Proofs.Ytgkjdpdmmlalcaa.F
end
section
namespace Go.Proofs.Ytgkjdpdmmlalcaa.F
open Go.RowKit Go.Shelf Go.Proofs.YtgkjdpdmmlalcaaW.PrintWords Go.Proofs.YtgkjdpdmmlalcaaW.PrintLast Go.Proofs.YtgkjdpdmmlalcaaW.PrintMore
set_option linter.unusedVariables false
set_option linter.unusedSimpArgs false
def gHosts1.T0 : Bool × List (List Nat × List Nat) := (true, [([], []), ([0], [0]), ([1], [1]), ([2], [2]), ([], []), ([3, 4], [3, 4]), ([5, 5, 0, 1, 2, 3, 4, 5], [5])])
def gHosts1.B0 : List Nat := [0, 1, 3, 7, 0, 31, 63]
theorem gHosts1.tab0 : rtab .any (opsOf Try.f121 0) = gHosts1.T0 := by kernel_rfl
theorem gHosts1.bits0 : waitsOk gHosts1.T0.2 gHosts1.B0 = true := by kernel_rfl
def gHosts1.T1 : Bool × List (List Nat × List Nat) := (true, [([], []), ([], []), ([1], [1]), ([2], [2]), ([3], [3]), ([], []), ([], []), ([6], [6]), ([5, 7], [5, 7]), ([4, 8], [4, 8]), ([0, 9], [0, 9])])
def gHosts1.B1 : List Nat := [0, 0, 2, 6, 14, 0, 0, 64, 224, 510, 1023]
theorem gHosts1.tab1 : rtab .any (opsOf Try.f121 1) = gHosts1.T1 := by kernel_rfl
theorem gHosts1.bits1 : waitsOk gHosts1.T1.2 gHosts1.B1 = true := by kernel_rfl
set_option maxHeartbeats 8000000 in
set_option maxRecDepth 100000 in
theorem gHosts1_any (l gw B0 B1 B2 : Nat) (b first n lo hi : Int) (hlo : hoS b first = lo) (hhi : hoS b (IntKind.u32.wrap (first + IntKind.u32.wrap (n - 1))) = hi) (h0lo : 0 ≤ lo) (hmax : hi < 18446744073709551615) (J Jx : List Int → World → Prop) (m : Nat)
    (hY : ∀ pre x W, J pre W → pre.length < (hi + 1 - lo).toNat → 0 ≤ x → x < 18446744073709551616 → YieldAt Fence.wide (m - 1) Try.prog l #[.int .u64 x] W fun e W' =>
      (e = .returned (.bool true) ∧ J (pre ++ [x]) W' ∧ (HInv gw B0 B1 B2 b first n W → HInv gw B0 B1 B2 b first n W')) ∨ (e = .returned (.bool false) ∧ Jx (pre ++ [x]) W'))
    (W : World) (hI : HInv gw B0 B1 B2 b first n W) (hJ : AbidesFrom W.heap.size J) (h0 : J [] W) :
    CallsIn Fence.wide m Try.prog 121 #[.func (.yield l) #[] #[], .pointer (some ⟨B0, 0, none⟩), .pointer (some ⟨B1, 0, none⟩), .pointer (some ⟨B2, 0, none⟩)] W fun e W' => (∃ v, e = .returned v) ∧
      ((∃ ys, ys = hostsL lo hi ∧ J ys W') ∨ (∃ pre, pre <+: hostsL lo hi ∧ Jx pre W')) := by
  have mixed : Try.prog.follows Departure.mixedOrders = true := by kernel_rfl
  have hu := Try.underlying135
  have hu2 := Try.underlying29
  have hu3 := Try.underlying25
  have HO1 := Lib.hid (fun A0 n0 c0 A1 n1 c1 A3 n3 c3 W => show Calls Try.prog 99 #[.agg #[.slice A0 n0 c0, .slice A1 n1 c1, .int .u64 b, .slice A3 n3 c3], .int .u32 first] W (fun e w' => e = .returned (.int .u64 lo) ∧ Below W.heap.size W w') from hlo ▸ gHostOf_any.calls A0 n0 c0 A1 n1 c1 b A3 n3 c3 first W)
  have HO2 := Lib.hid (fun A0 n0 c0 A1 n1 c1 A3 n3 c3 W => show Calls Try.prog 99 #[.agg #[.slice A0 n0 c0, .slice A1 n1 c1, .int .u64 b, .slice A3 n3 c3], .int .u32 (IntKind.u32.wrap (first + IntKind.u32.wrap (n - 1)))] W (fun e w' => e = .returned (.int .u64 hi) ∧ Below W.heap.size W w') from hhi ▸ gHostOf_any.calls A0 n0 c0 A1 n1 c1 b A3 n3 c3 (IntKind.u32.wrap (first + IntKind.u32.wrap (n - 1))) W)
  clear hlo hhi
  have JJ := Lib.hid (fun s (W1 W2 : World) (hj : J s W1) (hb : Below W1.heap.size W1 W2) => hJ s W1 W2 none hj (grown_of_below hb) (fun r e => by cases e))
  have HY := Lib.hid hY
  have HI := Lib.hid hI
  have HJ0 := Lib.hid h0
  clear hY hJ hI h0
  refine callsIn_of_wp Try.func121 rfl trivial ?_ rfl
  simp only [Try.ntmps121, List.size_toArray, List.length_cons, List.length_nil, Nat.reduceAdd, Nat.reduceSub, Array.replicate_succ, Array.replicate_zero, List.push_toArray, List.append_toArray, List.nil_append, List.cons_append]
  gi_wp2
  obtain ⟨k0, k1, k2, A0, n0, c0, A1, n1, c1, A3, n3, c3, k3⟩ := HI.out
  have BK1 := Lib.hid k0
  have BK2 := Lib.hid k1
  have BK3 := Lib.hid k2
  have BK4 := Lib.hid k3
  clear k0 k1 k2 k3
  have CH := Lib.hid (show Chain [W] W from ⟨Below.refl _ _, trivial⟩)
  refine wpIn_wide.2 ?_
  replace CH := Lib.hid CH.out.drew
  refine start_ (n := 7) (S := fun w' => w'.cell? ⟨B0, 0, none⟩ = some (.pointer (some ⟨gw, 0, none⟩)) ∧ w'.cell? ⟨B1, 0, none⟩ = some (.int .u32 first) ∧ w'.cell? ⟨gw, 0, none⟩ = some (.slice A0 n0 c0) ∧ w'.cell? ⟨gw, 1, none⟩ = some (.slice A1 n1 c1) ∧ w'.cell? ⟨gw, 2, none⟩ = some (.int .u64 b) ∧ w'.cell? ⟨gw, 3, none⟩ = some (.slice A3 n3 c3)) (ds := []) (ms_ 7 0) (by kernel_rfl) rfl rfl ⟨((box_cell BK1.out CH.out.head 0).trans rfl), ((box_cell BK2.out CH.out.head 0).trans rfl), ((box_cell BK4.out CH.out.head 0).trans rfl), ((box_cell BK4.out CH.out.head 1).trans rfl), ((box_cell BK4.out CH.out.head 2).trans rfl), ((box_cell BK4.out CH.out.head 3).trans rfl)⟩ (fun hHeld => ?_)
  refine with_tabW gHosts1.tab0 gHosts1.bits0 (fun HT_ HW_ => ?_)
  refine t6S_ 0 6 (mb_ 7 1) ?_
  refine pS_ 1 7 (mb_ 7 3) ?_
  refine pS_ 2 8 (mb_ 7 7) ?_
  refine t6S_ 3 9 (mb_ 7 15) ?_
  refine t6S_ 4 10 (mb_ 7 31) ?_
  refine one_ (i := 5) (N := some 11) (mb_ 7 63) rfl rfl (one_of HT_.out (by kernel_rfl)) (by decide) (fun K hK => ?_)
  refine goes_ Try.func99 (by kernel_rfl) rfl #[.agg #[.slice A0 n0 c0, .slice A1 n1 c1, .int .u64 b, .slice A3 n3 c3], .int .u32 first] (by rfl) rfl rfl (by simp only [List.map_toArray, List.map_cons, List.map_nil]; rfl) ?_
  with_reducible refine (HO1.out A0 n0 c0 A1 n1 c1 A3 n3 c3 _).mono ?_
  rintro e wx ⟨rfl, hb⟩
  refine ⟨_, rfl, ?_⟩
  replace CH := Lib.hid (CH.out.step hb)
  clear hb
  refine hK.out _ _ ⟨((box_cell BK1.out CH.out.head 0).trans rfl), ((box_cell BK2.out CH.out.head 0).trans rfl), ((box_cell BK4.out CH.out.head 0).trans rfl), ((box_cell BK4.out CH.out.head 1).trans rfl), ((box_cell BK4.out CH.out.head 2).trans rfl), ((box_cell BK4.out CH.out.head 3).trans rfl)⟩ (fun hHeld => ?_)
  clear hK K
  refine nS_ ?_
  refine pS_ 6 5 (mb_ 7 127) ?_
  refine done_ (done_of HT_.out (by kernel_rfl)) ?_
  have HI1 := Lib.hid (HI.out.below CH.out.head)
  have HJ1 := Lib.hid (JJ.out _ _ _ HJ0.out CH.out.head)
  clear HI HJ0 BK1 BK2 BK3 BK4 CH
  generalize wx = W2 at HI1 HJ1 ⊢
  gi_wp2
  gi_loopw [5] (fun p wr => ∃ k : Nat, p = .int .u64 (lo + (k : Int)) ∧ k ≤ (hi + 1 - lo).toNat ∧ J ((hostsL lo hi).take k) wr ∧ HInv gw B0 B1 B2 b first n wr) (fun p wr => (hi + 1 - (intOf p)).toNat)
  case atStart => exact ⟨0, by simp, Nat.zero_le _, HJ1.out, HI1.out⟩
  case round =>
    clear HI1 HJ1
    obtain ⟨k, rfl, hk, hJk, hIk⟩ := hrel
    have HI := Lib.hid hIk
    have HJ := Lib.hid hJk
    clear hIk hJk
    obtain ⟨k0, k1, k2, A0, n0, c0, A1, n1, c1, A3, n3, c3, k3⟩ := HI.out
    have BK1 := Lib.hid k0
    have BK2 := Lib.hid k1
    have BK3 := Lib.hid k2
    have BK4 := Lib.hid k3
    clear k0 k1 k2 k3
    have CH := Lib.hid (show Chain [wr] wr from ⟨Below.refl _ _, trivial⟩)
    by_cases hlt : k < (hi + 1 - lo).toNat
    · skip
      have hd := decide_eq_true (show lo + (k : Int) ≤ hi by omega)
      try gi_wp2
      refine wpIn_wide.2 ?_
      replace CH := Lib.hid CH.out.drew
      refine start_ (n := 11) (S := fun w' => w'.cell? ⟨B0, 0, none⟩ = some (.pointer (some ⟨gw, 0, none⟩)) ∧ w'.cell? ⟨B1, 0, none⟩ = some (.int .u32 first) ∧ w'.cell? ⟨B2, 0, none⟩ = some (.int .u32 n) ∧ w'.cell? ⟨gw, 0, none⟩ = some (.slice A0 n0 c0) ∧ w'.cell? ⟨gw, 1, none⟩ = some (.slice A1 n1 c1) ∧ w'.cell? ⟨gw, 2, none⟩ = some (.int .u64 b) ∧ w'.cell? ⟨gw, 3, none⟩ = some (.slice A3 n3 c3)) (ds := []) (ms_ 11 0) (by kernel_rfl) rfl rfl ⟨((box_cell BK1.out CH.out.head 0).trans rfl), ((box_cell BK2.out CH.out.head 0).trans rfl), ((box_cell BK3.out CH.out.head 0).trans rfl), ((box_cell BK4.out CH.out.head 0).trans rfl), ((box_cell BK4.out CH.out.head 1).trans rfl), ((box_cell BK4.out CH.out.head 2).trans rfl), ((box_cell BK4.out CH.out.head 3).trans rfl)⟩ (fun hHeld => ?_)
      refine with_tabW gHosts1.tab1 gHosts1.bits1 (fun HT_ HW_ => ?_)
      refine pS_ 0 12 (mb_ 11 1) ?_
      refine t7S_ 1 13 (mb_ 11 3) ?_
      refine pS_ 2 14 (mb_ 11 7) ?_
      refine pS_ 3 15 (mb_ 11 15) ?_
      refine t7S_ 4 16 (mb_ 11 31) ?_
      refine t7S_ 5 17 (mb_ 11 63) ?_
      refine t7S_ 6 18 (mb_ 11 127) ?_
      refine pS_ 7 19 (mb_ 11 255) ?_
      refine pS_ 8 20 (mb_ 11 511) ?_
      refine one_ (i := 9) (N := some 21) (mb_ 11 1023) rfl rfl (one_of HT_.out (by kernel_rfl)) (by decide) (fun K hK => ?_)
      refine goes_ Try.func99 (by kernel_rfl) rfl #[.agg #[.slice A0 n0 c0, .slice A1 n1 c1, .int .u64 b, .slice A3 n3 c3], .int .u32 (IntKind.u32.wrap (first + IntKind.u32.wrap (n - 1)))] (by rfl) rfl rfl (by simp only [List.map_toArray, List.map_cons, List.map_nil]; rfl) ?_
      with_reducible refine (HO2.out A0 n0 c0 A1 n1 c1 A3 n3 c3 _).mono ?_
      rintro e wx ⟨rfl, hb⟩
      refine ⟨_, rfl, ?_⟩
      replace CH := Lib.hid (CH.out.step hb)
      clear hb
      refine hK.out _ _ ⟨((box_cell BK1.out CH.out.head 0).trans rfl), ((box_cell BK2.out CH.out.head 0).trans rfl), ((box_cell BK3.out CH.out.head 0).trans rfl), ((box_cell BK4.out CH.out.head 0).trans rfl), ((box_cell BK4.out CH.out.head 1).trans rfl), ((box_cell BK4.out CH.out.head 2).trans rfl), ((box_cell BK4.out CH.out.head 3).trans rfl)⟩ (fun hHeld => ?_)
      clear hK K
      refine nS_ ?_
      refine pS_ 10 22 (mb_ 11 2047) ?_
      refine done_ (done_of HT_.out (by kernel_rfl)) ?_
      have HI1 := Lib.hid (HI.out.below CH.out.head)
      have HJ1 := Lib.hid (JJ.out _ _ _ HJ.out CH.out.head)
      clear HI HJ BK1 BK2 BK3 BK4 CH
      generalize wx = W2 at HI1 HJ1 ⊢
      obtain ⟨fn, tmps, assign, body, hy, hR⟩ := HY.out _ (lo + (k : Int)) W2 HJ1.out (by rw [List.length_take, hostsL_len]; omega) (by omega) (by omega)
      have HT := Lib.hid (hostsL_take lo hi k hlt)
      have HW := Lib.hid (show IntKind.u64.wrap (lo + (k : Int) + 1) = lo + ((k + 1 : Nat) : Int) by (simp [IntKind.wrap, IntKind.bits, IntKind.signed]; omega))
      have HK := Lib.hid hlt
      have HM := Lib.hid (And.intro h0lo hmax)
      clear hlt hk
      gi_wp2
      refine ⟨(fun h => by cases h), hR.mono ?_⟩
      rintro e W3 (⟨rfl, hJ3, hk3⟩ | ⟨rfl, hJx3⟩)
      · have HI3 := Lib.hid (hk3 HI1.out)
        have HJ3 := Lib.hid hJ3
        clear hk3 hJ3 hR hy
        gi_wp2
        go_roundw
        case rel => exact ⟨k + 1, by rw [HW.out], HK.out, by rw [HT.out]; exact HJ3.out, HI3.out⟩
        case measure =>
          have h1 := HK.out
          have h2 := HW.out
          rw [h2]
          simp [intOf]
          omega
      · gi_wp2
        refine bodyPost_ret (results_none rfl _ _ _) rfl ?_
        exact ⟨⟨_, rfl⟩, .inr ⟨_, ⟨(hostsL lo hi).drop (k + 1), by rw [← HT.out, List.take_append_drop]⟩, hJx3⟩⟩
    skip
    have hd := decide_eq_false (show ¬ lo + (k : Int) ≤ hi by omega)
    try gi_wp2
    refine wpIn_wide.2 ?_
    replace CH := Lib.hid CH.out.drew
    refine start_ (n := 11) (S := fun w' => w'.cell? ⟨B0, 0, none⟩ = some (.pointer (some ⟨gw, 0, none⟩)) ∧ w'.cell? ⟨B1, 0, none⟩ = some (.int .u32 first) ∧ w'.cell? ⟨B2, 0, none⟩ = some (.int .u32 n) ∧ w'.cell? ⟨gw, 0, none⟩ = some (.slice A0 n0 c0) ∧ w'.cell? ⟨gw, 1, none⟩ = some (.slice A1 n1 c1) ∧ w'.cell? ⟨gw, 2, none⟩ = some (.int .u64 b) ∧ w'.cell? ⟨gw, 3, none⟩ = some (.slice A3 n3 c3)) (ds := []) (ms_ 11 0) (by kernel_rfl) rfl rfl ⟨((box_cell BK1.out CH.out.head 0).trans rfl), ((box_cell BK2.out CH.out.head 0).trans rfl), ((box_cell BK3.out CH.out.head 0).trans rfl), ((box_cell BK4.out CH.out.head 0).trans rfl), ((box_cell BK4.out CH.out.head 1).trans rfl), ((box_cell BK4.out CH.out.head 2).trans rfl), ((box_cell BK4.out CH.out.head 3).trans rfl)⟩ (fun hHeld => ?_)
    refine with_tabW gHosts1.tab1 gHosts1.bits1 (fun HT_ HW_ => ?_)
    refine pS_ 0 12 (mb_ 11 1) ?_
    refine t7S_ 1 13 (mb_ 11 3) ?_
    refine pS_ 2 14 (mb_ 11 7) ?_
    refine pS_ 3 15 (mb_ 11 15) ?_
    refine t7S_ 4 16 (mb_ 11 31) ?_
    refine t7S_ 5 17 (mb_ 11 63) ?_
    refine t7S_ 6 18 (mb_ 11 127) ?_
    refine pS_ 7 19 (mb_ 11 255) ?_
    refine pS_ 8 20 (mb_ 11 511) ?_
    refine one_ (i := 9) (N := some 21) (mb_ 11 1023) rfl rfl (one_of HT_.out (by kernel_rfl)) (by decide) (fun K hK => ?_)
    refine goes_ Try.func99 (by kernel_rfl) rfl #[.agg #[.slice A0 n0 c0, .slice A1 n1 c1, .int .u64 b, .slice A3 n3 c3], .int .u32 (IntKind.u32.wrap (first + IntKind.u32.wrap (n - 1)))] (by rfl) rfl rfl (by simp only [List.map_toArray, List.map_cons, List.map_nil]; rfl) ?_
    with_reducible refine (HO2.out A0 n0 c0 A1 n1 c1 A3 n3 c3 _).mono ?_
    rintro e wx ⟨rfl, hb⟩
    refine ⟨_, rfl, ?_⟩
    replace CH := Lib.hid (CH.out.step hb)
    clear hb
    refine hK.out _ _ ⟨((box_cell BK1.out CH.out.head 0).trans rfl), ((box_cell BK2.out CH.out.head 0).trans rfl), ((box_cell BK3.out CH.out.head 0).trans rfl), ((box_cell BK4.out CH.out.head 0).trans rfl), ((box_cell BK4.out CH.out.head 1).trans rfl), ((box_cell BK4.out CH.out.head 2).trans rfl), ((box_cell BK4.out CH.out.head 3).trans rfl)⟩ (fun hHeld => ?_)
    clear hK K
    refine nS_ ?_
    refine pS_ 10 22 (mb_ 11 2047) ?_
    refine done_ (done_of HT_.out (by kernel_rfl)) ?_
    have HI1 := Lib.hid (HI.out.below CH.out.head)
    have HJ1 := Lib.hid (JJ.out _ _ _ HJ.out CH.out.head)
    clear HI HJ BK1 BK2 BK3 BK4 CH
    generalize wx = W2 at HI1 HJ1 ⊢
    have e : k = (hi + 1 - lo).toNat := by omega
    have HJ2 : Hid (J (hostsL lo hi) W2) := by
      have h := HJ1.out
      rw [e, List.take_of_length_le (by rw [hostsL_len]; exact Nat.le_refl _)] at h
      exact h
    clear HJ1 e
    gi_wp2
    go_end0
    exact ⟨⟨_, rfl⟩, .inl ⟨_, rfl, HJ2.out⟩⟩
theorem gHosts_stops (m gw B0 B1 B2 : Nat) (b first n lo hi : Int) (hlo : hoS b first = lo) (hhi : hoS b (IntKind.u32.wrap (first + IntKind.u32.wrap (n - 1))) = hi) (h0lo : 0 ≤ lo) (hmax : hi < 18446744073709551615) (w : World) (hI : HInv gw B0 B1 B2 b first n w) :
    SeqStopsK Fence.wide m Try.prog 121 #[.pointer (some ⟨B0, 0, none⟩), .pointer (some ⟨B1, 0, none⟩), .pointer (some ⟨B2, 0, none⟩)] (fun x : Int => #[.int .u64 (x % 18446744073709551616)]) (fun W W' => HInv gw B0 B1 B2 b first n W → HInv gw B0 B1 B2 b first n W') (fun xs => xs = hostsL lo hi) (fun pre => pre <+: hostsL lo hi) (hi + 1 - lo).toNat w :=
  fun l J Jx W hW hJ _ hY h0 => gHosts1_any l gw B0 B1 B2 b first n lo hi hlo hhi h0lo hmax J Jx m (fun pre x W hj hl x0 x1 => by have h := hY pre x W hj hl; dsimp only at h; rwa [Int.emod_eq_of_lt x0 x1] at h) W (hI.below hW) hJ h0
theorem hinv_t {gw B0 B1 B2 : Nat} {b first n : Int} {A B C : World} (h : HInv gw B0 B1 B2 b first n A → HInv gw B0 B1 B2 b first n B) (k : HInv gw B0 B1 B2 b first n B → HInv gw B0 B1 B2 b first n C) : HInv gw B0 B1 B2 b first n A → HInv gw B0 B1 B2 b first n C := fun x => k (h x)
theorem hinv_b {gw B0 B1 B2 : Nat} {b first n : Int} {w : World} (W : World) (l : Nat) (o o' : Obj) (_ : w.heap.size ≤ l) (hl : W.heap[l]? = some o) (hc : o.isCells = false) (_ : o.isWalk = false) : HInv gw B0 B1 B2 b first n W → HInv gw B0 B1 B2 b first n (W.putObj l o') :=
  fun h => h.own (grownBy_putObj' W l o') (fun r e => by cases e; exact ⟨o, hl, hc⟩)
end Go.Proofs.Ytgkjdpdmmlalcaa.F
end
section
namespace Go.Proofs.Ytgkjdpdmmlalcaa.F
open Go.RowKit Go.Proofs.YtgkjdpdmmlalcaaW.PrintWords Go.Proofs.YtgkjdpdmmlalcaaW.PrintLast Go.Proofs.YtgkjdpdmmlalcaaW.PrintMore
attribute [local go_sem] max2_int min2_int max_two min_two max_three min_three max_four min_four
set_option linter.unusedVariables false
set_option linter.unusedSimpArgs false

def guest_wrong.f (a0 : Int) (a1 : Int) (a2 : Int) : Option (Bool) := if a1 = 0 then (some true) else (if a0 > 1048576 then (some true) else (if a1 > ((1048576 - a0) % 4294967296) then (some true) else (some ((Go.bits .andNot .i64 a2 7) != 0))))
set_option maxHeartbeats 8000000 in
set_option maxRecDepth 100000 in
theorem guest_wrong.calls (a0 : Int) (a1 : Int) (a2 : Int) (r : Bool) (w : World) (h : guest_wrong.f a0 a1 a2 = some r) :
    Calls Try.prog 92 #[.int .u32 a0, .int .u32 a1, .int .i64 a2] w fun e w' => e = .returned (.bool r) ∧ Drawn0 w w' := by
  have H : (if a1 = 0 then (some true) else (if a0 > 1048576 then (some true) else (if a1 > ((1048576 - a0) % 4294967296) then (some true) else (some ((Go.bits .andNot .i64 a2 7) != 0))))) = some r := h
  clear h
  by_cases c4 : a1 = 0
  · rw [if_pos c4] at H
    have c4b0 : (a1 == 0) = true := beq_iff_eq.mpr c4
    have c4b1 : (a1 != 0) = false := bne_eq_false_iff_eq.mpr c4
    clear c4
    obtain rfl := Option.some.inj H
    go_enter Try.func92, Try.ntmps92
    go_wp2
    go_ret
    exact ⟨by first | rfl | (simp; done) | (simp [*]; done), by repeat (first | exact Drawn0.refl _ | apply Drawn0.step)⟩
  rw [if_neg c4] at H
  have c4b0 : (a1 == 0) = false := beq_eq_false_iff_ne.mpr c4
  have c4b1 : (a1 != 0) = true := bne_iff_ne.mpr c4
  by_cases c5 : a0 > 1048576
  · rw [if_pos c5] at H
    have c5b0 : decide (1048576 < a0) = true := decide_eq_true c5
    clear c5
    obtain rfl := Option.some.inj H
    go_enter Try.func92, Try.ntmps92
    go_wp2
    go_ret
    exact ⟨by first | rfl | (simp; done) | (simp [*]; done), by repeat (first | exact Drawn0.refl _ | apply Drawn0.step)⟩
  rw [if_neg c5] at H
  have c5b0 : decide (1048576 < a0) = false := decide_eq_false c5
  clear c5
  by_cases c6 : a1 > ((1048576 - a0) % 4294967296)
  · rw [if_pos c6] at H
    have c6b0 : decide (((1048576 - a0) % 4294967296) < a1) = true := decide_eq_true c6
    (try (have c6bs0 := c6b0; simp only [Int.add_emod_emod, Int.emod_add_emod, Int.sub_emod_emod, Int.emod_sub_emod] at c6bs0))
    clear c6
    obtain rfl := Option.some.inj H
    go_enter Try.func92, Try.ntmps92
    go_wp2
    go_ret
    exact ⟨by first | rfl | (simp; done) | (simp [*]; done), by repeat (first | exact Drawn0.refl _ | apply Drawn0.step)⟩
  rw [if_neg c6] at H
  have c6b0 : decide (((1048576 - a0) % 4294967296) < a1) = false := decide_eq_false c6
  (try (have c6bs0 := c6b0; simp only [Int.add_emod_emod, Int.emod_add_emod, Int.sub_emod_emod, Int.emod_sub_emod] at c6bs0))
  clear c6
  obtain rfl := Option.some.inj H
  go_enter Try.func92, Try.ntmps92
  go_wp2
  go_ret
  exact ⟨by first | rfl | (simp; done) | (simp [*]; done), by repeat (first | exact Drawn0.refl _ | apply Drawn0.step)⟩

end Go.Proofs.Ytgkjdpdmmlalcaa.F
end
