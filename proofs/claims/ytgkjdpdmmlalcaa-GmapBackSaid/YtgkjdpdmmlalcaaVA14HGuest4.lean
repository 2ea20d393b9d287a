import Derived.Test.YtgkjdpdmmlalcaaVZF0
import Derived.Test.YtgkjdpdmmlalcaaVA0
import Derived.Test.YtgkjdpdmmlalcaaVA4HHost3
import Derived.Test.YtgkjdpdmmlalcaaVA6HHost11
import Derived.Test.YtgkjdpdmmlalcaaVA10HGuest1
import Derived.Test.YtgkjdpdmmlalcaaVA11
import Derived.Test.YtgkjdpdmmlalcaaVA13
section
namespace Go.Proofs.Ytgkjdpdmmlalcaa.F
open Go.RowKit Go.Shelf Go.Proofs.YtgkjdpdmmlalcaaW.PrintWords Go.Proofs.YtgkjdpdmmlalcaaW.PrintLast Go.Proofs.YtgkjdpdmmlalcaaW.PrintMore
set_option linter.unusedVariables false
set_option linter.unusedSimpArgs false
set_option maxHeartbeats 4000000 in
theorem pg_delf_nil.calls (pf : Nat) (cp : Array Value) (eg : ∀ args w, (callFunc pf args).run Try.prog w = .ok (.enter pf args) w) (w : World) :
    Calls Try.prog 118 #[.slice none 0 0, .func (.func pf) #[] cp] w fun e w' => e = .returned (.slice none 0 0) ∧ Below w.heap.size w w' := by
  have IX : Hid (Calls Try.prog 116 #[.slice none 0 0, .func (.func pf) #[] cp] w fun e w' => e = .returned (.int .i64 (-1)) ∧ Below w.heap.size w w') := by
    refine Lib.hid ?_
    go_enter Try.func116, Try.ntmps116
    go_wp2
    go_loopw [8] (fun t wr => t = .int .i64 0 ∧ wr = w) (fun _ _ => 0)
    case atStart => exact ⟨rfl, rfl⟩
    case round =>
      obtain ⟨rfl, rfl⟩ := hrel
      go_wp2
      go_ret
      exact ⟨rfl, Below.refl _ _⟩
  go_enter Try.func118, Try.ntmps118
  go_wp2_with (go_at_call 116; (with_reducible refine IX.out.mono ?_); rintro e w1 ⟨rfl, hb⟩)
  go_ret
  exact ⟨rfl, hb⟩
theorem pg_delfR.calls (p : S41 → Bool) (pf : Nat) (cp : Array Value) (eg : ∀ args w, (callFunc pf args).run Try.prog w = .ok (.enter pf args) w) (B : Nat) (ok : Nat → Prop) (v : Value) (l : List S41) (w : World) (hR : Kd.R k41 41 w B ok v l) (hB : B ≤ w.heap.size) (hl : l.length ≤ 1000000)
    (HP : ∀ (x : S41) (W : World), (∀ k, k < B → W.heap[k]? = w.heap[k]?) → w.heap.size ≤ W.heap.size → Calls Try.prog pf (#[.agg #[.int .u32 x.f0, .int .i64 x.f1]] ++ cp) W fun e w' => e = .returned (.bool (p x)) ∧ Below W.heap.size W w') :
    Calls Try.prog 118 #[v, .func (.func pf) #[] cp] w fun ex w' => ∃ v', ex = .returned v' ∧ Kd.R k41 41 w' B (fun _ => True) v' (l.filter (fun x => !p x)) ∧ Below B w w' := by
  rcases pg_own hR with ⟨rfl, rfl⟩ | ⟨g, cap, rfl, hg, ho⟩
  · refine (pg_delf_nil.calls pf cp eg w).mono ?_
    rintro e w' ⟨rfl, hb⟩
    exact ⟨_, rfl, Kd.R_nil _ _ _ _ _, hb.mono hB⟩
  · refine (pg_delf.calls p pf cp eg g cap l w ho hl (fun x W hW => HP x W (fun k hk => hW.block k (by omega) (fun e => by injection e with e; omega)) hW.size)).mono ?_
    rintro e w' ⟨rfl, h1, h2⟩
    exact ⟨_, rfl, pg_R h1 hg, below_of_grown (Below.refl _ _) h2 hg hB⟩

theorem kP_heap : Kd.Heap kP := Kd.heap_iso _ (Kd.heap_pair (Kd.heap_int .u32) (Kd.heap_int .i64))
def inP (x : SP) (a n : Int) : Bool := decide (x.f0 ≥ a) && decide (IntKind.u32.wrap (x.f0 - a) < n)
def delS (p : List SP) (a n : Int) : List SP := p.filter (fun x => !inP x a n)
theorem delS_len (p : List SP) (a n : Int) : (delS p a n).length ≤ p.length := List.length_filter_le _ _
def RowsG (W : World) (ok : Nat → Prop) (A0 : Option Addr) (c0 : Nat) (A1 : Option Addr) (c1 : Nat) (A3 : Option Addr) (c3 : Nat) (l : List SM) (m : List SC) (p : List SP) : Prop :=
  Kd.V kM 83 W 0 ok (.slice A0 l.length c0) l ∧ Kd.V kC 88 W 0 ok (.slice A1 m.length c1) m ∧ Kd.V kP 41 W 0 ok (.slice A3 p.length c3) p
section
variable {W W' : World} {ok ok' : Nat → Prop} {A0 A1 A3 : Option Addr} {c0 c1 c3 : Nat} {l : List SM} {m : List SC} {p : List SP}
theorem RowsG.below (h : RowsG W ok A0 c0 A1 c1 A3 c3 l m p) (hb : Below W.heap.size W W') : RowsG W' ok A0 c0 A1 c1 A3 c3 l m p := ⟨Kd.V_below h.1 hb, Kd.V_below h.2.1 hb, Kd.V_below h.2.2 hb⟩
theorem RowsG.wide (h : RowsG W ok A0 c0 A1 c1 A3 c3 l m p) (hk : ∀ k, ok k → ok' k) : RowsG W ok' A0 c0 A1 c1 A3 c3 l m p := ⟨Kd.V_mono h.1 hk, Kd.V_mono h.2.1 hk, Kd.V_mono h.2.2 hk⟩
theorem RowsG.move (h : RowsG W ok A0 c0 A1 c1 A3 c3 l m p) (hk : ∀ k, ok k → k < W.heap.size → W'.heap[k]? = W.heap[k]?) : RowsG W' ok A0 c0 A1 c1 A3 c3 l m p := ⟨Kd.V_step h.1 hk, Kd.V_step h.2.1 hk, Kd.V_step h.2.2 hk⟩
theorem RowsG.bound (h : RowsG W ok A0 c0 A1 c1 A3 c3 l m p) : RowsG W (fun k => ok k ∧ k < W.heap.size) A0 c0 A1 c1 A3 c3 l m p := ⟨Kd.V_bound h.1, Kd.V_bound h.2.1, Kd.V_bound h.2.2⟩
theorem RowsG.of (hC : Kd.C kM W A0 l.length l) (hc : l.length ≤ c0) (hD : Kd.C kC W A1 m.length m) (hd : m.length ≤ c1) (hE : Kd.C kP W A3 p.length p) (he : p.length ≤ c3) : RowsG W (fun k => k < W.heap.size) A0 c0 A1 c1 A3 c3 l m p :=
  ⟨Kd.V_mk hc (Kd.C_F kM_heap hC), Kd.V_mk hd (Kd.C_F kC_heap hD), Kd.V_mk he (Kd.C_F kP_heap hE)⟩
theorem RowsG.r0 (h : RowsG W ok A0 c0 A1 c1 A3 c3 l m p) : Kd.C kM W A0 l.length l := (Kd.V_reads' h.1).2.2
theorem RowsG.r1 (h : RowsG W ok A0 c0 A1 c1 A3 c3 l m p) : Kd.C kC W A1 m.length m := (Kd.V_reads' h.2.1).2.2
theorem RowsG.r3 (h : RowsG W ok A0 c0 A1 c1 A3 c3 l m p) : Kd.C kP W A3 p.length p := (Kd.V_reads' h.2.2).2.2
theorem RowsG.n0 (h : RowsG W ok A0 c0 A1 c1 A3 c3 l m p) : l.length ≤ c0 := (Kd.V_reads' h.1).2.1
theorem RowsG.n1 (h : RowsG W ok A0 c0 A1 c1 A3 c3 l m p) : m.length ≤ c1 := (Kd.V_reads' h.2.1).2.1
theorem RowsG.n3 (h : RowsG W ok A0 c0 A1 c1 A3 c3 l m p) : p.length ≤ c3 := (Kd.V_reads' h.2.2).2.1
theorem RowsG.host (h : RowsG W ok A0 c0 A1 c1 A3 c3 l m p) : HostV W (.slice A0 l.length c0) (.slice A1 m.length c1) l m := ⟨SlV.of_view h.1, SlV.of_view h.2.1⟩
theorem RowsG.swap {b0 b1 : Nat} {v0 v1 : Value} {l' : List SM} {m' : List SC} (h : RowsG W ok A0 c0 A1 c1 A3 c3 l m p) (h0 : Kd.V kM 83 W b0 ok v0 l') (h1 : Kd.V kC 88 W b1 ok v1 m') :
    ∃ A c B d, v0 = .slice A l'.length c ∧ v1 = .slice B m'.length d ∧ RowsG W ok A c B d A3 c3 l' m' p := by
  obtain ⟨A, c, rfl, hc, hF⟩ := h0
  obtain ⟨B, d, rfl, hd, hG⟩ := h1
  exact ⟨A, c, B, d, rfl, rfl, Kd.V_mk hc hF, Kd.V_mk hd hG, h.2.2⟩
def OwnP (W : World) (B : Nat) (A : Option Addr) (c : Nat) (p : List SP) : Prop := (A = none ∧ c = 0 ∧ p = []) ∨ ∃ g, A = some ⟨g, 0, none⟩ ∧ B ≤ g ∧ OwnB pgE 41 W g c p
theorem OwnP.of {v : Value} {B : Nat} {ok : Nat → Prop} (h : Kd.R kP 41 W B ok v p) : ∃ A c, v = .slice A p.length c ∧ OwnP W B A c p := by
  rcases pg_own h with ⟨rfl, rfl⟩ | ⟨g, cap, rfl, hg, ho⟩
  · exact ⟨none, 0, rfl, .inl ⟨rfl, rfl, rfl⟩⟩
  · exact ⟨_, cap, rfl, .inr ⟨g, rfl, hg, ho⟩⟩
theorem OwnP.R {A : Option Addr} {c B : Nat} (h : OwnP W B A c p) : Kd.R kP 41 W B (fun _ => True) (.slice A p.length c) p := by
  rcases h with ⟨rfl, rfl, rfl⟩ | ⟨g, rfl, hg, ho⟩
  · exact Kd.R_nil _ _ _ _ _
  · exact pg_R ho hg
theorem OwnP.move {A : Option Addr} {c B : Nat} (h : OwnP W B A c p) (hk : ∀ k, B ≤ k → k < W.heap.size → W'.heap[k]? = W.heap[k]?) : OwnP W' B A c p := by
  rcases h with h | ⟨g, e, hg, ho⟩
  · exact .inl h
  · exact .inr ⟨g, e, hg, ho.move (hk g hg ho.lt)⟩
theorem OwnP.low {A : Option Addr} {c B B' : Nat} (h : OwnP W B A c p) (hB : B' ≤ B) : OwnP W B' A c p := h.imp id (fun ⟨g, e, hg, ho⟩ => ⟨g, e, Nat.le_trans hB hg, ho⟩)
def RowsH (W : World) (ok : Nat → Prop) (A0 : Option Addr) (c0 : Nat) (A1 : Option Addr) (c1 : Nat) (l : List SM) (m : List SC) : Prop := Kd.V kM 83 W 0 ok (.slice A0 l.length c0) l ∧ Kd.V kC 88 W 0 ok (.slice A1 m.length c1) m
theorem RowsG.rows (h : RowsG W ok A0 c0 A1 c1 A3 c3 l m p) : RowsH W ok A0 c0 A1 c1 l m := ⟨h.1, h.2.1⟩
theorem RowsH.below (h : RowsH W ok A0 c0 A1 c1 l m) (hb : Below W.heap.size W W') : RowsH W' ok A0 c0 A1 c1 l m := ⟨Kd.V_below h.1 hb, Kd.V_below h.2 hb⟩
theorem RowsH.wide (h : RowsH W ok A0 c0 A1 c1 l m) (hk : ∀ k, ok k → ok' k) : RowsH W ok' A0 c0 A1 c1 l m := ⟨Kd.V_mono h.1 hk, Kd.V_mono h.2 hk⟩
theorem RowsH.move (h : RowsH W ok A0 c0 A1 c1 l m) (hk : ∀ k, ok k → k < W.heap.size → W'.heap[k]? = W.heap[k]?) : RowsH W' ok A0 c0 A1 c1 l m := ⟨Kd.V_step h.1 hk, Kd.V_step h.2 hk⟩
theorem RowsH.bound (h : RowsH W ok A0 c0 A1 c1 l m) : RowsH W (fun k => ok k ∧ k < W.heap.size) A0 c0 A1 c1 l m := ⟨Kd.V_bound h.1, Kd.V_bound h.2⟩
theorem RowsH.swap {b0 b1 : Nat} {v0 v1 : Value} {l' : List SM} {m' : List SC} (h0 : Kd.V kM 83 W b0 ok v0 l') (h1 : Kd.V kC 88 W b1 ok v1 m') :
    ∃ A c B d, v0 = .slice A l'.length c ∧ v1 = .slice B m'.length d ∧ RowsH W ok A c B d l' m' := by
  obtain ⟨A, c, rfl, hc, hF⟩ := h0
  obtain ⟨B, d, rfl, hd, hG⟩ := h1
  exact ⟨A, c, B, d, rfl, rfl, Kd.V_mk hc hF, Kd.V_mk hd hG⟩
theorem gClear_V (hH : RowsH W ok A0 c0 A1 c1 l m) (hm : m.length ≤ 1000000) (a n : Int) :
    Calls Try.prog 117 #[.agg #[.slice A0 l.length c0, .slice A1 m.length c1], .int .u64 a, .int .u64 n] W fun e w' => ∃ A' c' B' d', e = .returned (.agg #[.slice A' l.length c', .slice B' (clearS m a n).length d']) ∧ RowsH w' (fun k => (ok k ∨ W.heap.size ≤ k) ∧ k < w'.heap.size) A' c' B' d' l (clearS m a n) ∧ Below W.heap.size W w' := by
  refine (host_Clear.calls ok A0 c0 l ok A1 c1 m a n l (clearS m a n) W hH.1 hH.2 (by rw [host_Clear_spec l m hm])).mono ?_
  rintro e w' ⟨x, y, he, h0, h1, hb⟩
  obtain ⟨A', c', B', d', rfl, rfl, h⟩ := RowsH.swap h0 h1
  exact ⟨A', c', B', d', he, h.bound.wide (fun k hk => ⟨hk.1.imp (fun h => h.elim id id) id, hk.2⟩), hb⟩
end
theorem grown_set {w w1 : World} {g j : Nat} {v : Value} (h : w.grownBy w1 (some g)) : w.grownBy (w1.setCell ⟨g, j, none⟩ v) (some g) :=
  ⟨h.os, h.tape, h.output, by simpa [World.setCell] using h.size, fun k hk hr => (Below.heap_setCell w1 _ v k (fun e => hr (by rw [e]))).trans (h.block k hk hr)⟩
theorem grown_step {w w1 w2 : World} {g : Nat} (h : w.grownBy w1 (some g)) (hb : Below w1.heap.size w1 w2) : w.grownBy w2 (some g) := grown_trans h (grown_of_below hb)
theorem blk_far2' {w : World} {g b : Nat} {t : TypeId} {cs : Array Value} (h : w.heap[g]? = some (.cells cs t (0, 0))) (hn : g ≠ b) (u v : Value) : ((w.setCell ⟨b, 0, none⟩ u).setCell ⟨b, 1, none⟩ v).heap[g]? = some (.cells cs t (0, 0)) := blk_far2 h hn u v
theorem blk_keep {W W' : World} {g b : Nat} {o : Obj} (h : W.heap[b]? = some o) (hg : W.grownBy W' (some g)) (hn : b ≠ g) : W'.heap[b]? = some o := (hg.block b (sblk_lt h) (fun e => hn (by injection e))).trans h
set_option maxHeartbeats 4000000 in
theorem gdrop_1.calls (x : SP) (pa pn : Nat) (a n : Int) (w : World) (h1 : w.heap[pa]? = some (.cells #[.int .u32 a] 30 (0, 0))) (h2 : w.heap[pn]? = some (.cells #[.int .u32 n] 30 (0, 0))) :
    Calls Try.prog 120 #[.agg #[.int .u32 x.f0, .int .i64 x.f1], .pointer (some ⟨pa, 0, none⟩), .pointer (some ⟨pn, 0, none⟩)] w fun e w' => e = .returned (.bool (inP x a n)) ∧ Below w.heap.size w w' := by
  have B0 : Below w.heap.size w (w.alloc (.cells #[.int .u32 x.f0, .int .i64 x.f1] 41)) := (Below.refl _ w).alloc (Nat.le_refl _) _
  have c1 := (B0.cell (p := ⟨pa, 0, none⟩) (sblk_lt h1)).trans ((sblk_cell h1 0).trans rfl)
  have c2 := (B0.cell (p := ⟨pn, 0, none⟩) (sblk_lt h2)).trans ((sblk_cell h2 0).trans rfl)
  have TB := Lib.hid B0
  have hu := Try.underlying41
  clear h1 h2 B0
  generalize hF : inP x a n = r
  have EF := Lib.hid hF
  clear hF
  go_enter Try.func120, Try.ntmps120
  have EF2 := EF.out
  unfold inP at EF2
  cases ht : decide (x.f0 ≥ a)
  all_goals
    rw [ht] at EF2
    have EF3 := Lib.hid EF2
    clear EF2 EF
    go_wp2
    go_ret
    exact ⟨by rw [← EF3.out]; first | rfl | simp, TB.out⟩
def dropC (m : List SC) (b a n : Int) : List SC := clearS m (IntKind.u64.wrap (b + IntKind.u64.wrap (IntKind.u32.wrap (a * 4096)))) (IntKind.u64.wrap ((IntKind.u64.wrap n) * 4096))
def gDrop.T1 : Bool × List (List Nat × List Nat) := (true, [([], []), ([], []), ([1], [1]), ([2], [2]), ([3], [3]), ([4], [4]), ([], []), ([6], [6]), ([7], [7]), ([8], [8]), ([], []), ([10], [10]), ([9, 11], [9, 11]), ([], []), ([13], [13]), ([14], [14]), ([5, 12, 15, 12], [5, 12, 15]), ([0, 0, 1, 2, 3, 4, 5, 6, 7, 8, 9, 10, 11, 12, 13, 14, 15, 16], [0]), ([17, 0, 1, 2, 3, 4, 5, 6, 7, 8, 9, 10, 11, 12, 13, 14, 15, 16], [17]), ([18, 0, 1, 2, 3, 4, 5, 6, 7, 8, 9, 10, 11, 12, 13, 14, 15, 16], [18]), ([19, 16, 16, 0, 1, 2, 3, 4, 5, 6, 7, 8, 9, 10, 11, 12, 13, 14, 15, 16], [16, 19])])
def gDrop.B1 : List Nat := [0, 0, 2, 6, 14, 30, 0, 64, 192, 448, 0, 1024, 4032, 0, 8192, 24576, 65534, 131071, 262143, 524287, 1048575]
theorem gDrop.tab1 : rtab .any (opsOf Try.f93 1) = gDrop.T1 := by kernel_rfl
theorem gDrop.bits1 : waitsOk gDrop.T1.2 gDrop.B1 = true := by kernel_rfl
set_option maxHeartbeats 8000000 in
set_option maxRecDepth 100000 in
theorem gDrop.calls (gw : Nat) (A0_0 : Option Addr) (c0_0 : Nat) (l0_0 : List SM) (A0_1 : Option Addr) (c0_1 : Nat) (l0_1 : List SC) (a0_2 : Int) (A0_3 : Option Addr) (c0_3 : Nat) (l0_3 : List SP) (first n : Int) (ok : Nat → Prop) (w : World) (hk : ∀ k, ok k → k ≠ gw) (hb : w.heap[gw]? = some (.cells #[.slice A0_0 l0_0.length c0_0, .slice A0_1 l0_1.length c0_1, .int .u64 a0_2, .slice A0_3 l0_3.length c0_3] 135 (0, 0))) (hR : RowsG w ok A0_0 c0_0 A0_1 c0_1 A0_3 c0_3 l0_0 l0_1 l0_3) (hm : l0_1.length ≤ 1000000) (hp : l0_3.length ≤ 1000000) :
    Calls Try.prog 93 #[.pointer (some ⟨gw, 0, none⟩), .int .u32 first, .int .u32 n] w fun e w' => e = .returned (.tuple #[]) ∧ w.grownBy w' (some gw) ∧ ∃ N A0 c0 A1 c1 A3 c3, w.heap.size ≤ N ∧ w'.heap[gw]? = some (.cells #[.slice A0 l0_0.length c0, .slice A1 (dropC l0_1 a0_2 first n).length c1, .int .u64 a0_2, .slice A3 (delS l0_3 first n).length c3] 135 (0, 0)) ∧ RowsH w' (fun k => (ok k ∨ w.heap.size ≤ k) ∧ k < N) A0 c0 A1 c1 l0_0 (dropC l0_1 a0_2 first n) ∧ OwnP w' N A3 c3 (delS l0_3 first n) := by
  have mixed : Try.prog.follows Departure.mixedOrders = true := by kernel_rfl
  have BK1 := Lib.hid hb
  have RV := Lib.hid hR
  have hlt := sblk_lt hb
  have PL := Lib.hid (fun W (hB : Below w.heap.size w W) => guest_Place.calls A0_0 c0_0 l0_0 A0_1 c0_1 l0_1 a0_2 A0_3 c0_3 l0_3 (IntKind.u32.wrap (first * 4096)) (IntKind.u64.wrap (a0_2 + IntKind.u64.wrap (IntKind.u32.wrap (first * 4096)))) W (Kd.C_below hR.r0 hB) hR.n0 (Kd.C_below hR.r1 hB) hR.n1 (Kd.C_below hR.r3 hB) hR.n3 rfl)
  clear hb hR
  have hu := Try.underlying135
  have hu2 := Try.underlying29
  have hu3 := Try.underlying25
  have CH := Lib.hid (show Chain [w] w from ⟨Below.refl _ _, trivial⟩)
  go_enter Try.func93, Try.ntmps93
  go_upto_region 1 with (fail)
  replace CH := Lib.hid ((CH.out.alloc (.cells #[.int .u32 first] 30)).alloc (.cells #[.int .u32 n] 30))
  have BK2 := Lib.hid (blk_alloc (blk_new w (.cells #[.int .u32 first] 30)) (.cells #[.int .u32 n] 30))
  have BK3 := Lib.hid (blk_new1 w (.cells #[.int .u32 first] 30) (.cells #[.int .u32 n] 30))
  generalize (w.alloc (.cells #[.int .u32 first] 30)).alloc (.cells #[.int .u32 n] 30) = y1 at CH BK2 BK3 ⊢
  replace CH := Lib.hid CH.out.push
  have hkk := Lib.hid (fun k (h : ok k ∨ w.heap.size ≤ k) => show k ≠ gw from h.elim (hk k) (fun h => by omega))
  replace CH := Lib.hid CH.out.drew
  refine start_ (n := 21) (S := fun w' => w'.cell? ⟨gw, 0, none⟩ = some (.slice A0_0 l0_0.length c0_0) ∧ w'.cell? ⟨gw, 1, none⟩ = some (.slice A0_1 l0_1.length c0_1) ∧ w'.cell? ⟨gw, 2, none⟩ = some (.int .u64 a0_2) ∧ w'.cell? ⟨gw, 3, none⟩ = some (.slice A0_3 l0_3.length c0_3) ∧ w'.cell? ⟨w.heap.size, 0, none⟩ = some (.int .u32 first) ∧ w'.cell? ⟨(w.heap.size + 1), 0, none⟩ = some (.int .u32 n)) (ds := [20]) (ms_ 21 0) (by kernel_rfl) rfl rfl ⟨((box_cell BK1.out CH.out.tail.head 0).trans rfl), ((box_cell BK1.out CH.out.tail.head 1).trans rfl), ((box_cell BK1.out CH.out.tail.head 2).trans rfl), ((box_cell BK1.out CH.out.tail.head 3).trans rfl), ((box_cell BK2.out CH.out.head 0).trans rfl), ((box_cell BK3.out CH.out.head 0).trans rfl)⟩ (fun hHeld => ?_)
  refine with_tabW gDrop.tab1 gDrop.bits1 (fun HT_ HW_ => ?_)
  refine pS_ 0 6 (mb_ 21 1) ?_
  refine pS_ 1 7 (mb_ 21 3) ?_
  refine pS_ 2 8 (mb_ 21 7) ?_
  refine pS_ 3 9 (mb_ 21 15) ?_
  refine pS_ 4 10 (mb_ 21 31) ?_
  refine pS_ 6 12 (mb_ 21 95) ?_
  refine pS_ 7 13 (mb_ 21 223) ?_
  refine pS_ 8 14 (mb_ 21 479) ?_
  refine t6S_ 5 11 (mb_ 21 511) ?_
  refine t6S_ 9 15 (mb_ 21 1023) ?_
  refine t6S_ 10 16 (mb_ 21 2047) ?_
  refine pS_ 11 17 (mb_ 21 4095) ?_
  refine t6S_ 13 19 (mb_ 21 12287) ?_
  refine pS_ 14 20 (mb_ 21 28671) ?_
  refine pS_ 15 21 (mb_ 21 61439) ?_
  refine one_ (i := 12) (N := some 18) (mb_ 21 65535) rfl rfl (one_of HT_.out (by kernel_rfl)) (by decide) (fun K hK => ?_)
  refine goes_ Try.func75 (by kernel_rfl) rfl #[.agg #[.slice A0_0 l0_0.length c0_0, .slice A0_1 l0_1.length c0_1, .int .u64 a0_2, .slice A0_3 l0_3.length c0_3], .int .u32 (IntKind.u32.wrap (first * 4096))] (by rfl) rfl rfl (by simp only [List.map_toArray, List.map_cons, List.map_nil]; rfl) ?_
  with_reducible refine (PL.out _ CH.out.tail.head).mono ?_
  rintro e wx ⟨rfl, hb⟩
  refine ⟨_, rfl, ?_⟩
  replace CH := Lib.hid (CH.out.step hb)
  clear hb
  refine hK.out _ _ ⟨((box_cell BK1.out CH.out.tail.head 0).trans rfl), ((box_cell BK1.out CH.out.tail.head 1).trans rfl), ((box_cell BK1.out CH.out.tail.head 2).trans rfl), ((box_cell BK1.out CH.out.tail.head 3).trans rfl), ((box_cell BK2.out CH.out.head 0).trans rfl), ((box_cell BK3.out CH.out.head 0).trans rfl)⟩ (fun hHeld => ?_)
  clear hK K
  refine nS_ ?_
  refine one_ (i := 16) (N := some 22) (mb_ 21 131071) rfl rfl (one_of HT_.out (by kernel_rfl)) (by decide) (fun K hK => ?_)
  refine goes_ Try.func117 (by kernel_rfl) rfl #[.agg #[.slice A0_0 l0_0.length c0_0, .slice A0_1 l0_1.length c0_1], .int .u64 (IntKind.u64.wrap (a0_2 + IntKind.u64.wrap (IntKind.u32.wrap (first * 4096)))), .int .u64 (IntKind.u64.wrap ((IntKind.u64.wrap n) * 4096))] (by rfl) rfl rfl (by simp only [List.map_toArray, List.map_cons, List.map_nil]; rfl) ?_
  with_reducible refine (gClear_V (RV.out.rows.below CH.out.tail.head) hm _ _).mono ?_
  rintro e wx ⟨A', c', B', d', rfl, hRn, hb⟩
  refine ⟨_, rfl, ?_⟩
  generalize hm2 : clearS l0_1 (IntKind.u64.wrap (a0_2 + IntKind.u64.wrap (IntKind.u32.wrap (first * 4096)))) (IntKind.u64.wrap ((IntKind.u64.wrap n) * 4096)) = m2 at hRn ⊢
  have EM := Lib.hid hm2
  clear hm2
  have RN := Lib.hid (hRn.wide (ok' := fun k => (ok k ∨ w.heap.size ≤ k) ∧ k < wx.heap.size) (fun k hk => ⟨hk.1.imp id (Nat.le_trans CH.out.tail.head.size), hk.2⟩))
  replace CH := Lib.hid (CH.out.step hb)
  clear hb hRn
  have q1_0 := (box_cell BK1.out CH.out.tail.head 0).trans rfl
  have f1_0 := blk_frozen (blk_below BK1.out CH.out.tail.head) 0
  have q1_1 := (box_cell BK1.out CH.out.tail.head 1).trans rfl
  have f1_1 := blk_frozen (blk_below BK1.out CH.out.tail.head) 1
  refine hK.out _ _ ⟨((box_cell BK1.out CH.out.tail.head 0).trans rfl), ((box_cell BK1.out CH.out.tail.head 1).trans rfl), ((box_cell BK1.out CH.out.tail.head 2).trans rfl), ((box_cell BK1.out CH.out.tail.head 3).trans rfl), ((box_cell BK2.out CH.out.head 0).trans rfl), ((box_cell BK3.out CH.out.head 0).trans rfl)⟩ (fun hHeld => ?_)
  clear hK K
  refine nS_ ?_
  refine pS_ 17 23 (mb_ 21 262143) ?_
  refine pS_ 18 24 (mb_ 21 524287) ?_
  refine pS_ 19 25 (mb_ 21 1048575) ?_
  refine last_ (i := 20) (N := none) (mb_ 21 2097151) rfl rfl (one_of HT_.out (by kernel_rfl)) (by decide) (fun K hK => ?_)
  refine skip_ (w1 := ?_) (by rfl) rfl ?_ ?_
  rotate_left
  · go_simp
    rfl
  have BN1 := Lib.hid (show ((wx.setCell ⟨gw, 0, none⟩ (.slice A' l0_0.length c')).setCell ⟨gw, 1, none⟩ (.slice B' m2.length d')).heap[gw]? = some (.cells #[.slice A' l0_0.length c', .slice B' m2.length d', .int .u64 a0_2, .slice A0_3 l0_3.length c0_3] 135 (0, 0)) from blk_put (blk_put (blk_below BK1.out CH.out.tail.head) 0 _ rfl) 1 _ rfl)
  have BN2 := Lib.hid (blk_far2' (blk_below BK2.out CH.out.head) (show w.heap.size ≠ gw by omega) (.slice A' l0_0.length c') (.slice B' m2.length d'))
  have BN3 := Lib.hid (blk_far2' (blk_below BK3.out CH.out.head) (show (w.heap.size + 1) ≠ gw by omega) (.slice A' l0_0.length c') (.slice B' m2.length d'))
  have GR := Lib.hid (grown_set (j := 1) (v := .slice B' m2.length d') (grown_set (g := gw) (j := 0) (v := .slice A' l0_0.length c') (grown_of_below CH.out.tail.head)))
  have RM := Lib.hid (show RowsH ((wx.setCell ⟨gw, 0, none⟩ (.slice A' l0_0.length c')).setCell ⟨gw, 1, none⟩ (.slice B' m2.length d')) _ _ _ _ _ _ _ from RN.out.move (fun k h _ => (set_far (hkk.out k h.1)).trans (set_far (hkk.out k h.1))))
  have SZ := Lib.hid (show wx.heap.size = ((wx.setCell ⟨gw, 0, none⟩ (.slice A' l0_0.length c')).setCell ⟨gw, 1, none⟩ (.slice B' m2.length d')).heap.size by simp [World.setCell])
  clear RN BK1 BK2 BK3 CH q1_0 q1_1 f1_0 f1_1
  have P3 := Lib.hid (show Kd.C kP ((wx.setCell ⟨gw, 0, none⟩ (.slice A' l0_0.length c')).setCell ⟨gw, 1, none⟩ (.slice B' m2.length d')) A0_3 l0_3.length l0_3 from (Kd.V_reads' (Kd.V_step RV.out.2.2 (fun k h hlt => GR.out.block k hlt (fun e => hk k h (by injection e))))).2.2)
  generalize ((wx.setCell ⟨gw, 0, none⟩ (.slice A' l0_0.length c')).setCell ⟨gw, 1, none⟩ (.slice B' m2.length d')) = y2 at BN1 BN2 BN3 GR RM SZ P3 ⊢
  refine hK.out _ _ ?_
  clear hK K
  refine done_ (done_of HT_.out (by kernel_rfl)) ?_
  have q1_3 := (sblk_cell BN1.out 3).trans rfl
  go_wp2_with (fail)
  refine (pg_clone.calls A0_3 c0_3 l0_3 y2 P3.out RV.out.n3 hp).mono ?_
  rintro e wc ⟨vc, rfl, hRc, hbc⟩
  go_wp2_with (fail)
  have ltz := sblk_lt BN3.out
  refine (pg_delfR.calls (fun x => inP x first n) 120 #[.pointer (some ⟨w.heap.size, 0, none⟩), .pointer (some ⟨w.heap.size + 1, 0, none⟩)] (fun _ _ => by kernel_rfl) y2.heap.size _ vc l0_3 wc hRc hbc.size hp (fun x W hK hS => gdrop_1.calls x _ _ first n W ((hK _ (by omega)).trans (blk_below BN2.out hbc)) ((hK _ ltz).trans (blk_below BN3.out hbc)))).mono ?_
  rintro e wd ⟨vd, rfl, hRd, hbd⟩
  have hB := hbc.trans hbd
  obtain ⟨A3', c3', rfl, hOw⟩ := OwnP.of hRd
  have OW := Lib.hid (hOw.low (Nat.le_of_eq SZ.out))
  have BN := Lib.hid (blk_below BN1.out hB)
  have R3 := Lib.hid (RM.out.below hB)
  have GD := Lib.hid (grown_step GR.out hB)
  have SW := Lib.hid (Nat.le_trans GR.out.size (Nat.le_of_eq SZ.out.symm))
  clear hOw hRd hRc hbc hbd hB q1_3 BN1 BN2 BN3 RM GR SZ ltz P3
  have q1_3 := (sblk_cell BN.out 3).trans rfl
  have f1_3 := blk_frozen BN.out 3
  go_wp2
  go_end0
  have hm2 := EM.out
  subst hm2
  exact ⟨rfl, grown_set GD.out, wx.heap.size, A', c', B', d', A3', c3', SW.out, blk_put BN.out 3 _ rfl, R3.out.move (fun k h _ => set_far (hkk.out k h.1)), OW.out.move (fun k h _ => set_far (hkk.out k (.inr (Nat.le_trans SW.out h))))⟩
end Go.Proofs.Ytgkjdpdmmlalcaa.F
end
