import Derived.Test.YtgkjdpdmmlalcaaKZF0
import Derived.Test.YtgkjdpdmmlalcaaKA0
import Derived.Test.YtgkjdpdmmlalcaaKA3
import Derived.Test.YtgkjdpdmmlalcaaKA5
import Derived.Test.YtgkjdpdmmlalcaaKA8HHost6
import Derived.Test.YtgkjdpdmmlalcaaKA10PHost6
import Derived.Test.YtgkjdpdmmlalcaaKA16
import Derived.Test.YtgkjdpdmmlalcaaKA18
import Derived.Test.YtgkjdpdmmlalcaaKA20
import Derived.Test.YtgkjdpdmmlalcaaKA22
import Derived.Test.YtgkjdpdmmlalcaaKA24FGmemPut11
import Derived.Test.YtgkjdpdmmlalcaaKA25FGmemStore
import Derived.Test.YtgkjdpdmmlalcaaKA26FFerrylaw05Awake
import Derived.Test.YtgkjdpdmmlalcaaKA27PGmem4
import Derived.Test.YtgkjdpdmmlalcaaKA29
import Derived.Test.YtgkjdpdmmlalcaaKA30FFerryref05Store
import Derived.Test.YtgkjdpdmmlalcaaKA31PGmem6
section
namespace Go.Proofs.Ytgkjdpdmmlalcaa.F
open Go.RowKit Go.Shelf Go.Proofs.YtgkjdpdmmlalcaaW.PrintWords Go.Proofs.YtgkjdpdmmlalcaaW.PrintLast Go.Proofs.YtgkjdpdmmlalcaaW.PrintMore
set_option linter.unusedVariables false
set_option linter.unusedSimpArgs false
def okP5 (x : SP) : Bool := decide ((0 ≤ x.f0 ∧ x.f0 ≤ 4294967295) ∧ ((-9223372036854775808) ≤ x.f1 ∧ x.f1 ≤ 9223372036854775807))
theorem okP5_wf {p : List SP} (h : p.all okP5 = true) : ∀ x ∈ p, wfP x := fun x hx => by
  have := List.all_eq_true.1 h x hx
  unfold okP5 at this
  have h9 := of_decide_eq_true this
  exact h9
theorem okP5_of {p : List SP} (h : ∀ x ∈ p, wfP x) : p.all okP5 = true := List.all_eq_true.2 (fun x hx => by
  unfold okP5
  refine decide_eq_true ?_
  exact h x hx)
theorem bc4_ {w w' : World} {g : Nat} {T : TypeId} {a b c d : Value} (h : w.heap[g]? = some (.cells #[a, b, c, d] T (0, 0))) (hb : Below w.heap.size w w') : w'.cell? ⟨g, 0, none⟩ = some a ∧ w'.cell? ⟨g, 1, none⟩ = some b ∧ w'.cell? ⟨g, 2, none⟩ = some c ∧ w'.cell? ⟨g, 3, none⟩ = some d := ⟨(box_cell h hb 0).trans rfl, (box_cell h hb 1).trans rfl, (box_cell h hb 2).trans rfl, (box_cell h hb 3).trans rfl⟩
theorem bc2_ {w w' : World} {g : Nat} {T : TypeId} {a b : Value} (h : w.heap[g]? = some (.cells #[a, b] T (0, 0))) (hb : Below w.heap.size w w') : w'.cell? ⟨g, 0, none⟩ = some a ∧ w'.cell? ⟨g, 1, none⟩ = some b := ⟨(box_cell h hb 0).trans rfl, (box_cell h hb 1).trans rfl⟩
section
variable {W : World} {v0 v1 v3 : Value} {l : List SM} {m : List SC} {b : Int} {p : List SP}
theorem few05_L (hG : GuestV W v0 v1 v3 l m p) (wl : ∀ x ∈ l, wfM x) (wm : ∀ x ∈ m, wfC x) (b0 : 0 ≤ b) (b1 : b ≤ 18446744073709551615) (wp : ∀ x ∈ p, wfP x) {v : Bool} (hv : ferrylaw05_few.f 1001 l m b p = some v) : Calls Try.prog 9 #[.agg #[v0, v1, .int .u64 b, v3]] W fun e w' => e = .returned (.bool v) ∧ Below W.heap.size W w' := by
  obtain ⟨⟨A0, c0, rfl, h0, k0⟩, ⟨A1, c1, rfl, h1, k1⟩, ⟨A3, c3, rfl, h3, k3⟩⟩ := hG
  exact ferrylaw05_few.calls 1001 A0 c0 l A1 c1 m b A3 c3 p v W k0 h0 k1 h1 k3 h3 hv
theorem awake05_L : Calls Try.prog 10 #[] W fun e w' => e = .returned (.bool true) ∧ Below W.heap.size W w' := ferrylaw05_awake.calls 60 true W awake05_60
theorem g5Put_L (hG : GuestV W v0 v1 v3 l m p) (hF : FitG l m b p) {a : Int} {s : ByteArray} (a0 : 0 ≤ a) (a1 : a < 4294967296) (hs : s.size ≤ 300) {r2 : List SC} {r3 r4 : Int} (hr : F.putG m b p a s 2 = (r2, r3, r4)) : Calls Try.prog 11 #[.agg #[v0, v1, .int .u64 b, v3], .int .u32 a, .string s] W (RetG W l r2 b p (fun g => .tuple #[g, .agg #[.int .i64 r3, .int .u64 r4]])) := by
  obtain ⟨⟨A0, c0, rfl, h0, k0⟩, ⟨A1, c1, rfl, h1, k1⟩, ⟨A3, c3, rfl, h3, k3⟩⟩ := hG
  refine (gmem_Put.calls 301 _ A0 c0 l _ A1 c1 m b _ A3 c3 p a s l r2 b p r3 r4 W (SlV.view kM_heap _ _ k0 h0) (SlV.view kC_heap _ _ k1 h1) (SlV.view kP_heap _ _ k3 h3) (by rw [hF.Put_f a0 a1 (by omega) 301 (by omega), hr])).mono ?_
  rintro e w' ⟨x, y, z, he, h0, h1, h3, hb⟩
  exact RetG.of (f := fun g => .tuple #[g, .agg #[.int .i64 r3, .int .u64 r4]]) he h0 h1 h3 hb
theorem g5Poke_L (hG : GuestV W v0 v1 v3 l m p) (hF : FitG l m b p) {a : Int} {s : ByteArray} (a0 : 0 ≤ a) (a1 : a < 4294967296) (hs : s.size ≤ 300) {r2 : List SC} {r3 r4 : Int} (hr : F.putG m b p a s 0 = (r2, r3, r4)) : Calls Try.prog 19 #[.agg #[v0, v1, .int .u64 b, v3], .int .u32 a, .string s] W (RetG W l r2 b p (fun g => .tuple #[g, .agg #[.int .i64 r3, .int .u64 r4]])) := by
  obtain ⟨⟨A0, c0, rfl, h0, k0⟩, ⟨A1, c1, rfl, h1, k1⟩, ⟨A3, c3, rfl, h3, k3⟩⟩ := hG
  refine (gmem_Poke.calls 301 _ A0 c0 l _ A1 c1 m b _ A3 c3 p a s l r2 b p r3 r4 W (SlV.view kM_heap _ _ k0 h0) (SlV.view kC_heap _ _ k1 h1) (SlV.view kP_heap _ _ k3 h3) (by rw [hF.Poke_f a0 a1 (by omega) 301 (by omega), hr])).mono ?_
  rintro e w' ⟨x, y, z, he, h0, h1, h3, hb⟩
  exact RetG.of (f := fun g => .tuple #[g, .agg #[.int .i64 r3, .int .u64 r4]]) he h0 h1 h3 hb
theorem g5Store_L (hG : GuestV W v0 v1 v3 l m p) (hF : FitG l m b p) {a n v : Int} (a0 : 0 ≤ a) (a1 : a < 4294967296) (n0 : -9223372036854775808 ≤ n) (n1 : n ≤ 9223372036854775807) (v0' : 0 ≤ v) (v1' : v ≤ 18446744073709551615) {r2 : List SC} {r3 r4 : Int} (hr : F.storeG m b p a n v = (r2, r3, r4)) : Calls Try.prog 21 #[.agg #[v0, v1, .int .u64 b, v3], .int .u32 a, .int .i64 n, .int .u64 v] W (RetG W l r2 b p (fun g => .tuple #[g, .agg #[.int .i64 r3, .int .u64 r4]])) := by
  obtain ⟨⟨A0, c0, rfl, h0, k0⟩, ⟨A1, c1, rfl, h1, k1⟩, ⟨A3, c3, rfl, h3, k3⟩⟩ := hG
  refine (gmem_Store.calls 9 _ A0 c0 l _ A1 c1 m b _ A3 c3 p a n v l r2 b p r3 r4 W (SlV.view kM_heap _ _ k0 h0) (SlV.view kC_heap _ _ k1 h1) (SlV.view kP_heap _ _ k3 h3) (by rw [hF.Store_f a0 a1 n0 n1 9 (by omega), hr])).mono ?_
  rintro e w' ⟨x, y, z, he, h0, h1, h3, hb⟩
  exact RetG.of (f := fun g => .tuple #[g, .agg #[.int .i64 r3, .int .u64 r4]]) he h0 h1 h3 hb
theorem r5Put_L (hG : GuestV W v0 v1 v3 l m p) (hF : FitG l m b p) {a : Int} {s : ByteArray} (a0 : 0 ≤ a) (a1 : a < 4294967296) (hs : s.size ≤ 300) {r2 : List SC} {r3 r4 : Int} (hr : F.putG m b p a s 2 = (r2, r3, r4)) : Calls Try.prog 18 #[.agg #[v0, v1, .int .u64 b, v3], .int .u32 a, .string s] W (RetG W l r2 b p (fun g => .tuple #[g, .agg #[.int .i64 r3, .int .u64 r4]])) := by
  obtain ⟨⟨A0, c0, rfl, h0, k0⟩, ⟨A1, c1, rfl, h1, k1⟩, ⟨A3, c3, rfl, h3, k3⟩⟩ := hG
  refine (ferryref05_Put.calls 4000001 _ A0 c0 l _ A1 c1 m b _ A3 c3 p a s l r2 b p r3 r4 W (SlV.view kM_heap _ _ k0 h0) (SlV.view kC_heap _ _ k1 h1) (SlV.view kP_heap _ _ k3 h3) (by rw [hF.rPut_f a0 a1 (by omega) 4000001 (by omega), hr])).mono ?_
  rintro e w' ⟨x, y, z, he, h0, h1, h3, hb⟩
  exact RetG.of (f := fun g => .tuple #[g, .agg #[.int .i64 r3, .int .u64 r4]]) he h0 h1 h3 hb
theorem r5Poke_L (hG : GuestV W v0 v1 v3 l m p) (hF : FitG l m b p) {a : Int} {s : ByteArray} (a0 : 0 ≤ a) (a1 : a < 4294967296) (hs : s.size ≤ 300) {r2 : List SC} {r3 r4 : Int} (hr : F.putG m b p a s 0 = (r2, r3, r4)) : Calls Try.prog 20 #[.agg #[v0, v1, .int .u64 b, v3], .int .u32 a, .string s] W (RetG W l r2 b p (fun g => .tuple #[g, .agg #[.int .i64 r3, .int .u64 r4]])) := by
  obtain ⟨⟨A0, c0, rfl, h0, k0⟩, ⟨A1, c1, rfl, h1, k1⟩, ⟨A3, c3, rfl, h3, k3⟩⟩ := hG
  refine (ferryref05_Poke.calls 4000001 _ A0 c0 l _ A1 c1 m b _ A3 c3 p a s l r2 b p r3 r4 W (SlV.view kM_heap _ _ k0 h0) (SlV.view kC_heap _ _ k1 h1) (SlV.view kP_heap _ _ k3 h3) (by rw [hF.rPoke_f a0 a1 (by omega) 4000001 (by omega), hr])).mono ?_
  rintro e w' ⟨x, y, z, he, h0, h1, h3, hb⟩
  exact RetG.of (f := fun g => .tuple #[g, .agg #[.int .i64 r3, .int .u64 r4]]) he h0 h1 h3 hb
theorem r5Store_L (hG : GuestV W v0 v1 v3 l m p) (hF : FitG l m b p) {a n v : Int} (a0 : 0 ≤ a) (a1 : a < 4294967296) (n0 : -9223372036854775808 ≤ n) (n1 : n ≤ 9223372036854775807) (v0' : 0 ≤ v) (v1' : v ≤ 18446744073709551615) {r2 : List SC} {r3 r4 : Int} (hr : F.storeG m b p a n v = (r2, r3, r4)) : Calls Try.prog 22 #[.agg #[v0, v1, .int .u64 b, v3], .int .u32 a, .int .i64 n, .int .u64 v] W (RetG W l r2 b p (fun g => .tuple #[g, .agg #[.int .i64 r3, .int .u64 r4]])) := by
  obtain ⟨⟨A0, c0, rfl, h0, k0⟩, ⟨A1, c1, rfl, h1, k1⟩, ⟨A3, c3, rfl, h3, k3⟩⟩ := hG
  refine (ferryref05_Store.calls 4000001 _ A0 c0 l _ A1 c1 m b _ A3 c3 p a n v l r2 b p r3 r4 W (SlV.view kM_heap _ _ k0 h0) (SlV.view kC_heap _ _ k1 h1) (SlV.view kP_heap _ _ k3 h3) (by rw [hF.rStore_f a0 a1 v0' v1' 4000001 (by omega), hr])).mono ?_
  rintro e w' ⟨x, y, z, he, h0, h1, h3, hb⟩
  exact RetG.of (f := fun g => .tuple #[g, .agg #[.int .i64 r3, .int .u64 r4]]) he h0 h1 h3 hb
end

-- HAND fn=ferry/ferrylaw05.GmemWrites ; rounds=0 ; making=1 ; laid=0
def ferrylaw05_GmemWrites.f (l0_0 : List S83) (l0_1 : List S88) (a0_2 : Int) (l0_3 : List S41) (a1 : Int) (a2 : ByteArray) (a3 a4 : Int) : Option Bool := if okH l0_0 l0_1 = true ∧ (0 ≤ a0_2 ∧ a0_2 ≤ 18446744073709551615) ∧ l0_3.all okP5 = true ∧ (0 ≤ a1 ∧ a1 ≤ 4294967295) ∧ (-9223372036854775808 ≤ a3 ∧ a3 ≤ 9223372036854775807) ∧ (0 ≤ a4 ∧ a4 ≤ 18446744073709551615) then some true else none
set_option maxHeartbeats 8000000 in
set_option maxRecDepth 100000 in
theorem ferrylaw05_GmemWrites.calls (A0_0 : Option Addr) (c0_0 : Nat) (l0_0 : List S83) (A0_1 : Option Addr) (c0_1 : Nat) (l0_1 : List S88) (a0_2 : Int) (A0_3 : Option Addr) (c0_3 : Nat) (l0_3 : List S41) (a1 : Int) (a2 : ByteArray) (a3 a4 : Int) (r : Bool) (w : World) (hr0_0 : Kd.C k83 w A0_0 l0_0.length l0_0) (hc0_0 : l0_0.length ≤ c0_0) (hr0_1 : Kd.C k88 w A0_1 l0_1.length l0_1) (hc0_1 : l0_1.length ≤ c0_1) (hr0_3 : Kd.C k41 w A0_3 l0_3.length l0_3) (hc0_3 : l0_3.length ≤ c0_3) (h : ferrylaw05_GmemWrites.f l0_0 l0_1 a0_2 l0_3 a1 a2 a3 a4 = some r) :
    Calls Try.prog 5 #[.agg #[.slice A0_0 l0_0.length c0_0, .slice A0_1 l0_1.length c0_1, .int .u64 a0_2, .slice A0_3 l0_3.length c0_3], .int .u32 a1, .string a2, .int .i64 a3, .int .u64 a4] w fun e w' => e = .returned (.bool r) ∧ Below w.heap.size w w' := by
  unfold ferrylaw05_GmemWrites.f at h
  split at h
  rotate_left
  · cases h
  rename_i hcond
  obtain rfl : true = r := Option.some.inj h
  clear h
  obtain ⟨ho, hb0, hop, ha1, ha3, ha4⟩ := hcond
  have WF := Lib.hid (okH_wf ho)
  have WP := Lib.hid (okP5_wf hop)
  have WB := Lib.hid hb0
  clear ho hop hb0
  have X1 := Lib.hid (show 0 ≤ a1 ∧ a1 < 4294967296 by omega)
  have X3 := Lib.hid ha3
  have X4 := Lib.hid ha4
  clear ha1 ha3 ha4
  have VG := Lib.hid (show GuestV w _ _ _ l0_0 l0_1 l0_3 from ⟨SlV.mk hr0_0 hc0_0, SlV.mk hr0_1 hc0_1, SlV.mk hr0_3 hc0_3⟩)
  clear hr0_0 hc0_0 hr0_1 hc0_1 hr0_3 hc0_3
  obtain ⟨fv, hfv, hfi⟩ := few05 WF.out.1 WF.out.2 WB.out.1 WB.out.2 WP.out 1001 (by omega)
  have HV := Lib.hid hfv
  have HI := Lib.hid hfi
  clear hfv hfi
  have hu := Try.underlying29
  have hu2 := Try.underlying34
  have CH := Lib.hid (show Chain [w] w from ⟨Below.refl _ _, trivial⟩)
  go_enter Try.func5, Try.ntmps5
  go_upto_region 1 with (fail)
  replace CH := Lib.hid (CH.out.alloc (.cells #[.slice A0_0 l0_0.length c0_0, .slice A0_1 l0_1.length c0_1, .int .u64 a0_2, .slice A0_3 l0_3.length c0_3] 29))
  have BK5 := Lib.hid (blk_new w (.cells #[.slice A0_0 l0_0.length c0_0, .slice A0_1 l0_1.length c0_1, .int .u64 a0_2, .slice A0_3 l0_3.length c0_3] 29))
  generalize w.alloc (.cells #[.slice A0_0 l0_0.length c0_0, .slice A0_1 l0_1.length c0_1, .int .u64 a0_2, .slice A0_3 l0_3.length c0_3] 29) = y1 at CH BK5 ⊢
  replace CH := Lib.hid CH.out.push
  obtain ⟨q5_0, q5_1, q5_2, q5_3⟩ := bc4_ BK5.out CH.out.head
  cases fv
  · skip
    go_wp2_with (first | (go_at_call 9; (with_reducible refine (few05_L (VG.out.below CH.out.tail.head) WF.out.1 WF.out.2 WB.out.1 WB.out.2 WP.out HV.out).mono ?_); rintro e wx ⟨rfl, hb⟩; replace CH := Lib.hid (CH.out.step hb); clear hb; obtain ⟨q5_0, q5_1, q5_2, q5_3⟩ := bc4_ BK5.out CH.out.head) | (go_at_call 10; (with_reducible refine awake05_L.mono ?_); rintro e wx ⟨rfl, hb⟩; replace CH := Lib.hid (CH.out.step hb); clear hb))
    go_ret
    exact ⟨rfl, CH.out.tail.head⟩
  have HF := Lib.hid (HI.out rfl).1
  have HM := Lib.hid (HI.out rfl).2.2.1
  clear HI
  cases hle : decide ((a2.size : Int) > 300)
  rotate_left
  · skip
    go_wp2_with (first | (go_at_call 9; (with_reducible refine (few05_L (VG.out.below CH.out.tail.head) WF.out.1 WF.out.2 WB.out.1 WB.out.2 WP.out HV.out).mono ?_); rintro e wx ⟨rfl, hb⟩; replace CH := Lib.hid (CH.out.step hb); clear hb; obtain ⟨q5_0, q5_1, q5_2, q5_3⟩ := bc4_ BK5.out CH.out.head) | (go_at_call 10; (with_reducible refine awake05_L.mono ?_); rintro e wx ⟨rfl, hb⟩; replace CH := Lib.hid (CH.out.step hb); clear hb))
    go_ret
    exact ⟨rfl, CH.out.tail.head⟩
  have HS := Lib.hid (show a2.size ≤ 300 by have := of_decide_eq_false hle; omega)
  go_upto_region 3 with (first | (go_at_call 9; (with_reducible refine (few05_L (VG.out.below CH.out.tail.head) WF.out.1 WF.out.2 WB.out.1 WB.out.2 WP.out HV.out).mono ?_); rintro e wx ⟨rfl, hb⟩; replace CH := Lib.hid (CH.out.step hb); clear hb; obtain ⟨q5_0, q5_1, q5_2, q5_3⟩ := bc4_ BK5.out CH.out.head))
  clear hle
  obtain ⟨rm2, rm3, rm4, erm⟩ : ∃ y z u, F.putG l0_1 a0_2 l0_3 a1 a2 2 = (y, z, u) := ⟨_, _, _, rfl⟩
  have Fm := Lib.hid (show FitG l0_0 rm2 a0_2 l0_3 by have := HF.out.putG (need := 2) (s := a2) X1.out.1 X1.out.2 (by have := HM.out; have := HS.out; omega); rw [erm] at this; exact this)
  have Em := Lib.hid erm
  clear erm
  obtain ⟨ru2, ru3, ru4, eru⟩ : ∃ y z u, F.putG l0_1 a0_2 l0_3 a1 a2 0 = (y, z, u) := ⟨_, _, _, rfl⟩
  have Fu := Lib.hid (show FitG l0_0 ru2 a0_2 l0_3 by have := HF.out.putG (need := 0) (s := a2) X1.out.1 X1.out.2 (by have := HM.out; have := HS.out; omega); rw [eru] at this; exact this)
  have Eu := Lib.hid eru
  clear eru
  obtain ⟨rp2, rp3, rp4, erp⟩ : ∃ y z u, F.storeG l0_1 a0_2 l0_3 a1 a3 a4 = (y, z, u) := ⟨_, _, _, rfl⟩
  have Fp := Lib.hid (show FitG l0_0 rp2 a0_2 l0_3 by have := HF.out.storeG (n := a3) (v := a4) X1.out.1 X1.out.2 (by have := HM.out; omega); rw [erp] at this; exact this)
  have Ep := Lib.hid erp
  clear erp
  obtain ⟨q5_0, q5_1, q5_2, q5_3⟩ := bc4_ BK5.out CH.out.head
  go_upto_region 4 with (go_at_call 11; (with_reducible refine (g5Put_L (VG.out.below CH.out.tail.head) HF.out X1.out.1 X1.out.2 HS.out Em.out).mono ?_); rintro e wxm ⟨Am, cm, Bm, dm, Cm, em, rfl, hv, hb⟩)
  replace CH := Lib.hid (((CH.out.step hb).alloc (.cells #[.slice Am l0_0.length cm, .slice Bm rm2.length dm, .int .u64 a0_2, .slice Cm l0_3.length em] 29)).alloc (.cells #[.int .i64 rm3, .int .u64 rm4] 34))
  have BK11 := Lib.hid (blk_alloc (blk_new wxm (.cells #[.slice Am l0_0.length cm, .slice Bm rm2.length dm, .int .u64 a0_2, .slice Cm l0_3.length em] 29)) (.cells #[.int .i64 rm3, .int .u64 rm4] 34))
  have BK12 := Lib.hid (blk_new1 wxm (.cells #[.slice Am l0_0.length cm, .slice Bm rm2.length dm, .int .u64 a0_2, .slice Cm l0_3.length em] 29) (.cells #[.int .i64 rm3, .int .u64 rm4] 34))
  have Vm := Lib.hid ((GuestV.below hv (below_new wxm (.cells #[.slice Am l0_0.length cm, .slice Bm rm2.length dm, .int .u64 a0_2, .slice Cm l0_3.length em] 29))).below (below_new _ (.cells #[.int .i64 rm3, .int .u64 rm4] 34)))
  generalize (wxm.alloc (.cells #[.slice Am l0_0.length cm, .slice Bm rm2.length dm, .int .u64 a0_2, .slice Cm l0_3.length em] 29)).alloc (.cells #[.int .i64 rm3, .int .u64 rm4] 34) = y2 at CH BK11 BK12 Vm ⊢
  replace CH := Lib.hid CH.out.push
  clear hv hb
  obtain ⟨q5_0, q5_1, q5_2, q5_3⟩ := bc4_ BK5.out CH.out.tail.head
  go_upto_region 5 with (go_at_call 18; (with_reducible refine (r5Put_L (VG.out.below CH.out.tail.tail.head) HF.out X1.out.1 X1.out.2 HS.out Em.out).mono ?_); rintro e wxm' ⟨Am', cm', Bm', dm', Cm', em', rfl, hv, hb⟩)
  replace CH := Lib.hid (((CH.out.step hb).alloc (.cells #[.slice Am' l0_0.length cm', .slice Bm' rm2.length dm', .int .u64 a0_2, .slice Cm' l0_3.length em'] 29)).alloc (.cells #[.int .i64 rm3, .int .u64 rm4] 34))
  have BK13 := Lib.hid (blk_alloc (blk_new wxm' (.cells #[.slice Am' l0_0.length cm', .slice Bm' rm2.length dm', .int .u64 a0_2, .slice Cm' l0_3.length em'] 29)) (.cells #[.int .i64 rm3, .int .u64 rm4] 34))
  have BK14 := Lib.hid (blk_new1 wxm' (.cells #[.slice Am' l0_0.length cm', .slice Bm' rm2.length dm', .int .u64 a0_2, .slice Cm' l0_3.length em'] 29) (.cells #[.int .i64 rm3, .int .u64 rm4] 34))
  have Vm' := Lib.hid ((GuestV.below hv (below_new wxm' (.cells #[.slice Am' l0_0.length cm', .slice Bm' rm2.length dm', .int .u64 a0_2, .slice Cm' l0_3.length em'] 29))).below (below_new _ (.cells #[.int .i64 rm3, .int .u64 rm4] 34)))
  generalize (wxm'.alloc (.cells #[.slice Am' l0_0.length cm', .slice Bm' rm2.length dm', .int .u64 a0_2, .slice Cm' l0_3.length em'] 29)).alloc (.cells #[.int .i64 rm3, .int .u64 rm4] 34) = y3 at CH BK13 BK14 Vm' ⊢
  replace CH := Lib.hid CH.out.push
  clear hv hb
  obtain ⟨q5_0, q5_1, q5_2, q5_3⟩ := bc4_ BK5.out CH.out.tail.tail.head
  go_upto_region 6 with (go_at_call 19; (with_reducible refine (g5Poke_L (VG.out.below CH.out.tail.tail.tail.head) HF.out X1.out.1 X1.out.2 HS.out Eu.out).mono ?_); rintro e wxu ⟨Au, cu, Bu, du, Cu, eu, rfl, hv, hb⟩)
  replace CH := Lib.hid (((CH.out.step hb).alloc (.cells #[.slice Au l0_0.length cu, .slice Bu ru2.length du, .int .u64 a0_2, .slice Cu l0_3.length eu] 29)).alloc (.cells #[.int .i64 ru3, .int .u64 ru4] 34))
  have BK15 := Lib.hid (blk_alloc (blk_new wxu (.cells #[.slice Au l0_0.length cu, .slice Bu ru2.length du, .int .u64 a0_2, .slice Cu l0_3.length eu] 29)) (.cells #[.int .i64 ru3, .int .u64 ru4] 34))
  have BK16 := Lib.hid (blk_new1 wxu (.cells #[.slice Au l0_0.length cu, .slice Bu ru2.length du, .int .u64 a0_2, .slice Cu l0_3.length eu] 29) (.cells #[.int .i64 ru3, .int .u64 ru4] 34))
  have Vu := Lib.hid ((GuestV.below hv (below_new wxu (.cells #[.slice Au l0_0.length cu, .slice Bu ru2.length du, .int .u64 a0_2, .slice Cu l0_3.length eu] 29))).below (below_new _ (.cells #[.int .i64 ru3, .int .u64 ru4] 34)))
  generalize (wxu.alloc (.cells #[.slice Au l0_0.length cu, .slice Bu ru2.length du, .int .u64 a0_2, .slice Cu l0_3.length eu] 29)).alloc (.cells #[.int .i64 ru3, .int .u64 ru4] 34) = y4 at CH BK15 BK16 Vu ⊢
  replace CH := Lib.hid CH.out.push
  clear hv hb
  obtain ⟨q5_0, q5_1, q5_2, q5_3⟩ := bc4_ BK5.out CH.out.tail.tail.tail.head
  go_upto_region 7 with (go_at_call 20; (with_reducible refine (r5Poke_L (VG.out.below CH.out.tail.tail.tail.tail.head) HF.out X1.out.1 X1.out.2 HS.out Eu.out).mono ?_); rintro e wxu' ⟨Au', cu', Bu', du', Cu', eu', rfl, hv, hb⟩)
  replace CH := Lib.hid (((CH.out.step hb).alloc (.cells #[.slice Au' l0_0.length cu', .slice Bu' ru2.length du', .int .u64 a0_2, .slice Cu' l0_3.length eu'] 29)).alloc (.cells #[.int .i64 ru3, .int .u64 ru4] 34))
  have BK17 := Lib.hid (blk_alloc (blk_new wxu' (.cells #[.slice Au' l0_0.length cu', .slice Bu' ru2.length du', .int .u64 a0_2, .slice Cu' l0_3.length eu'] 29)) (.cells #[.int .i64 ru3, .int .u64 ru4] 34))
  have BK18 := Lib.hid (blk_new1 wxu' (.cells #[.slice Au' l0_0.length cu', .slice Bu' ru2.length du', .int .u64 a0_2, .slice Cu' l0_3.length eu'] 29) (.cells #[.int .i64 ru3, .int .u64 ru4] 34))
  have Vu' := Lib.hid ((GuestV.below hv (below_new wxu' (.cells #[.slice Au' l0_0.length cu', .slice Bu' ru2.length du', .int .u64 a0_2, .slice Cu' l0_3.length eu'] 29))).below (below_new _ (.cells #[.int .i64 ru3, .int .u64 ru4] 34)))
  generalize (wxu'.alloc (.cells #[.slice Au' l0_0.length cu', .slice Bu' ru2.length du', .int .u64 a0_2, .slice Cu' l0_3.length eu'] 29)).alloc (.cells #[.int .i64 ru3, .int .u64 ru4] 34) = y5 at CH BK17 BK18 Vu' ⊢
  replace CH := Lib.hid CH.out.push
  clear hv hb
  obtain ⟨q5_0, q5_1, q5_2, q5_3⟩ := bc4_ BK5.out CH.out.tail.tail.tail.tail.head
  go_upto_region 8 with (go_at_call 21; (with_reducible refine (g5Store_L (VG.out.below CH.out.tail.tail.tail.tail.tail.head) HF.out X1.out.1 X1.out.2 X3.out.1 X3.out.2 X4.out.1 X4.out.2 Ep.out).mono ?_); rintro e wxp ⟨Ap, cp, Bp, dp, Cp, ep, rfl, hv, hb⟩)
  replace CH := Lib.hid (((CH.out.step hb).alloc (.cells #[.slice Ap l0_0.length cp, .slice Bp rp2.length dp, .int .u64 a0_2, .slice Cp l0_3.length ep] 29)).alloc (.cells #[.int .i64 rp3, .int .u64 rp4] 34))
  have BK19 := Lib.hid (blk_alloc (blk_new wxp (.cells #[.slice Ap l0_0.length cp, .slice Bp rp2.length dp, .int .u64 a0_2, .slice Cp l0_3.length ep] 29)) (.cells #[.int .i64 rp3, .int .u64 rp4] 34))
  have BK20 := Lib.hid (blk_new1 wxp (.cells #[.slice Ap l0_0.length cp, .slice Bp rp2.length dp, .int .u64 a0_2, .slice Cp l0_3.length ep] 29) (.cells #[.int .i64 rp3, .int .u64 rp4] 34))
  have Vp := Lib.hid ((GuestV.below hv (below_new wxp (.cells #[.slice Ap l0_0.length cp, .slice Bp rp2.length dp, .int .u64 a0_2, .slice Cp l0_3.length ep] 29))).below (below_new _ (.cells #[.int .i64 rp3, .int .u64 rp4] 34)))
  generalize (wxp.alloc (.cells #[.slice Ap l0_0.length cp, .slice Bp rp2.length dp, .int .u64 a0_2, .slice Cp l0_3.length ep] 29)).alloc (.cells #[.int .i64 rp3, .int .u64 rp4] 34) = y6 at CH BK19 BK20 Vp ⊢
  replace CH := Lib.hid CH.out.push
  clear hv hb
  obtain ⟨q5_0, q5_1, q5_2, q5_3⟩ := bc4_ BK5.out CH.out.tail.tail.tail.tail.tail.head
  go_upto_region 9 with (go_at_call 22; (with_reducible refine (r5Store_L (VG.out.below CH.out.tail.tail.tail.tail.tail.tail.head) HF.out X1.out.1 X1.out.2 X3.out.1 X3.out.2 X4.out.1 X4.out.2 Ep.out).mono ?_); rintro e wxp' ⟨Ap', cp', Bp', dp', Cp', ep', rfl, hv, hb⟩)
  replace CH := Lib.hid (((CH.out.step hb).alloc (.cells #[.slice Ap' l0_0.length cp', .slice Bp' rp2.length dp', .int .u64 a0_2, .slice Cp' l0_3.length ep'] 29)).alloc (.cells #[.int .i64 rp3, .int .u64 rp4] 34))
  have BK21 := Lib.hid (blk_alloc (blk_new wxp' (.cells #[.slice Ap' l0_0.length cp', .slice Bp' rp2.length dp', .int .u64 a0_2, .slice Cp' l0_3.length ep'] 29)) (.cells #[.int .i64 rp3, .int .u64 rp4] 34))
  have BK22 := Lib.hid (blk_new1 wxp' (.cells #[.slice Ap' l0_0.length cp', .slice Bp' rp2.length dp', .int .u64 a0_2, .slice Cp' l0_3.length ep'] 29) (.cells #[.int .i64 rp3, .int .u64 rp4] 34))
  have Vp' := Lib.hid ((GuestV.below hv (below_new wxp' (.cells #[.slice Ap' l0_0.length cp', .slice Bp' rp2.length dp', .int .u64 a0_2, .slice Cp' l0_3.length ep'] 29))).below (below_new _ (.cells #[.int .i64 rp3, .int .u64 rp4] 34)))
  generalize (wxp'.alloc (.cells #[.slice Ap' l0_0.length cp', .slice Bp' rp2.length dp', .int .u64 a0_2, .slice Cp' l0_3.length ep'] 29)).alloc (.cells #[.int .i64 rp3, .int .u64 rp4] 34) = y7 at CH BK21 BK22 Vp' ⊢
  replace CH := Lib.hid CH.out.push
  clear hv hb
  obtain ⟨q11_0, q11_1, q11_2, q11_3⟩ := bc4_ BK11.out CH.out.tail.tail.tail.tail.tail.head
  obtain ⟨q12_0, q12_1⟩ := bc2_ BK12.out CH.out.tail.tail.tail.tail.tail.head
  obtain ⟨q13_0, q13_1, q13_2, q13_3⟩ := bc4_ BK13.out CH.out.tail.tail.tail.tail.head
  obtain ⟨q14_0, q14_1⟩ := bc2_ BK14.out CH.out.tail.tail.tail.tail.head
  obtain ⟨q15_0, q15_1, q15_2, q15_3⟩ := bc4_ BK15.out CH.out.tail.tail.tail.head
  obtain ⟨q16_0, q16_1⟩ := bc2_ BK16.out CH.out.tail.tail.tail.head
  obtain ⟨q17_0, q17_1, q17_2, q17_3⟩ := bc4_ BK17.out CH.out.tail.tail.head
  obtain ⟨q18_0, q18_1⟩ := bc2_ BK18.out CH.out.tail.tail.head
  obtain ⟨q19_0, q19_1, q19_2, q19_3⟩ := bc4_ BK19.out CH.out.tail.head
  obtain ⟨q20_0, q20_1⟩ := bc2_ BK20.out CH.out.tail.head
  obtain ⟨q21_0, q21_1, q21_2, q21_3⟩ := bc4_ BK21.out CH.out.head
  obtain ⟨q22_0, q22_1⟩ := bc2_ BK22.out CH.out.head
  go_wp2_with (first | (go_at_call 12; (with_reducible refine (rSame04T_L (Vm.out.below CH.out.tail.tail.tail.tail.tail.head) (Vm'.out.below CH.out.tail.tail.tail.tail.head) Fm.out.len).mono ?_); rintro e wx ⟨rfl, hb⟩; replace CH := Lib.hid (CH.out.step hb); clear hb; obtain ⟨q11_0, q11_1, q11_2, q11_3⟩ := bc4_ BK11.out CH.out.tail.tail.tail.tail.tail.head; obtain ⟨q12_0, q12_1⟩ := bc2_ BK12.out CH.out.tail.tail.tail.tail.tail.head; obtain ⟨q13_0, q13_1, q13_2, q13_3⟩ := bc4_ BK13.out CH.out.tail.tail.tail.tail.head; obtain ⟨q14_0, q14_1⟩ := bc2_ BK14.out CH.out.tail.tail.tail.tail.head; obtain ⟨q15_0, q15_1, q15_2, q15_3⟩ := bc4_ BK15.out CH.out.tail.tail.tail.head; obtain ⟨q16_0, q16_1⟩ := bc2_ BK16.out CH.out.tail.tail.tail.head; obtain ⟨q17_0, q17_1, q17_2, q17_3⟩ := bc4_ BK17.out CH.out.tail.tail.head; obtain ⟨q18_0, q18_1⟩ := bc2_ BK18.out CH.out.tail.tail.head; obtain ⟨q19_0, q19_1, q19_2, q19_3⟩ := bc4_ BK19.out CH.out.tail.head; obtain ⟨q20_0, q20_1⟩ := bc2_ BK20.out CH.out.tail.head; obtain ⟨q21_0, q21_1, q21_2, q21_3⟩ := bc4_ BK21.out CH.out.head; obtain ⟨q22_0, q22_1⟩ := bc2_ BK22.out CH.out.head) | (go_at_call 12; (with_reducible refine (rSame04T_L (Vu.out.below CH.out.tail.tail.tail.head) (Vu'.out.below CH.out.tail.tail.head) Fu.out.len).mono ?_); rintro e wx ⟨rfl, hb⟩; replace CH := Lib.hid (CH.out.step hb); clear hb; obtain ⟨q11_0, q11_1, q11_2, q11_3⟩ := bc4_ BK11.out CH.out.tail.tail.tail.tail.tail.head; obtain ⟨q12_0, q12_1⟩ := bc2_ BK12.out CH.out.tail.tail.tail.tail.tail.head; obtain ⟨q13_0, q13_1, q13_2, q13_3⟩ := bc4_ BK13.out CH.out.tail.tail.tail.tail.head; obtain ⟨q14_0, q14_1⟩ := bc2_ BK14.out CH.out.tail.tail.tail.tail.head; obtain ⟨q15_0, q15_1, q15_2, q15_3⟩ := bc4_ BK15.out CH.out.tail.tail.tail.head; obtain ⟨q16_0, q16_1⟩ := bc2_ BK16.out CH.out.tail.tail.tail.head; obtain ⟨q17_0, q17_1, q17_2, q17_3⟩ := bc4_ BK17.out CH.out.tail.tail.head; obtain ⟨q18_0, q18_1⟩ := bc2_ BK18.out CH.out.tail.tail.head; obtain ⟨q19_0, q19_1, q19_2, q19_3⟩ := bc4_ BK19.out CH.out.tail.head; obtain ⟨q20_0, q20_1⟩ := bc2_ BK20.out CH.out.tail.head; obtain ⟨q21_0, q21_1, q21_2, q21_3⟩ := bc4_ BK21.out CH.out.head; obtain ⟨q22_0, q22_1⟩ := bc2_ BK22.out CH.out.head) | (go_at_call 12; (with_reducible refine (rSame04T_L (Vp.out.below CH.out.tail.head) (Vp'.out.below CH.out.head) Fp.out.len).mono ?_); rintro e wx ⟨rfl, hb⟩; replace CH := Lib.hid (CH.out.step hb); clear hb; obtain ⟨q11_0, q11_1, q11_2, q11_3⟩ := bc4_ BK11.out CH.out.tail.tail.tail.tail.tail.head; obtain ⟨q12_0, q12_1⟩ := bc2_ BK12.out CH.out.tail.tail.tail.tail.tail.head; obtain ⟨q13_0, q13_1, q13_2, q13_3⟩ := bc4_ BK13.out CH.out.tail.tail.tail.tail.head; obtain ⟨q14_0, q14_1⟩ := bc2_ BK14.out CH.out.tail.tail.tail.tail.head; obtain ⟨q15_0, q15_1, q15_2, q15_3⟩ := bc4_ BK15.out CH.out.tail.tail.tail.head; obtain ⟨q16_0, q16_1⟩ := bc2_ BK16.out CH.out.tail.tail.tail.head; obtain ⟨q17_0, q17_1, q17_2, q17_3⟩ := bc4_ BK17.out CH.out.tail.tail.head; obtain ⟨q18_0, q18_1⟩ := bc2_ BK18.out CH.out.tail.tail.head; obtain ⟨q19_0, q19_1, q19_2, q19_3⟩ := bc4_ BK19.out CH.out.tail.head; obtain ⟨q20_0, q20_1⟩ := bc2_ BK20.out CH.out.tail.head; obtain ⟨q21_0, q21_1, q21_2, q21_3⟩ := bc4_ BK21.out CH.out.head; obtain ⟨q22_0, q22_1⟩ := bc2_ BK22.out CH.out.head) | (go_at_call 16; (with_reducible refine (rFit04T_L (Vm.out.below CH.out.tail.tail.tail.tail.tail.head) Fm.out).mono ?_); rintro e wx ⟨rfl, hb⟩; replace CH := Lib.hid (CH.out.step hb); clear hb; obtain ⟨q11_0, q11_1, q11_2, q11_3⟩ := bc4_ BK11.out CH.out.tail.tail.tail.tail.tail.head; obtain ⟨q12_0, q12_1⟩ := bc2_ BK12.out CH.out.tail.tail.tail.tail.tail.head; obtain ⟨q13_0, q13_1, q13_2, q13_3⟩ := bc4_ BK13.out CH.out.tail.tail.tail.tail.head; obtain ⟨q14_0, q14_1⟩ := bc2_ BK14.out CH.out.tail.tail.tail.tail.head; obtain ⟨q15_0, q15_1, q15_2, q15_3⟩ := bc4_ BK15.out CH.out.tail.tail.tail.head; obtain ⟨q16_0, q16_1⟩ := bc2_ BK16.out CH.out.tail.tail.tail.head; obtain ⟨q17_0, q17_1, q17_2, q17_3⟩ := bc4_ BK17.out CH.out.tail.tail.head; obtain ⟨q18_0, q18_1⟩ := bc2_ BK18.out CH.out.tail.tail.head; obtain ⟨q19_0, q19_1, q19_2, q19_3⟩ := bc4_ BK19.out CH.out.tail.head; obtain ⟨q20_0, q20_1⟩ := bc2_ BK20.out CH.out.tail.head; obtain ⟨q21_0, q21_1, q21_2, q21_3⟩ := bc4_ BK21.out CH.out.head; obtain ⟨q22_0, q22_1⟩ := bc2_ BK22.out CH.out.head) | (go_at_call 16; (with_reducible refine (rFit04T_L (Vu.out.below CH.out.tail.tail.tail.head) Fu.out).mono ?_); rintro e wx ⟨rfl, hb⟩; replace CH := Lib.hid (CH.out.step hb); clear hb; obtain ⟨q11_0, q11_1, q11_2, q11_3⟩ := bc4_ BK11.out CH.out.tail.tail.tail.tail.tail.head; obtain ⟨q12_0, q12_1⟩ := bc2_ BK12.out CH.out.tail.tail.tail.tail.tail.head; obtain ⟨q13_0, q13_1, q13_2, q13_3⟩ := bc4_ BK13.out CH.out.tail.tail.tail.tail.head; obtain ⟨q14_0, q14_1⟩ := bc2_ BK14.out CH.out.tail.tail.tail.tail.head; obtain ⟨q15_0, q15_1, q15_2, q15_3⟩ := bc4_ BK15.out CH.out.tail.tail.tail.head; obtain ⟨q16_0, q16_1⟩ := bc2_ BK16.out CH.out.tail.tail.tail.head; obtain ⟨q17_0, q17_1, q17_2, q17_3⟩ := bc4_ BK17.out CH.out.tail.tail.head; obtain ⟨q18_0, q18_1⟩ := bc2_ BK18.out CH.out.tail.tail.head; obtain ⟨q19_0, q19_1, q19_2, q19_3⟩ := bc4_ BK19.out CH.out.tail.head; obtain ⟨q20_0, q20_1⟩ := bc2_ BK20.out CH.out.tail.head; obtain ⟨q21_0, q21_1, q21_2, q21_3⟩ := bc4_ BK21.out CH.out.head; obtain ⟨q22_0, q22_1⟩ := bc2_ BK22.out CH.out.head) | (go_at_call 16; (with_reducible refine (rFit04T_L (Vp.out.below CH.out.tail.head) Fp.out).mono ?_); rintro e wx ⟨rfl, hb⟩; replace CH := Lib.hid (CH.out.step hb); clear hb; obtain ⟨q11_0, q11_1, q11_2, q11_3⟩ := bc4_ BK11.out CH.out.tail.tail.tail.tail.tail.head; obtain ⟨q12_0, q12_1⟩ := bc2_ BK12.out CH.out.tail.tail.tail.tail.tail.head; obtain ⟨q13_0, q13_1, q13_2, q13_3⟩ := bc4_ BK13.out CH.out.tail.tail.tail.tail.head; obtain ⟨q14_0, q14_1⟩ := bc2_ BK14.out CH.out.tail.tail.tail.tail.head; obtain ⟨q15_0, q15_1, q15_2, q15_3⟩ := bc4_ BK15.out CH.out.tail.tail.tail.head; obtain ⟨q16_0, q16_1⟩ := bc2_ BK16.out CH.out.tail.tail.tail.head; obtain ⟨q17_0, q17_1, q17_2, q17_3⟩ := bc4_ BK17.out CH.out.tail.tail.head; obtain ⟨q18_0, q18_1⟩ := bc2_ BK18.out CH.out.tail.tail.head; obtain ⟨q19_0, q19_1, q19_2, q19_3⟩ := bc4_ BK19.out CH.out.tail.head; obtain ⟨q20_0, q20_1⟩ := bc2_ BK20.out CH.out.tail.head; obtain ⟨q21_0, q21_1, q21_2, q21_3⟩ := bc4_ BK21.out CH.out.head; obtain ⟨q22_0, q22_1⟩ := bc2_ BK22.out CH.out.head) | (go_at_call 10; (with_reducible refine awake05_L.mono ?_); rintro e wx ⟨rfl, hb⟩; replace CH := Lib.hid (CH.out.step hb); clear hb))
  go_ret
  exact ⟨rfl, CH.out.tail.tail.tail.tail.tail.tail.tail.head⟩
end Go.Proofs.Ytgkjdpdmmlalcaa.F
end
