import Derived.Test.YtgkjdpdmmlalcaaTZF0
import Derived.Test.YtgkjdpdmmlalcaaTA0
import Derived.Test.YtgkjdpdmmlalcaaTA2
import Derived.Test.YtgkjdpdmmlalcaaTA4
import Derived.Test.YtgkjdpdmmlalcaaTA6
import Derived.Test.YtgkjdpdmmlalcaaTA8
import Derived.Test.YtgkjdpdmmlalcaaTA9HSwap
import Derived.Test.YtgkjdpdmmlalcaaTA10
import Derived.Test.YtgkjdpdmmlalcaaTA13HHost6
import Derived.Test.YtgkjdpdmmlalcaaTA14
import Derived.Test.YtgkjdpdmmlalcaaTA15FHostLoad
import Derived.Test.YtgkjdpdmmlalcaaTA18
import Derived.Test.YtgkjdpdmmlalcaaTA19FGmemPut
section
namespace Go.Proofs.Ytgkjdpdmmlalcaa.F
open Go.RowKit Go.Proofs.YtgkjdpdmmlalcaaW.PrintWords Go.Proofs.YtgkjdpdmmlalcaaW.PrintLast Go.Proofs.YtgkjdpdmmlalcaaW.PrintMore
attribute [local go_sem] max2_int min2_int max_two min_two max_three min_three max_four min_four
attribute [local go_sem] cell_twice
set_option linter.unusedVariables false
set_option linter.unusedSimpArgs false

def gmem_Put.f (k : Nat) (l0_0 : List (S83)) (l0_1 : List (S88)) (a0_2 : Int) (l0_3 : List (S41)) (a1 : Int) (a2 : ByteArray) : Option ((List (S83)) × (List (S88)) × Int × (List (S41)) × Int × Int) := (gmem_put.f k l0_0 l0_1 a0_2 l0_3 a1 a2 2).bind fun bt193 => (some (bt193.1, bt193.2.1, bt193.2.2.1, bt193.2.2.2.1, bt193.2.2.2.2.1, bt193.2.2.2.2.2))
theorem gmem_Put.mono : ∀ a0 a1 a2 a3 a4 a5 k, LeO (gmem_Put.f k a0 a1 a2 a3 a4 a5) (gmem_Put.f (k + 1) a0 a1 a2 a3 a4 a5) := by
  intro a0 a1 a2 a3 a4 a5 k
  unfold gmem_Put.f
  have ic0 := @gmem_put.mono; exact moT_
set_option maxHeartbeats 8000000 in
set_option maxRecDepth 100000 in
theorem gmem_Put.calls (k : Nat) (P0_0_ : Nat → Prop) (A0_0 : Option Addr) (c0_0 : Nat) (l0_0 : List (S83)) (P0_1_ : Nat → Prop) (A0_1 : Option Addr) (c0_1 : Nat) (l0_1 : List (S88)) (a0_2 : Int) (P0_3_ : Nat → Prop) (A0_3 : Option Addr) (c0_3 : Nat) (l0_3 : List (S41)) (a1 : Int) (a2 : ByteArray) (r1 : List (S83)) (r2 : List (S88)) (r3 : Int) (r4 : List (S41)) (r5 : Int) (r6 : Int) (w : World) (hs0_0 : Kd.V k83 83 w w.heap.size (fun k_ => P0_0_ k_) (.slice A0_0 l0_0.length c0_0) l0_0) (hs0_1 : Kd.V k88 88 w w.heap.size (fun k_ => P0_1_ k_) (.slice A0_1 l0_1.length c0_1) l0_1) (hs0_3 : Kd.V k41 41 w w.heap.size (fun k_ => P0_3_ k_) (.slice A0_3 l0_3.length c0_3) l0_3) (h : gmem_Put.f k l0_0 l0_1 a0_2 l0_3 a1 a2 = some (r1, r2, r3, r4, r5, r6)) :
    Calls Try.prog 11 #[.agg #[.slice A0_0 l0_0.length c0_0, .slice A0_1 l0_1.length c0_1, .int .u64 a0_2, .slice A0_3 l0_3.length c0_3], .int .u32 a1, .string a2] w fun e w' => ∃ v0_ v1_ v3_ : Value, e = .returned (.tuple #[.agg #[v0_, v1_, .int .u64 r3, v3_], .agg #[.int .i64 r5, .int .u64 r6]]) ∧ Kd.V k83 83 w' w.heap.size (fun k_ => ((P0_0_ k_ ∨ P0_1_ k_ ∨ P0_3_ k_) ∨ w.heap.size ≤ k_)) v0_ r1 ∧ Kd.V k88 88 w' w.heap.size (fun k_ => ((P0_0_ k_ ∨ P0_1_ k_ ∨ P0_3_ k_) ∨ w.heap.size ≤ k_)) v1_ r2 ∧ Kd.V k41 41 w' w.heap.size (fun k_ => ((P0_0_ k_ ∨ P0_1_ k_ ∨ P0_3_ k_) ∨ w.heap.size ≤ k_)) v3_ r4 ∧ Below w.heap.size w w' := by
  have hu29 := Try.underlying29
  have hu34 := Try.underlying34
  have HO0_0 := Aside0.mk (show Kd.V k83 83 w w.heap.size (fun k_ => ((P0_0_ k_ ∨ P0_1_ k_ ∨ P0_3_ k_) ∨ w.heap.size ≤ k_)) (.slice A0_0 l0_0.length c0_0) l0_0 from Kd.V_mono hs0_0 (fun k_ hk => .inl (.inl hk)))
  have HO0_1 := Aside0.mk (show Kd.V k88 88 w w.heap.size (fun k_ => ((P0_0_ k_ ∨ P0_1_ k_ ∨ P0_3_ k_) ∨ w.heap.size ≤ k_)) (.slice A0_1 l0_1.length c0_1) l0_1 from Kd.V_mono hs0_1 (fun k_ hk => .inl (.inr (.inl hk))))
  have HO0_3 := Aside0.mk (show Kd.V k41 41 w w.heap.size (fun k_ => ((P0_0_ k_ ∨ P0_1_ k_ ∨ P0_3_ k_) ∨ w.heap.size ≤ k_)) (.slice A0_3 l0_3.length c0_3) l0_3 from Kd.V_mono hs0_3 (fun k_ hk => .inl (.inr (.inr hk))))
  have HB := Aside0.mk (Below.refl w.heap.size w)
  have H : ((gmem_put.f k l0_0 l0_1 a0_2 l0_3 a1 a2 2).bind fun bt193 => (some (bt193.1, bt193.2.1, bt193.2.2.1, bt193.2.2.2.1, bt193.2.2.2.2.1, bt193.2.2.2.2.2))) = some (r1, r2, r3, r4, r5, r6) := h
  clear h
  replace H := Option.bind_eq_some_iff.mp H
  obtain ⟨⟨t193, t196, t199, t200, t203, t204⟩, A40, H⟩ := H
  have A4 := Aside0.mk A40
  clear A40
  simp only [Option.some.injEq, Prod.mk.injEq] at H
  obtain ⟨rfl, rfl, rfl, rfl, rfl, rfl⟩ := H
  go_enter Try.func11, Try.ntmps11
  go_wp2_with (first | ((with_reducible refine gate_dst (N := 3) rfl ?_); refine bE_ 3 #[.slice A0_0 l0_0.length c0_0, .slice A0_1 l0_1.length c0_1, .int .u64 a0_2, .slice A0_3 l0_3.length c0_3] 29 ?_; intro gb190 hg w5 hbox hb; have BK190 := Aside0.mk hbox; have GW190 := geT_ w.heap.size hg; have GE190 := geT_ w.heap.size hg; replace HO0_0 := vE_ HO0_0.out hg hb; replace HO0_1 := vE_ HO0_1.out hg hb; replace HO0_3 := vE_ HO0_3.out hg hb; replace HB := hB_ hb; clear hb hbox hg) | ((with_reducible refine gate_dst (N := 6) rfl ?_); refine bE_ 6 #[.slice none 0 0, .slice none 0 0, .int .u64 0, .slice none 0 0] 29 ?_; intro gb191 hg w6 hbox hb; have BK191 := Aside0.mk hbox; have GW191 := geT_ w.heap.size hg; have GE191 := geT_ w.heap.size hg; have NB190_191 := nlT_ BK190.out hg; have NB191_190 := ngT_ BK190.out hg; replace HO0_0 := vE_ HO0_0.out hg hb; replace HO0_1 := vE_ HO0_1.out hg hb; replace HO0_3 := vE_ HO0_3.out hg hb; replace BK190 := kB_ BK190 hb; replace HB := hB_ hb; clear hb hbox hg) | ((with_reducible refine gate_dst (N := 7) rfl ?_); refine bE_ 7 #[.int .i64 0, .int .u64 0] 34 ?_; intro gb192 hg w7 hbox hb; have BK192 := Aside0.mk hbox; have GW192 := geT_ w.heap.size hg; have GE192 := geT_ w.heap.size hg; have NB190_192 := nlT_ BK190.out hg; have NB192_190 := ngT_ BK190.out hg; have NB191_192 := nlT_ BK191.out hg; have NB192_191 := ngT_ BK191.out hg; replace HO0_0 := vE_ HO0_0.out hg hb; replace HO0_1 := vE_ HO0_1.out hg hb; replace HO0_3 := vE_ HO0_3.out hg hb; replace BK190 := kB_ BK190 hb; replace BK191 := kB_ BK191 hb; replace HB := hB_ hb; clear hb hbox hg; have hnb8 := NB190_191.out; have hnc8 := NB191_190.out; have hnb9 := NB190_192.out; have hnc9 := NB192_190.out; obtain ⟨hcz10_0, hcz10_1, hcz10_2, hcz10_3, hfz10_0, hfz10_1, hfz10_2, hfz10_3⟩ := b4_ BK190.out) | ((with_reducible refine gate_callee (f := 39) rfl ?_); refine gL_ (some 11) Try.func39 #[.agg #[.slice A0_0 l0_0.length c0_0, .slice A0_1 l0_1.length c0_1, .int .u64 a0_2, .slice A0_3 l0_3.length c0_3], .int .u32 a1, .string a2, .int .i64 2] ?_; (with_reducible refine (gmem_put.calls k (fun k_ => (((((P0_0_ k_ ∨ P0_1_ k_ ∨ P0_3_ k_) ∨ w.heap.size ≤ k_) ∧ k_ ≠ gb190) ∧ k_ ≠ gb191) ∧ k_ ≠ gb192)) _ _ l0_0 (fun k_ => (((((P0_0_ k_ ∨ P0_1_ k_ ∨ P0_3_ k_) ∨ w.heap.size ≤ k_) ∧ k_ ≠ gb190) ∧ k_ ≠ gb191) ∧ k_ ≠ gb192)) _ _ l0_1 a0_2 (fun k_ => (((((P0_0_ k_ ∨ P0_1_ k_ ∨ P0_3_ k_) ∨ w.heap.size ≤ k_) ∧ k_ ≠ gb190) ∧ k_ ≠ gb191) ∧ k_ ≠ gb192)) _ _ l0_3 a1 a2 2 t193 t196 t199 t200 t203 t204 _ ?side1 ?side2 ?side3 A4.out).mono ?_); (case side1 => first | exact HO0_0.out | exact Kd.V_mono HO0_0.out (fun _ hk => by grind)); (case side2 => first | exact HO0_1.out | exact Kd.V_mono HO0_1.out (fun _ hk => by grind)); (case side3 => first | exact HO0_3.out | exact Kd.V_mono HO0_3.out (fun _ hk => by grind)); rintro e w11 ⟨v194, v197, v201, rfl, ho0, ho1, ho2, hb⟩; refine ⟨_, rfl, ?_⟩; have HO195 := Aside0.mk (Kd.V_lower (Kd.V_mono (ok' := fun k_ => ((P0_0_ k_ ∨ P0_1_ k_ ∨ P0_3_ k_) ∨ w.heap.size ≤ k_) ∧ k_ ≠ gb190 ∧ k_ ≠ gb191 ∧ k_ ≠ gb192) ho0 (fun k_ hk_ => ⟨Or.elim hk_ (fun hs_ => Or.elim hs_ (fun hs_ => hs_.1.1.1) (fun hs_ => Or.elim hs_ (fun hs_ => hs_.1.1.1) (fun hs_ => hs_.1.1.1))) (fun hn_ => (.inr (Nat.le_trans (below_size beT_) hn_))), Or.elim hk_ (fun hs_ => Or.elim hs_ (fun hs_ => hs_.1.1.2) (fun hs_ => Or.elim hs_ (fun hs_ => hs_.1.1.2) (fun hs_ => hs_.1.1.2))) (fun hn_ => (Kd.freshB (g := gb190) (o := .cells #[.slice A0_0 l0_0.length c0_0, .slice A0_1 l0_1.length c0_1, .int .u64 a0_2, .slice A0_3 l0_3.length c0_3] 29 (0, 0)) (bT_ BK190.out) k_ hn_)), Or.elim hk_ (fun hs_ => Or.elim hs_ (fun hs_ => hs_.1.2) (fun hs_ => Or.elim hs_ (fun hs_ => hs_.1.2) (fun hs_ => hs_.1.2))) (fun hn_ => (Kd.freshB (g := gb191) (o := .cells #[.slice none 0 0, .slice none 0 0, .int .u64 0, .slice none 0 0] 29 (0, 0)) (bT_ BK191.out) k_ hn_)), Or.elim hk_ (fun hs_ => Or.elim hs_ (fun hs_ => hs_.2) (fun hs_ => Or.elim hs_ (fun hs_ => hs_.2) (fun hs_ => hs_.2))) (fun hn_ => (Kd.freshB (g := gb192) (o := .cells #[.int .i64 0, .int .u64 0] 34 (0, 0)) (bT_ BK192.out) k_ hn_))⟩)) (below_size beT_)); have HO198 := Aside0.mk (Kd.V_lower (Kd.V_mono (ok' := fun k_ => ((P0_0_ k_ ∨ P0_1_ k_ ∨ P0_3_ k_) ∨ w.heap.size ≤ k_) ∧ k_ ≠ gb190 ∧ k_ ≠ gb191 ∧ k_ ≠ gb192) ho1 (fun k_ hk_ => ⟨Or.elim hk_ (fun hs_ => Or.elim hs_ (fun hs_ => hs_.1.1.1) (fun hs_ => Or.elim hs_ (fun hs_ => hs_.1.1.1) (fun hs_ => hs_.1.1.1))) (fun hn_ => (.inr (Nat.le_trans (below_size beT_) hn_))), Or.elim hk_ (fun hs_ => Or.elim hs_ (fun hs_ => hs_.1.1.2) (fun hs_ => Or.elim hs_ (fun hs_ => hs_.1.1.2) (fun hs_ => hs_.1.1.2))) (fun hn_ => (Kd.freshB (g := gb190) (o := .cells #[.slice A0_0 l0_0.length c0_0, .slice A0_1 l0_1.length c0_1, .int .u64 a0_2, .slice A0_3 l0_3.length c0_3] 29 (0, 0)) (bT_ BK190.out) k_ hn_)), Or.elim hk_ (fun hs_ => Or.elim hs_ (fun hs_ => hs_.1.2) (fun hs_ => Or.elim hs_ (fun hs_ => hs_.1.2) (fun hs_ => hs_.1.2))) (fun hn_ => (Kd.freshB (g := gb191) (o := .cells #[.slice none 0 0, .slice none 0 0, .int .u64 0, .slice none 0 0] 29 (0, 0)) (bT_ BK191.out) k_ hn_)), Or.elim hk_ (fun hs_ => Or.elim hs_ (fun hs_ => hs_.2) (fun hs_ => Or.elim hs_ (fun hs_ => hs_.2) (fun hs_ => hs_.2))) (fun hn_ => (Kd.freshB (g := gb192) (o := .cells #[.int .i64 0, .int .u64 0] 34 (0, 0)) (bT_ BK192.out) k_ hn_))⟩)) (below_size beT_)); have HO202 := Aside0.mk (Kd.V_lower (Kd.V_mono (ok' := fun k_ => ((P0_0_ k_ ∨ P0_1_ k_ ∨ P0_3_ k_) ∨ w.heap.size ≤ k_) ∧ k_ ≠ gb190 ∧ k_ ≠ gb191 ∧ k_ ≠ gb192) ho2 (fun k_ hk_ => ⟨Or.elim hk_ (fun hs_ => Or.elim hs_ (fun hs_ => hs_.1.1.1) (fun hs_ => Or.elim hs_ (fun hs_ => hs_.1.1.1) (fun hs_ => hs_.1.1.1))) (fun hn_ => (.inr (Nat.le_trans (below_size beT_) hn_))), Or.elim hk_ (fun hs_ => Or.elim hs_ (fun hs_ => hs_.1.1.2) (fun hs_ => Or.elim hs_ (fun hs_ => hs_.1.1.2) (fun hs_ => hs_.1.1.2))) (fun hn_ => (Kd.freshB (g := gb190) (o := .cells #[.slice A0_0 l0_0.length c0_0, .slice A0_1 l0_1.length c0_1, .int .u64 a0_2, .slice A0_3 l0_3.length c0_3] 29 (0, 0)) (bT_ BK190.out) k_ hn_)), Or.elim hk_ (fun hs_ => Or.elim hs_ (fun hs_ => hs_.1.2) (fun hs_ => Or.elim hs_ (fun hs_ => hs_.1.2) (fun hs_ => hs_.1.2))) (fun hn_ => (Kd.freshB (g := gb191) (o := .cells #[.slice none 0 0, .slice none 0 0, .int .u64 0, .slice none 0 0] 29 (0, 0)) (bT_ BK191.out) k_ hn_)), Or.elim hk_ (fun hs_ => Or.elim hs_ (fun hs_ => hs_.2) (fun hs_ => Or.elim hs_ (fun hs_ => hs_.2) (fun hs_ => hs_.2))) (fun hn_ => (Kd.freshB (g := gb192) (o := .cells #[.int .i64 0, .int .u64 0] 34 (0, 0)) (bT_ BK192.out) k_ hn_))⟩)) (below_size beT_)); replace HO0_0 := vB_ HO0_0.out hb; replace HO0_1 := vB_ HO0_1.out hb; replace HO0_3 := vB_ HO0_3.out hb; replace BK190 := kB_ BK190 hb; replace BK191 := kB_ BK191 hb; replace BK192 := kB_ BK192 hb; replace HB := hB_ hb; (try clear hb); (try clear hb2); (try clear hk); (try clear hi); (try clear ho0); (try clear ho1); (try clear ho2); obtain ⟨Ao12, co12, eo12⟩ := Kd.V_slice HO195.out; subst eo12; have hnb13 := NB191_192.out; have hnc13 := NB192_191.out; obtain ⟨hcz14_0, hcz14_1, hcz14_2, hcz14_3, hfz14_0, hfz14_1, hfz14_2, hfz14_3⟩ := b4_ BK191.out; obtain ⟨Ao15, co15, eo15⟩ := Kd.V_slice HO198.out; subst eo15; obtain ⟨Ao16, co16, eo16⟩ := Kd.V_slice HO202.out; subst eo16; obtain ⟨hcz17_0, hcz17_1, hfz17_0, hfz17_1⟩ := b2_ BK192.out))
  refine bodyPost_ret (results_cc rfl _ _ gb191 gb192 29 34 #[.slice Ao12 t193.length co12, .slice Ao15 t196.length co15, .int .u64 t199, .slice Ao16 t200.length co16] #[.int .i64 t203, .int .u64 t204] (0, 0) (0, 0) _ _ rfl (kP_ BK191.out) Try.underlying29 rfl (by kernel_rfl) rfl (kP_ BK192.out) Try.underlying34 rfl (by kernel_rfl)) rfl ?_
  exact ⟨_, _, _, r3_, (vF_ HO195.out), (vF_ HO198.out), (vF_ HO202.out), beT_⟩

end Go.Proofs.Ytgkjdpdmmlalcaa.F
end
section
namespace Go.Proofs.Ytgkjdpdmmlalcaa.F
open Go.RowKit Go.Proofs.YtgkjdpdmmlalcaaW.PrintWords Go.Proofs.YtgkjdpdmmlalcaaW.PrintLast Go.Proofs.YtgkjdpdmmlalcaaW.PrintMore
attribute [local go_sem] max2_int min2_int max_two min_two max_three min_three max_four min_four
set_option linter.unusedVariables false
set_option linter.unusedSimpArgs false

theorem eqA34 (d : Nat) (w : World) (x0 y0 : Int) (x1 y1 : Int) :
    (Op.equalIn (d + 2) 34 (.agg #[.int .i64 x0, .int .u64 x1]) (.agg #[.int .i64 y0, .int .u64 y1])).run Try.prog w = .ok (x0 == y0 && (x1 == y1)) w := by
  refine eqA_of Try.underlying34 (by kernel_rfl) ?_
  refine eqf_cons (by rfl) (by go_simp; rfl) (by go_simp; rfl) (by go_simp) ?_
  exact eqf_last (by rfl) (by go_simp; rfl) (by go_simp; rfl) (by go_simp)
end Go.Proofs.Ytgkjdpdmmlalcaa.F
end
section
namespace Go.Proofs.Ytgkjdpdmmlalcaa.F
open Go.RowKit Go.Shelf Go.Proofs.YtgkjdpdmmlalcaaW.PrintWords Go.Proofs.YtgkjdpdmmlalcaaW.PrintLast Go.Proofs.YtgkjdpdmmlalcaaW.PrintMore
attribute [local go_sem] max2_int min2_int max_two min_two
set_option linter.unusedVariables false
set_option linter.unusedSimpArgs false
def readGo (l0 : List SM) (l1 : List SC) : Nat → Int → Nat → List UInt8 → Option (List UInt8)
  | 0, _, _, _ => none
  | k + 1, x, n, acc => if 0 < n then (host_Load.f 60 l0 l1 x ((min n 8 : Nat) : Int)).bind fun t => readGo l0 l1 k (IntKind.u64.wrap (x + ((min n 8 : Nat) : Int))) (n - min n 8) (acc ++ leBytes t.1 (min n 8)) else some acc
-- HAND fn=ferry/gmem.read ; rounds=0 ; making=1 ; laid=0
def gmem_read.f (l0 : List SM) (l1 : List SC) (b : Int) (p : List SP) (a n : Int) : Option ByteArray := if 0 ≤ n ∧ n ≤ 70000 then (readGo l0 l1 (n.toNat + 1) (IntKind.u64.wrap (b + IntKind.u64.wrap a)) n.toNat []).bind (fun l => some ⟨l.toArray⟩) else none
set_option maxHeartbeats 8000000 in
set_option maxRecDepth 100000 in
theorem gmem_read.calls (A0_0 : Option Addr) (c0_0 : Nat) (l0_0 : List SM) (A0_1 : Option Addr) (c0_1 : Nat) (l0_1 : List SC) (a0_2 : Int) (A0_3 : Option Addr) (c0_3 : Nat) (l0_3 : List SP) (a1 a2 : Int) (r : ByteArray) (w : World) (hr0_0 : Kd.C kM w A0_0 l0_0.length l0_0) (hc0_0 : l0_0.length ≤ c0_0) (hr0_1 : Kd.C kC w A0_1 l0_1.length l0_1) (hc0_1 : l0_1.length ≤ c0_1) (hr0_3 : Kd.C kP w A0_3 l0_3.length l0_3) (hc0_3 : l0_3.length ≤ c0_3) (h : gmem_read.f l0_0 l0_1 a0_2 l0_3 a1 a2 = some r) :
    Calls Try.prog 42 #[.agg #[.slice A0_0 l0_0.length c0_0, .slice A0_1 l0_1.length c0_1, .int .u64 a0_2, .slice A0_3 l0_3.length c0_3], .int .u32 a1, .int .i64 a2] w fun e w' => e = .returned (.string r) ∧ Below w.heap.size w w' := by
  unfold gmem_read.f at h
  split at h
  case isFalse => cases h
  rename_i hn
  obtain ⟨rs, h1, h2⟩ := Option.bind_eq_some_iff.1 h
  obtain rfl := Option.some.inj h2
  obtain ⟨n, rfl⟩ := Int.eq_ofNat_of_zero_le hn.1
  rw [Int.toNat_natCast] at h1
  have HR := Lib.hid h1
  have HN := Lib.hid (show n ≤ 70000 by omega)
  have LD := Lib.hid (fun W (hB : Below w.heap.size w W) (x m : Int) t (ht : host_Load.f 60 l0_0 l0_1 x m = some t) => host_Load.calls 60 A0_0 c0_0 l0_0 A0_1 c0_1 l0_1 x m t.1 t.2.1 t.2.2 W (Kd.C_below hr0_0 hB) hc0_0 (Kd.C_below hr0_1 hB) hc0_1 ht)
  clear h h1 h2 hn hr0_0 hr0_1 hr0_3 hc0_0 hc0_1 hc0_3
  have hu2 := Try.underlying29
  have hu3 := Try.underlying25
  have hu4 := Try.underlying34
  have K4 := Lib.hid (blk_alloc (blk_new w (.cells #[.slice A0_0 l0_0.length c0_0, .slice A0_1 l0_1.length c0_1, .int .u64 a0_2, .slice A0_3 l0_3.length c0_3] 29)) (.cells #[.pointer none, .slice none 0 0] 95))
  have q4_0 := (sblk_cell K4.out 0).trans rfl
  have q4_1 := (sblk_cell K4.out 1).trans rfl
  have q4_2 := (sblk_cell K4.out 2).trans rfl
  have q4_3 := (sblk_cell K4.out 3).trans rfl
  go_enter Try.func42, Try.ntmps42
  go_wp2_with (go_at_call 75; refine (gPlace_any.calls A0_0 _ c0_0 A0_1 _ c0_1 a0_2 A0_3 _ c0_3 a1 _).mono ?_; rintro e W1 ⟨rfl, hb1⟩)
  have HI0 : Hid (Lib.IsBuilderF 95 5 (w.heap.size + 1) (w.heap.size + 1) (Lib.byteCells []) W1) := by
    have hF := Lib.fresh_isBuilder 95 5 (w.alloc (.cells #[.slice A0_0 l0_0.length c0_0, .slice A0_1 l0_1.length c0_1, .int .u64 a0_2, .slice A0_3 l0_3.length c0_3] 29))
    rw [World.size_alloc] at hF
    exact Lib.hid (Lib.IsBuilderF.of (isBuilder_below hF hb1))
  have B1 := Lib.hid (((Below.refl _ w).alloc (Nat.le_refl _) (.cells #[.slice A0_0 l0_0.length c0_0, .slice A0_1 l0_1.length c0_1, .int .u64 a0_2, .slice A0_3 l0_3.length c0_3] 29)).alloc (by simp) (.cells #[.pointer none, .slice none 0 0] 95) |>.trans (hb1.mono (by simp; omega)))
  have G1 := Lib.hid (blk_below K4.out hb1)
  clear hb1 K4 q4_0 q4_1 q4_2 q4_3
  go_loopw [2, 8] (fun v x wr => ∃ (m : Nat) (X : Int) (f : Nat) (acc : List UInt8), v = .int .i64 m ∧ x = .int .u64 X ∧ acc.length + m = n ∧ readGo l0_0 l0_1 f X m acc = some rs ∧ Lib.IsBuilderF 95 5 (w.heap.size + 1) (w.heap.size + 1) (Lib.byteCells acc) wr ∧ Below w.heap.size w wr ∧ wr.heap[w.heap.size]? = some (.cells #[.slice A0_0 l0_0.length c0_0, .slice A0_1 l0_1.length c0_1, .int .u64 a0_2, .slice A0_3 l0_3.length c0_3] 29 (0, 0))) (fun v _ _ => (intOf v).toNat)
  case atStart => exact ⟨n, _, _, [], rfl, rfl, by simp, HR.out, HI0.out, B1.out, G1.out⟩
  case round =>
    clear HI0 B1 G1 HR
    obtain ⟨m, X, f, acc, rfl, rfl, hm, hR, hI, hB, hG⟩ := hrel
    have HM := Lib.hid hm
    have HI := Lib.hid hI
    have HB := Lib.hid hB
    have HG := Lib.hid hG
    clear hI hB hG hm
    cases f with
    | zero => exact absurd hR (by simp [readGo])
    | succ f =>
      unfold readGo at hR
      by_cases h0 : 0 < m
      · rw [if_pos h0] at hR
        obtain ⟨t, ht, hR2⟩ := Option.bind_eq_some_iff.1 hR
        have HT := Lib.hid ht
        have HR := Lib.hid hR2
        have hd := decide_eq_true (show (0 : Int) < (m : Int) by omega)
        have H0 := Lib.hid h0
        clear hR hR2 ht h0
        have q4_0 := (sblk_cell HG.out 0).trans rfl
        have q4_1 := (sblk_cell HG.out 1).trans rfl
        obtain ⟨k, hk⟩ : ∃ k, min m 8 = k := ⟨_, rfl⟩
        have hk1 : (if (8 : Int) < (m : Int) then (8 : Int) else (m : Int)) = (k : Int) := by split <;> omega
        have HK := Lib.hid hk
        rw [hk] at HT HR
        clear hk
        go_wp2_with (fail)
        refine (LD.out wr HB.out X k t HT.out).mono ?_
        rintro e W2 ⟨rfl, hb2⟩
        have HI2 := Lib.hid (builder_move HI.out (fun k c t f h => (hb2.block k (sblk_lt h)).trans h))
        have HB2 := Lib.hid (HB.out.trans (hb2.mono HB.out.size))
        have HG2 := Lib.hid (blk_below HG.out hb2)
        clear HI HB HG hb2 q4_0 q4_1
        go_wp2_with (fail)
        have hk8 : k ≤ 8 ∧ k ≤ m := by have := HK.out; omega
        have hP : swap_PutLe.f t.1 (k : Int) = some ⟨(leBytes t.1 k).toArray⟩ := by
          unfold swap_PutLe.f
          rw [if_neg (by omega), if_neg (by omega), Int.toNat_natCast]
        refine (swap_PutLe.calls t.1 (k : Int) _ _ hP).mono ?_
        rintro e W4 ⟨rfl, hb4⟩
        have HI4 := Lib.hid (builder_move (HI2.out.alloc (.cells #[.int .i64 t.2.1, .int .u64 t.2.2] 34)) (fun k c t f h => (hb4.block k (sblk_lt h)).trans h))
        have HB4 := Lib.hid ((HB2.out.alloc HB2.out.size (.cells #[.int .i64 t.2.1, .int .u64 t.2.2] 34)).trans (hb4.mono (by rw [World.size_alloc]; have := HB2.out.size; omega)))
        have HG4 := Lib.hid (blk_below (blk_alloc HG2.out (.cells #[.int .i64 t.2.1, .int .u64 t.2.2] 34)) hb4)
        have HK8 := Lib.hid hk8
        clear HI2 HB2 HG2 hb4 hP hk8
        go_wp2_with (fail)
        have hg5 := sblk_lt HG4.out
        have hsz : (leBytes t.1 k).toArray.size = k := by rw [List.size_toArray, leBytes_length]
        refine (Try.Builder_WriteString_k (w.heap.size + 1) (w.heap.size + 1) _ _ _ HI4.out (by
          rw [Lib.byteCells_length]
          have h1 := HM.out
          have h2 := HN.out
          have h3 := HK8.out
          have h4 : (⟨(leBytes t.1 k).toArray⟩ : ByteArray).size = k := hsz
          rw [h4]
          omega) (by omega)).mono ?_
        rintro e W5 ⟨rfl, hb5, hbl5, hok5⟩
        have HI5 := Lib.hid (show Lib.IsBuilderF 95 5 (w.heap.size + 1) (w.heap.size + 1) (Lib.byteCells (acc ++ leBytes t.1 k)) W5 from by
          rw [Lib.byteCells_append]
          exact .inr hb5)
        have HB5 := Lib.hid (HB4.out.trans (hbl5.mono (Nat.le_succ _)))
        have HG5 := Lib.hid ((hbl5.block w.heap.size (Nat.lt_succ_self _)).trans HG4.out)
        clear hb5 hbl5 hok5 HI4 HB4 HG4 hg5 hsz
        go_wp2
        go_roundw
        case rel =>
          have h1 := HK8.out
          have hw : wrap64 ((m : Int) - (k : Int)) = ((m - k : Nat) : Int) := by
            have h2 := HN.out
            have h3 := HM.out
            unfold wrap64
            omega
          exact ⟨m - k, _, f, _, by rw [hw], rfl, by have := HM.out; rw [List.length_append, leBytes_length]; omega, HR.out, HI5.out, HB5.out, HG5.out⟩
        case measure =>
          have h1 := HK8.out
          have h2 := HK.out
          have h3 := H0.out
          have hw : wrap64 ((m : Int) - (k : Int)) = ((m - k : Nat) : Int) := by
            have h2 := HN.out
            have h3 := HM.out
            unfold wrap64
            omega
          rw [hw]
          simp [intOf]
          omega
      rw [if_neg h0] at hR
      obtain rfl := Option.some.inj hR
      obtain rfl : m = 0 := by omega
      have hg5 := sblk_lt HG.out
      clear h0 hR
      go_wp2_with (go_at_call 58; refine (Try.Builder_String_any_k (w.heap.size + 1) (w.heap.size + 1) _ _ HI.out (by omega)).mono ?_; rintro e W1 ⟨rfl, _, hbl, _⟩)
      go_ret
      exact ⟨rfl, HB.out.trans (hbl.mono (Nat.le_succ _))⟩
end Go.Proofs.Ytgkjdpdmmlalcaa.F
end
section
namespace Go.Proofs.Ytgkjdpdmmlalcaa.F
open Go.RowKit Go.Proofs.YtgkjdpdmmlalcaaW.PrintWords Go.Proofs.YtgkjdpdmmlalcaaW.PrintLast Go.Proofs.YtgkjdpdmmlalcaaW.PrintMore
attribute [local go_sem] max2_int min2_int max_two min_two max_three min_three max_four min_four
attribute [local go_sem] cell_twice
set_option linter.unusedVariables false
set_option linter.unusedSimpArgs false

def gmem_Bytes.f (l0_0 : List (S83)) (l0_1 : List (S88)) (a0_2 : Int) (l0_3 : List (S41)) (a1 : Int) (a2 : Int) : Option (ByteArray × Int × Int) := if a2 > 65536 then (some ((⟨#[]⟩ : ByteArray), 1, 0)) else ((gmem_first.f l0_0 l0_1 a0_2 l0_3 a1 (wrap64 (a2)) 1).bind fun bt145 => (if bt145.1 = 0 then ((gmem_read.f l0_0 l0_1 a0_2 l0_3 a1 (wrap64 (a2))).bind fun t148 => (some (t148, 0, 0))) else (some ((⟨#[]⟩ : ByteArray), bt145.1, bt145.2))))
set_option maxHeartbeats 8000000 in
set_option maxRecDepth 100000 in
theorem gmem_Bytes.calls (A0_0 : Option Addr) (c0_0 : Nat) (l0_0 : List (S83)) (A0_1 : Option Addr) (c0_1 : Nat) (l0_1 : List (S88)) (a0_2 : Int) (A0_3 : Option Addr) (c0_3 : Nat) (l0_3 : List (S41)) (a1 : Int) (a2 : Int) (r1 : ByteArray) (r2 : Int) (r3 : Int) (w : World) (hr0_0 : Kd.C k83 w A0_0 l0_0.length l0_0) (hc0_0 : l0_0.length ≤ c0_0) (hr0_1 : Kd.C k88 w A0_1 l0_1.length l0_1) (hc0_1 : l0_1.length ≤ c0_1) (hr0_3 : Kd.C k41 w A0_3 l0_3.length l0_3) (hc0_3 : l0_3.length ≤ c0_3) (h : gmem_Bytes.f l0_0 l0_1 a0_2 l0_3 a1 a2 = some (r1, r2, r3)) :
    Calls Try.prog 13 #[.agg #[.slice A0_0 l0_0.length c0_0, .slice A0_1 l0_1.length c0_1, .int .u64 a0_2, .slice A0_3 l0_3.length c0_3], .int .u32 a1, .int .u32 a2] w fun e w' => e = .returned (.tuple #[.string r1, .agg #[.int .i64 r2, .int .u64 r3]]) ∧ Below w.heap.size w w' := by
  have hu29 := Try.underlying29
  have hu34 := Try.underlying34
  have HR0_0 := Aside0.mk hr0_0
  have HC0_0 := Aside0.mk hc0_0
  clear hr0_0 hc0_0
  have HR0_1 := Aside0.mk hr0_1
  have HC0_1 := Aside0.mk hc0_1
  clear hr0_1 hc0_1
  have HR0_3 := Aside0.mk hr0_3
  have HC0_3 := Aside0.mk hc0_3
  clear hr0_3 hc0_3
  have HB := Aside0.mk (Below.refl w.heap.size w)
  have H : (if a2 > 65536 then (some ((⟨#[]⟩ : ByteArray), 1, 0)) else ((gmem_first.f l0_0 l0_1 a0_2 l0_3 a1 (wrap64 (a2)) 1).bind fun bt145 => (if bt145.1 = 0 then ((gmem_read.f l0_0 l0_1 a0_2 l0_3 a1 (wrap64 (a2))).bind fun t148 => (some (t148, 0, 0))) else (some ((⟨#[]⟩ : ByteArray), bt145.1, bt145.2))))) = some (r1, r2, r3) := h
  clear h
  by_cases c4 : a2 > 65536
  · rw [if_pos c4] at H
    have c4b0 : decide (65536 < a2) = true := decide_eq_true c4
    clear c4
    simp only [Option.some.injEq, Prod.mk.injEq] at H
    obtain ⟨rfl, rfl, rfl⟩ := H
    go_enter Try.func13, Try.ntmps13
    go_wp2_with (first | ((with_reducible refine gate_dst (N := 3) rfl ?_); refine bE_ 3 #[.slice A0_0 l0_0.length c0_0, .slice A0_1 l0_1.length c0_1, .int .u64 a0_2, .slice A0_3 l0_3.length c0_3] 29 ?_; intro gb143 hg w5 hbox hb; have BK143 := Aside0.mk hbox; have GW143 := geT_ w.heap.size hg; have GE143 := geT_ w.heap.size hg; replace HB := hB_ hb; clear hb hbox hg) | ((with_reducible refine gate_dst (N := 7) rfl ?_); refine bE_ 7 #[.int .i64 0, .int .u64 0] 34 ?_; intro gb144 hg w6 hbox hb; have BK144 := Aside0.mk hbox; have GW144 := geT_ w.heap.size hg; have GE144 := geT_ w.heap.size hg; have NB143_144 := nlT_ BK143.out hg; have NB144_143 := ngT_ BK143.out hg; replace BK143 := kB_ BK143 hb; replace HB := hB_ hb; clear hb hbox hg; have hnb7 := NB144_143.out; have hnc7 := NB143_144.out; obtain ⟨hcz8_0, hcz8_1, hfz8_0, hfz8_1⟩ := b2_ BK144.out))
    refine bodyPost_ret (results_tc rfl _ _ gb144 34 #[.int .i64 1, .int .u64 0] (0, 0) _ rfl (kP_ BK144.out) Try.underlying34 rfl (by kernel_rfl)) rfl ?_
    exact ⟨r3_, beT_⟩
  rw [if_neg c4] at H
  have c4b0 : decide (65536 < a2) = false := decide_eq_false c4
  clear c4
  replace H := Option.bind_eq_some_iff.mp H
  obtain ⟨⟨t145, t146⟩, A90, H⟩ := H
  have A9 := Aside0.mk A90
  clear A90
  by_cases c10 : t145 = 0
  · rw [if_pos c10] at H
    have c10b0 : (t145 == 0) = true := beq_iff_eq.mpr c10
    have c10b1 : (t145 != 0) = false := bne_eq_false_iff_eq.mpr c10
    clear c10
    replace H := Option.bind_eq_some_iff.mp H
    obtain ⟨t148, A110, H⟩ := H
    have A11 := Aside0.mk A110
    clear A110
    simp only [Option.some.injEq, Prod.mk.injEq] at H
    obtain ⟨rfl, rfl, rfl⟩ := H
    go_enter Try.func13, Try.ntmps13
    go_wp2_with (first | ((with_reducible refine gate_dst (N := 3) rfl ?_); refine bE_ 3 #[.slice A0_0 l0_0.length c0_0, .slice A0_1 l0_1.length c0_1, .int .u64 a0_2, .slice A0_3 l0_3.length c0_3] 29 ?_; intro gb143 hg w12 hbox hb; have BK143 := Aside0.mk hbox; have GW143 := geT_ w.heap.size hg; have GE143 := geT_ w.heap.size hg; replace HB := hB_ hb; clear hb hbox hg) | ((with_reducible refine gate_dst (N := 7) rfl ?_); refine bE_ 7 #[.int .i64 0, .int .u64 0] 34 ?_; intro gb144 hg w13 hbox hb; have BK144 := Aside0.mk hbox; have GW144 := geT_ w.heap.size hg; have GE144 := geT_ w.heap.size hg; have NB143_144 := nlT_ BK143.out hg; have NB144_143 := ngT_ BK143.out hg; replace BK143 := kB_ BK143 hb; replace HB := hB_ hb; clear hb hbox hg; have hnb14 := NB143_144.out; have hnc14 := NB144_143.out; obtain ⟨hcz15_0, hcz15_1, hcz15_2, hcz15_3, hfz15_0, hfz15_1, hfz15_2, hfz15_3⟩ := b4_ BK143.out) | ((with_reducible refine gate_callee (f := 41) rfl ?_); refine gL_ (some 16) Try.func41 #[.agg #[.slice A0_0 l0_0.length c0_0, .slice A0_1 l0_1.length c0_1, .int .u64 a0_2, .slice A0_3 l0_3.length c0_3], .int .u32 a1, .int .i64 (wrap64 (a2)), .int .i64 1] ?_; (with_reducible refine (gmem_first.calls _ _ l0_0 _ _ l0_1 a0_2 _ _ l0_3 a1 (wrap64 (a2)) 1 t145 t146 _ ?side1 ?side2 ?side3 ?side4 ?side5 ?side6 A9.out).mono ?_); (case side1 => exact cT_ (Kd.C_below HR0_0.out HB.out)); (case side2 => exact HC0_0.out); (case side3 => exact cT_ (Kd.C_below HR0_1.out HB.out)); (case side4 => exact HC0_1.out); (case side5 => exact cT_ (Kd.C_below HR0_3.out HB.out)); (case side6 => exact HC0_3.out); rintro e w16 ⟨rfl, hb⟩; refine ⟨_, rfl, ?_⟩; replace BK143 := kB_ BK143 hb; replace BK144 := kB_ BK144 hb; replace HB := hB_ hb; (try clear hb); (try clear hb2); (try clear hk); (try clear hi)) | ((with_reducible refine gate_dst (N := 8) rfl ?_); refine bE_ 8 #[.int .i64 0, .int .u64 0] 34 ?_; intro gb147 hg w17 hbox hb; have BK147 := Aside0.mk hbox; have GW147 := geT_ w.heap.size hg; have GE147 := geT_ w.heap.size hg; have NB143_147 := nlT_ BK143.out hg; have NB147_143 := ngT_ BK143.out hg; have NB144_147 := nlT_ BK144.out hg; have NB147_144 := ngT_ BK144.out hg; replace BK143 := kB_ BK143 hb; replace BK144 := kB_ BK144 hb; replace HB := hB_ hb; clear hb hbox hg; have hnb18 := NB147_143.out; have hnc18 := NB143_147.out; have hnb19 := NB147_144.out; have hnc19 := NB144_147.out; obtain ⟨hcz20_0, hcz20_1, hfz20_0, hfz20_1⟩ := b2_ BK147.out; obtain ⟨hcz21_0, hcz21_1, hcz21_2, hcz21_3, hfz21_0, hfz21_1, hfz21_2, hfz21_3⟩ := b4_ BK143.out) | ((with_reducible refine gate_callee (f := 42) rfl ?_); refine gL_ (some 25) Try.func42 #[.agg #[.slice A0_0 l0_0.length c0_0, .slice A0_1 l0_1.length c0_1, .int .u64 a0_2, .slice A0_3 l0_3.length c0_3], .int .u32 a1, .int .i64 (wrap64 (a2))] ?_; (with_reducible refine (gmem_read.calls _ _ l0_0 _ _ l0_1 a0_2 _ _ l0_3 a1 (wrap64 (a2)) t148 _ ?side1 ?side2 ?side3 ?side4 ?side5 ?side6 A11.out).mono ?_); (case side1 => exact Kd.C_below HR0_0.out beT_); (case side2 => exact HC0_0.out); (case side3 => exact Kd.C_below HR0_1.out beT_); (case side4 => exact HC0_1.out); (case side5 => exact Kd.C_below HR0_3.out beT_); (case side6 => exact HC0_3.out); rintro e w22 ⟨rfl, hb⟩; refine ⟨_, rfl, ?_⟩; replace BK143 := kB_ BK143 hb; replace BK144 := kB_ BK144 hb; replace BK147 := Aside0.mk (blk_below (g := gb147) (o := .cells #[.int .i64 t145, .int .u64 t146] 34 (0, 0)) (kP_ BK147.out) hb); replace HB := hB_ hb; (try clear hb); (try clear hb2); (try clear hk); (try clear hi); obtain ⟨hcz23_0, hcz23_1, hfz23_0, hfz23_1⟩ := b2_ BK144.out))
    refine bodyPost_ret (results_tc rfl _ _ gb144 34 #[.int .i64 0, .int .u64 0] (0, 0) _ rfl (kP_ BK144.out) Try.underlying34 rfl (by kernel_rfl)) rfl ?_
    exact ⟨r3_, beT_⟩
  rw [if_neg c10] at H
  have c10b0 : (t145 == 0) = false := beq_eq_false_iff_ne.mpr c10
  have c10b1 : (t145 != 0) = true := bne_iff_ne.mpr c10
  simp only [Option.some.injEq, Prod.mk.injEq] at H
  obtain ⟨rfl, rfl, rfl⟩ := H
  go_enter Try.func13, Try.ntmps13
  try go_wp2_with (first | ((with_reducible refine gate_dst (N := 3) rfl ?_); refine bE_ 3 #[.slice A0_0 l0_0.length c0_0, .slice A0_1 l0_1.length c0_1, .int .u64 a0_2, .slice A0_3 l0_3.length c0_3] 29 ?_; intro gb143 hg w24 hbox hb; have BK143 := Aside0.mk hbox; have GW143 := geT_ w.heap.size hg; have GE143 := geT_ w.heap.size hg; replace HB := hB_ hb; clear hb hbox hg) | ((with_reducible refine gate_dst (N := 7) rfl ?_); refine bE_ 7 #[.int .i64 0, .int .u64 0] 34 ?_; intro gb144 hg w25 hbox hb; have BK144 := Aside0.mk hbox; have GW144 := geT_ w.heap.size hg; have GE144 := geT_ w.heap.size hg; have NB143_144 := nlT_ BK143.out hg; have NB144_143 := ngT_ BK143.out hg; replace BK143 := kB_ BK143 hb; replace HB := hB_ hb; clear hb hbox hg; have hnb26 := NB143_144.out; have hnc26 := NB144_143.out; obtain ⟨hcz27_0, hcz27_1, hcz27_2, hcz27_3, hfz27_0, hfz27_1, hfz27_2, hfz27_3⟩ := b4_ BK143.out) | ((with_reducible refine gate_callee (f := 41) rfl ?_); refine gL_ (some 16) Try.func41 #[.agg #[.slice A0_0 l0_0.length c0_0, .slice A0_1 l0_1.length c0_1, .int .u64 a0_2, .slice A0_3 l0_3.length c0_3], .int .u32 a1, .int .i64 (wrap64 (a2)), .int .i64 1] ?_; (with_reducible refine (gmem_first.calls _ _ l0_0 _ _ l0_1 a0_2 _ _ l0_3 a1 (wrap64 (a2)) 1 t145 t146 _ ?side1 ?side2 ?side3 ?side4 ?side5 ?side6 A9.out).mono ?_); (case side1 => exact cT_ (Kd.C_below HR0_0.out HB.out)); (case side2 => exact HC0_0.out); (case side3 => exact cT_ (Kd.C_below HR0_1.out HB.out)); (case side4 => exact HC0_1.out); (case side5 => exact cT_ (Kd.C_below HR0_3.out HB.out)); (case side6 => exact HC0_3.out); rintro e w28 ⟨rfl, hb⟩; refine ⟨_, rfl, ?_⟩; replace BK143 := kB_ BK143 hb; replace BK144 := kB_ BK144 hb; replace HB := hB_ hb; (try clear hb); (try clear hb2); (try clear hk); (try clear hi)) | ((with_reducible refine gate_dst (N := 8) rfl ?_); refine bE_ 8 #[.int .i64 0, .int .u64 0] 34 ?_; intro gb147 hg w29 hbox hb; have BK147 := Aside0.mk hbox; have GW147 := geT_ w.heap.size hg; have GE147 := geT_ w.heap.size hg; have NB143_147 := nlT_ BK143.out hg; have NB147_143 := ngT_ BK143.out hg; have NB144_147 := nlT_ BK144.out hg; have NB147_144 := ngT_ BK144.out hg; replace BK143 := kB_ BK143 hb; replace BK144 := kB_ BK144 hb; replace HB := hB_ hb; clear hb hbox hg; have hnb30 := NB147_143.out; have hnc30 := NB143_147.out; have hnb31 := NB147_144.out; have hnc31 := NB144_147.out; obtain ⟨hcz32_0, hcz32_1, hfz32_0, hfz32_1⟩ := b2_ BK147.out))
  have n0_ : Aside0 (((w29.setCell ⟨gb147, 0, none⟩ (.int .i64 t145)).setCell ⟨gb147, 1, none⟩ (.int .u64 t146)).heap[gb143]? = some (.cells #[.slice A0_0 l0_0.length c0_0, .slice A0_1 l0_1.length c0_1, .int .u64 a0_2, .slice A0_3 l0_3.length c0_3] 29 (0, 0))) := ⟨bfT_ BK143.out⟩
  have n1_ : Aside0 (((w29.setCell ⟨gb147, 0, none⟩ (.int .i64 t145)).setCell ⟨gb147, 1, none⟩ (.int .u64 t146)).heap[gb144]? = some (.cells #[.int .i64 0, .int .u64 0] 34 (0, 0))) := ⟨bfT_ BK144.out⟩
  have n2_ : Aside0 (((w29.setCell ⟨gb147, 0, none⟩ (.int .i64 t145)).setCell ⟨gb147, 1, none⟩ (.int .u64 t146)).heap[gb147]? = some (.cells #[.int .i64 t145, .int .u64 t146] 34 (0, 0))) := ⟨kP_ BK147.out⟩
  have n3_ : Aside0 (Below w.heap.size w ((w29.setCell ⟨gb147, 0, none⟩ (.int .i64 t145)).setCell ⟨gb147, 1, none⟩ (.int .u64 t146))) := ⟨beT_⟩
  (try clear BK143)
  (try clear BK144)
  (try clear BK147)
  (try clear HB)
  generalize ((w29.setCell ⟨gb147, 0, none⟩ (.int .i64 t145)).setCell ⟨gb147, 1, none⟩ (.int .u64 t146)) = w33 at n0_ n1_ n2_ n3_ ⊢
  have BK143 := n0_
  have BK144 := n1_
  have BK147 := n2_
  have HB := n3_
  clear n0_ n1_ n2_ n3_
  replace BK143 := Aside0.mk (blk_drew BK143.out)
  replace BK144 := Aside0.mk (blk_drew BK144.out)
  replace BK147 := Aside0.mk (blk_drew BK147.out)
  replace HB := Aside0.mk (below_drew1 HB.out)
  refine start_ (n := 3) (S := fun w' => w'.cell? ⟨gb147, 0, none⟩ = some (.int .i64 t145) ∧ w'.cell? ⟨gb147, 1, none⟩ = some (.int .u64 t146)) (ds := []) (mb_ 3 0) (by kernel_rfl) rfl rfl ⟨(blk_cell BK147.out 0).trans rfl, (blk_cell BK147.out 1).trans rfl⟩ (fun hHeld => ?_)
  generalize w33.drew = w34 at BK143 BK144 BK147 HB hHeld ⊢
  refine pure_ (i := 1) (N := some 6) (v := ?_) (a' := ?_) (mb_ 3 2) rfl rfl (by kernel_rfl) (fun _ _ _ h => h) (Or.inl ⟨by rfl, ?_⟩) ?_ ?_
  rotate_left
  · intro w'
    go_simp
    with_reducible rfl
  rotate_left
  · simp only [Act.put, List.setIfInBounds_toArray, List.set_cons_zero, List.set_cons_succ, i64_w, i32_w]
    rfl
  refine take_ (i := 0) (N := some 20) (v := ?_) (a' := ?_) (mb_ 3 3) rfl rfl (by kernel_rfl) (fun _ _ _ h => h) (Or.inl ⟨by rfl, ?_⟩) hHeld ?_ ?_
  rotate_left
  · rintro w' ⟨s0, s1⟩
    go_simp
    with_reducible rfl
  rotate_left
  · simp only [Act.put, List.setIfInBounds_toArray, List.set_cons_zero, List.set_cons_succ, i64_w, i32_w]
    rfl
  refine one_ (i := 2) (N := none) (mb_ 3 7) rfl rfl (by kernel_rfl) (by decide) (fun K hK => ?_)
  have hs35 : w34.cell? ⟨gb144, 0, none⟩ = some (.int .i64 0) := (blk_cell BK144.out 0).trans rfl
  have hfs35 := blk_frozen BK144.out 0
  have hns35_0 := NB143_144.out
  have hns35_2 := NB147_144.out
  have hms35_0 := NB144_143.out
  have hms35_2 := NB144_147.out
  have hs36 : w34.cell? ⟨gb144, 1, none⟩ = some (.int .u64 0) := (blk_cell BK144.out 1).trans rfl
  have hfs36 := blk_frozen BK144.out 1
  have hns36_0 := NB143_144.out
  have hns36_2 := NB147_144.out
  have hms36_0 := NB144_143.out
  have hms36_2 := NB144_147.out
  refine skip_ (w1 := ?_) (by rfl) rfl ?_ ?_
  rotate_left
  · go_simp
    rfl
  refine hK.out _ _ ⟨((cell_far (p := ⟨gb144, _, none⟩) NB147_144.out _).trans (((cell_far (p := ⟨gb144, _, none⟩) NB147_144.out _).trans (hHeld.1)))), ((cell_far (p := ⟨gb144, _, none⟩) NB147_144.out _).trans (((cell_far (p := ⟨gb144, _, none⟩) NB147_144.out _).trans (hHeld.2))))⟩ (fun hHeld => ?_)
  clear hK K
  refine done_ (by kernel_rfl) ?_
  try go_wp2
  refine bodyPost_ret (results_tc rfl _ _ gb144 34 #[.int .i64 t145, .int .u64 t146] (0, 0) _ rfl (kP_ BK144.out) Try.underlying34 rfl (by kernel_rfl)) rfl ?_
  exact ⟨r3_, beT_⟩

end Go.Proofs.Ytgkjdpdmmlalcaa.F
end
section
namespace Go.Proofs.Ytgkjdpdmmlalcaa.F
open Go.RowKit Go.Proofs.YtgkjdpdmmlalcaaW.PrintWords Go.Proofs.YtgkjdpdmmlalcaaW.PrintLast Go.Proofs.YtgkjdpdmmlalcaaW.PrintMore
attribute [local go_sem] max2_int min2_int max_two min_two max_three min_three max_four min_four
set_option linter.unusedVariables false
set_option linter.unusedSimpArgs false

def gmem_sized.f (a0 : Int) : Option (Bool) := if a0 > 0 then (if a0 ≤ 8 then (some ((Go.bits .and .i64 a0 (wrap64 (a0 - 1))) == 0)) else (some false)) else (some false)
set_option maxHeartbeats 8000000 in
set_option maxRecDepth 100000 in
theorem gmem_sized.calls (a0 : Int) (r : Bool) (w : World) (h : gmem_sized.f a0 = some r) :
    Calls Try.prog 48 #[.int .i64 a0] w fun e w' => e = .returned (.bool r) ∧ Drawn0 w w' := by
  have H : (if a0 > 0 then (if a0 ≤ 8 then (some ((Go.bits .and .i64 a0 (wrap64 (a0 - 1))) == 0)) else (some false)) else (some false)) = some r := h
  clear h
  by_cases c2 : a0 > 0
  · rw [if_pos c2] at H
    have c2b0 : decide (0 < a0) = true := decide_eq_true c2
    clear c2
    by_cases c3 : a0 ≤ 8
    · rw [if_pos c3] at H
      have c3b0 : decide (a0 ≤ 8) = true := decide_eq_true c3
      clear c3
      obtain rfl := Option.some.inj H
      go_enter Try.func48, Try.ntmps48
      go_wp2
      go_ret
      exact ⟨by first | rfl | (simp; done) | (simp [*]; done), by repeat (first | exact Drawn0.refl _ | apply Drawn0.step)⟩
    rw [if_neg c3] at H
    have c3b0 : decide (a0 ≤ 8) = false := decide_eq_false c3
    clear c3
    obtain rfl := Option.some.inj H
    go_enter Try.func48, Try.ntmps48
    go_wp2
    go_ret
    exact ⟨by first | rfl | (simp; done) | (simp [*]; done), by repeat (first | exact Drawn0.refl _ | apply Drawn0.step)⟩
  rw [if_neg c2] at H
  have c2b0 : decide (0 < a0) = false := decide_eq_false c2
  clear c2
  obtain rfl := Option.some.inj H
  go_enter Try.func48, Try.ntmps48
  go_wp2
  go_ret
  exact ⟨by first | rfl | (simp; done) | (simp [*]; done), by repeat (first | exact Drawn0.refl _ | apply Drawn0.step)⟩

end Go.Proofs.Ytgkjdpdmmlalcaa.F
end
section
namespace Go.Proofs.Ytgkjdpdmmlalcaa.F
open Go.RowKit Go.Proofs.YtgkjdpdmmlalcaaW.PrintWords Go.Proofs.YtgkjdpdmmlalcaaW.PrintLast Go.Proofs.YtgkjdpdmmlalcaaW.PrintMore
attribute [local go_sem] max2_int min2_int max_two min_two max_three min_three max_four min_four
set_option linter.unusedVariables false
set_option linter.unusedSimpArgs false

def swap_Be.f (a0 : ByteArray) : Option (Int) := (swap_number.f a0 false).bind fun t148 => (some t148)
set_option maxHeartbeats 8000000 in
set_option maxRecDepth 100000 in
theorem swap_Be.calls (a0 : ByteArray) (r : Int) (w : World) (h : swap_Be.f a0 = some r) :
    Calls Try.prog 49 #[.string a0] w fun e w' => e = .returned (.int .u64 r) ∧ Below w.heap.size w w' := by
  have HB := Aside0.mk (Below.refl w.heap.size w)
  have H : ((swap_number.f a0 false).bind fun t148 => (some t148)) = some r := h
  clear h
  replace H := Option.bind_eq_some_iff.mp H
  obtain ⟨t148, A20, H⟩ := H
  have A2 := Aside0.mk A20
  clear A20
  obtain rfl := Option.some.inj H
  go_enter Try.func49, Try.ntmps49
  go_wp2_with (first | ((with_reducible refine gate_callee (f := 80) rfl ?_); refine gL_ (some 4) Try.func80 #[.string a0, .bool false] ?_; (with_reducible refine (swap_number.calls a0 false t148 _ A2.out).mono ?_); rintro e w3 ⟨rfl, hb⟩; refine ⟨_, rfl, ?_⟩; replace HB := hB_ hb; (try clear hb); (try clear hb2); (try clear hk); (try clear hi)))
  go_ret
  exact ⟨r3_, beT_⟩

end Go.Proofs.Ytgkjdpdmmlalcaa.F
end
section
namespace Go.Proofs.Ytgkjdpdmmlalcaa.F
open Go.RowKit Go.Proofs.YtgkjdpdmmlalcaaW.PrintWords Go.Proofs.YtgkjdpdmmlalcaaW.PrintLast Go.Proofs.YtgkjdpdmmlalcaaW.PrintMore
attribute [local go_sem] max2_int min2_int max_two min_two max_three min_three max_four min_four
attribute [local go_sem] u32w
attribute [local go_sem] cell_twice
set_option linter.unusedVariables false
set_option linter.unusedSimpArgs false

def gmem_Load.f (l0_0 : List (S83)) (l0_1 : List (S88)) (a0_2 : Int) (l0_3 : List (S41)) (a1 : Int) (a2 : Int) : Option (Int × Int × Int) := (gmem_sized.f a2).bind fun t152 => (if t152 = true then ((gmem_Bytes.f l0_0 l0_1 a0_2 l0_3 a1 ((a2) % 4294967296)).bind fun bt153 => ((swap_Be.f bt153.1).bind fun t157 => (some (t157, bt153.2.1, bt153.2.2)))) else (some (0, 0, 0)))
set_option maxHeartbeats 8000000 in
set_option maxRecDepth 100000 in
theorem gmem_Load.calls (A0_0 : Option Addr) (c0_0 : Nat) (l0_0 : List (S83)) (A0_1 : Option Addr) (c0_1 : Nat) (l0_1 : List (S88)) (a0_2 : Int) (A0_3 : Option Addr) (c0_3 : Nat) (l0_3 : List (S41)) (a1 : Int) (a2 : Int) (r1 : Int) (r2 : Int) (r3 : Int) (w : World) (hr0_0 : Kd.C k83 w A0_0 l0_0.length l0_0) (hc0_0 : l0_0.length ≤ c0_0) (hr0_1 : Kd.C k88 w A0_1 l0_1.length l0_1) (hc0_1 : l0_1.length ≤ c0_1) (hr0_3 : Kd.C k41 w A0_3 l0_3.length l0_3) (hc0_3 : l0_3.length ≤ c0_3) (h : gmem_Load.f l0_0 l0_1 a0_2 l0_3 a1 a2 = some (r1, r2, r3)) :
    Calls Try.prog 17 #[.agg #[.slice A0_0 l0_0.length c0_0, .slice A0_1 l0_1.length c0_1, .int .u64 a0_2, .slice A0_3 l0_3.length c0_3], .int .u32 a1, .int .i64 a2] w fun e w' => e = .returned (.tuple #[.int .u64 r1, .agg #[.int .i64 r2, .int .u64 r3]]) ∧ Below w.heap.size w w' := by
  have hu29 := Try.underlying29
  have hu34 := Try.underlying34
  have HR0_0 := Aside0.mk hr0_0
  have HC0_0 := Aside0.mk hc0_0
  clear hr0_0 hc0_0
  have HR0_1 := Aside0.mk hr0_1
  have HC0_1 := Aside0.mk hc0_1
  clear hr0_1 hc0_1
  have HR0_3 := Aside0.mk hr0_3
  have HC0_3 := Aside0.mk hc0_3
  clear hr0_3 hc0_3
  have HB := Aside0.mk (Below.refl w.heap.size w)
  have H : ((gmem_sized.f a2).bind fun t152 => (if t152 = true then ((gmem_Bytes.f l0_0 l0_1 a0_2 l0_3 a1 ((a2) % 4294967296)).bind fun bt153 => ((swap_Be.f bt153.1).bind fun t157 => (some (t157, bt153.2.1, bt153.2.2)))) else (some (0, 0, 0)))) = some (r1, r2, r3) := h
  clear h
  replace H := Option.bind_eq_some_iff.mp H
  obtain ⟨t152, A40, H⟩ := H
  have A4 := Aside0.mk A40
  clear A40
  by_cases c5 : t152 = true
  · subst c5
    replace H := hP_ H
    replace H := Option.bind_eq_some_iff.mp H
    obtain ⟨⟨t153, t154, t155⟩, A60, H⟩ := H
    have A6 := Aside0.mk A60
    clear A60
    replace H := Option.bind_eq_some_iff.mp H
    obtain ⟨t157, A70, H⟩ := H
    have A7 := Aside0.mk A70
    clear A70
    simp only [Option.some.injEq, Prod.mk.injEq] at H
    obtain ⟨rfl, rfl, rfl⟩ := H
    go_enter Try.func17, Try.ntmps17
    try go_wp2_with (first | ((with_reducible refine gate_dst (N := 3) rfl ?_); refine bE_ 3 #[.slice A0_0 l0_0.length c0_0, .slice A0_1 l0_1.length c0_1, .int .u64 a0_2, .slice A0_3 l0_3.length c0_3] 29 ?_; intro gb150 hg w8 hbox hb; have BK150 := Aside0.mk hbox; have GW150 := geT_ w.heap.size hg; have GE150 := geT_ w.heap.size hg; replace HB := hB_ hb; clear hb hbox hg) | ((with_reducible refine gate_dst (N := 7) rfl ?_); refine bE_ 7 #[.int .i64 0, .int .u64 0] 34 ?_; intro gb151 hg w9 hbox hb; have BK151 := Aside0.mk hbox; have GW151 := geT_ w.heap.size hg; have GE151 := geT_ w.heap.size hg; have NB150_151 := nlT_ BK150.out hg; have NB151_150 := ngT_ BK150.out hg; replace BK150 := kB_ BK150 hb; replace HB := hB_ hb; clear hb hbox hg) | ((with_reducible refine gate_callee (f := 48) rfl ?_); refine gL_ (some 11) Try.func48 #[.int .i64 a2] ?_; (with_reducible refine (gmem_sized.calls a2 true _ A4.out).mono ?_); rintro e w' ⟨rfl, ⟨nd, rfl⟩⟩; refine ⟨_, rfl, ?_⟩; (try (rw [drewN_self w9]; generalize hq_ : World.drewN w9 _ = w9; replace BK150 : Aside0 (w9.heap[gb150]? = some (.cells #[.slice A0_0 l0_0.length c0_0, .slice A0_1 l0_1.length c0_1, .int .u64 a0_2, .slice A0_3 l0_3.length c0_3] 29 (0, 0))) := ⟨by rw [← hq_]; exact (bT_ BK150.out)⟩; replace BK151 : Aside0 (w9.heap[gb151]? = some (.cells #[.int .i64 0, .int .u64 0] 34 (0, 0))) := ⟨by rw [← hq_]; exact (bT_ BK151.out)⟩; replace HB : Aside0 (Below w.heap.size w w9) := ⟨by rw [← hq_]; exact beT_⟩; clear hq_)); have hnb10 := NB150_151.out; have hnc10 := NB151_150.out; obtain ⟨hcz11_0, hcz11_1, hcz11_2, hcz11_3, hfz11_0, hfz11_1, hfz11_2, hfz11_3⟩ := b4_ BK150.out) | ((with_reducible refine gate_callee (f := 13) rfl ?_); refine gL_ (some 19) Try.func13 #[.agg #[.slice A0_0 l0_0.length c0_0, .slice A0_1 l0_1.length c0_1, .int .u64 a0_2, .slice A0_3 l0_3.length c0_3], .int .u32 a1, .int .u32 ((a2) % 4294967296)] ?_; (with_reducible refine (gmem_Bytes.calls _ _ l0_0 _ _ l0_1 a0_2 _ _ l0_3 a1 ((a2) % 4294967296) t153 t154 t155 _ ?side1 ?side2 ?side3 ?side4 ?side5 ?side6 A6.out).mono ?_); (case side1 => exact cT_ (Kd.C_below HR0_0.out HB.out)); (case side2 => exact HC0_0.out); (case side3 => exact cT_ (Kd.C_below HR0_1.out HB.out)); (case side4 => exact HC0_1.out); (case side5 => exact cT_ (Kd.C_below HR0_3.out HB.out)); (case side6 => exact HC0_3.out); rintro e w12 ⟨rfl, hb⟩; refine ⟨_, rfl, ?_⟩; replace BK150 := kB_ BK150 hb; replace BK151 := kB_ BK151 hb; replace HB := hB_ hb; (try clear hb); (try clear hb2); (try clear hk); (try clear hi)) | ((with_reducible refine gate_dst (N := 9) rfl ?_); refine bE_ 9 #[.int .i64 0, .int .u64 0] 34 ?_; intro gb156 hg w13 hbox hb; have BK156 := Aside0.mk hbox; have GW156 := geT_ w.heap.size hg; have GE156 := geT_ w.heap.size hg; have NB150_156 := nlT_ BK150.out hg; have NB156_150 := ngT_ BK150.out hg; have NB151_156 := nlT_ BK151.out hg; have NB156_151 := ngT_ BK151.out hg; replace BK150 := kB_ BK150 hb; replace BK151 := kB_ BK151 hb; replace HB := hB_ hb; clear hb hbox hg; have hnb14 := NB156_150.out; have hnc14 := NB150_156.out; have hnb15 := NB156_151.out; have hnc15 := NB151_156.out; obtain ⟨hcz16_0, hcz16_1, hfz16_0, hfz16_1⟩ := b2_ BK156.out))
    have n0_ : Aside0 (((w13.setCell ⟨gb156, 0, none⟩ (.int .i64 t154)).setCell ⟨gb156, 1, none⟩ (.int .u64 t155)).heap[gb150]? = some (.cells #[.slice A0_0 l0_0.length c0_0, .slice A0_1 l0_1.length c0_1, .int .u64 a0_2, .slice A0_3 l0_3.length c0_3] 29 (0, 0))) := ⟨bfT_ BK150.out⟩
    have n1_ : Aside0 (((w13.setCell ⟨gb156, 0, none⟩ (.int .i64 t154)).setCell ⟨gb156, 1, none⟩ (.int .u64 t155)).heap[gb151]? = some (.cells #[.int .i64 0, .int .u64 0] 34 (0, 0))) := ⟨bfT_ BK151.out⟩
    have n2_ : Aside0 (((w13.setCell ⟨gb156, 0, none⟩ (.int .i64 t154)).setCell ⟨gb156, 1, none⟩ (.int .u64 t155)).heap[gb156]? = some (.cells #[.int .i64 t154, .int .u64 t155] 34 (0, 0))) := ⟨kP_ BK156.out⟩
    have n3_ : Aside0 (Below w.heap.size w ((w13.setCell ⟨gb156, 0, none⟩ (.int .i64 t154)).setCell ⟨gb156, 1, none⟩ (.int .u64 t155))) := ⟨beT_⟩
    (try clear BK150)
    (try clear BK151)
    (try clear BK156)
    (try clear HB)
    generalize ((w13.setCell ⟨gb156, 0, none⟩ (.int .i64 t154)).setCell ⟨gb156, 1, none⟩ (.int .u64 t155)) = w17 at n0_ n1_ n2_ n3_ ⊢
    have BK150 := n0_
    have BK151 := n1_
    have BK156 := n2_
    have HB := n3_
    clear n0_ n1_ n2_ n3_
    replace BK150 := Aside0.mk (blk_drew BK150.out)
    replace BK151 := Aside0.mk (blk_drew BK151.out)
    replace BK156 := Aside0.mk (blk_drew BK156.out)
    replace HB := Aside0.mk (below_drew1 HB.out)
    refine start_ (n := 5) (S := fun w' => w'.cell? ⟨gb156, 0, none⟩ = some (.int .i64 t154) ∧ w'.cell? ⟨gb156, 1, none⟩ = some (.int .u64 t155)) (ds := []) (mb_ 5 0) (by kernel_rfl) rfl rfl ⟨(blk_cell BK156.out 0).trans rfl, (blk_cell BK156.out 1).trans rfl⟩ (fun hHeld => ?_)
    generalize w17.drew = w18 at BK150 BK151 BK156 HB hHeld ⊢
    refine pure_ (i := 0) (N := some 22) (v := ?_) (a' := ?_) (mb_ 5 1) rfl rfl (by kernel_rfl) (fun _ _ _ h => h) (Or.inl ⟨by rfl, ?_⟩) ?_ ?_
    rotate_left
    · intro w'
      go_simp
      with_reducible rfl
    rotate_left
    · simp only [Act.put, List.setIfInBounds_toArray, List.set_cons_zero, List.set_cons_succ, i64_w, i32_w]
      rfl
    refine take_ (i := 2) (N := some 24) (v := ?_) (a' := ?_) (mb_ 5 5) rfl rfl (by kernel_rfl) (fun _ _ _ h => h) (Or.inl ⟨by rfl, ?_⟩) hHeld ?_ ?_
    rotate_left
    · rintro w' ⟨s0, s1⟩
      go_simp
      with_reducible rfl
    rotate_left
    · simp only [Act.put, List.setIfInBounds_toArray, List.set_cons_zero, List.set_cons_succ, i64_w, i32_w]
      rfl
    refine one_ (i := 1) (N := some 23) (mb_ 5 7) rfl rfl (by kernel_rfl) (by decide) (fun K hK => ?_)
    refine goes_ Try.func49 (by kernel_rfl) rfl #[.string t153] (by rfl) rfl rfl aT_ ?_
    with_reducible refine (swap_Be.calls t153 t157 _ A7.out).mono ?_
    rintro e w19 ⟨rfl, hb⟩
    refine ⟨_, rfl, ?_⟩
    replace BK150 := kB_ BK150 hb
    replace BK151 := kB_ BK151 hb
    replace BK156 := kB_ BK156 hb
    replace HB := hB_ hb
    (try clear hb)
    (try clear hb2)
    (try clear hk)
    (try clear hi)
    refine hK.out _ _ ⟨(blk_cell BK156.out 0).trans rfl, (blk_cell BK156.out 1).trans rfl⟩ (fun hHeld => ?_)
    clear hK K
    refine nS_ ?_
    refine pure_ (i := 3) (N := some 6) (v := ?_) (a' := ?_) (mb_ 5 15) rfl rfl (by kernel_rfl) (fun _ _ _ h => h) (Or.inl ⟨by rfl, ?_⟩) ?_ ?_
    rotate_left
    · intro w'
      go_simp
      with_reducible rfl
    rotate_left
    · simp only [Act.put, List.setIfInBounds_toArray, List.set_cons_zero, List.set_cons_succ, i64_w, i32_w]
      rfl
    refine one_ (i := 4) (N := none) (mb_ 5 31) rfl rfl (by kernel_rfl) (by decide) (fun K hK => ?_)
    have hs20 : w19.cell? ⟨gb151, 0, none⟩ = some (.int .i64 0) := (blk_cell BK151.out 0).trans rfl
    have hfs20 := blk_frozen BK151.out 0
    have hns20_0 := NB150_151.out
    have hns20_2 := NB156_151.out
    have hms20_0 := NB151_150.out
    have hms20_2 := NB151_156.out
    have hs21 : w19.cell? ⟨gb151, 1, none⟩ = some (.int .u64 0) := (blk_cell BK151.out 1).trans rfl
    have hfs21 := blk_frozen BK151.out 1
    have hns21_0 := NB150_151.out
    have hns21_2 := NB156_151.out
    have hms21_0 := NB151_150.out
    have hms21_2 := NB151_156.out
    refine skip_ (w1 := ?_) (by rfl) rfl ?_ ?_
    rotate_left
    · go_simp
      rfl
    refine hK.out _ _ ⟨((cell_far (p := ⟨gb151, _, none⟩) NB156_151.out _).trans (((cell_far (p := ⟨gb151, _, none⟩) NB156_151.out _).trans (hHeld.1)))), ((cell_far (p := ⟨gb151, _, none⟩) NB156_151.out _).trans (((cell_far (p := ⟨gb151, _, none⟩) NB156_151.out _).trans (hHeld.2))))⟩ (fun hHeld => ?_)
    clear hK K
    refine done_ (by kernel_rfl) ?_
    try go_wp2
    refine bodyPost_ret (results_tc rfl _ _ gb151 34 #[.int .i64 t154, .int .u64 t155] (0, 0) _ rfl (kP_ BK151.out) Try.underlying34 rfl (by kernel_rfl)) rfl ?_
    exact ⟨r3_, beT_⟩
  replace c5 := Bool.eq_false_iff.mpr c5
  subst c5
  replace H := hN_ H
  simp only [Option.some.injEq, Prod.mk.injEq] at H
  obtain ⟨rfl, rfl, rfl⟩ := H
  go_enter Try.func17, Try.ntmps17
  go_wp2_with (first | ((with_reducible refine gate_dst (N := 3) rfl ?_); refine bE_ 3 #[.slice A0_0 l0_0.length c0_0, .slice A0_1 l0_1.length c0_1, .int .u64 a0_2, .slice A0_3 l0_3.length c0_3] 29 ?_; intro gb150 hg w22 hbox hb; have BK150 := Aside0.mk hbox; have GW150 := geT_ w.heap.size hg; have GE150 := geT_ w.heap.size hg; replace HB := hB_ hb; clear hb hbox hg) | ((with_reducible refine gate_dst (N := 7) rfl ?_); refine bE_ 7 #[.int .i64 0, .int .u64 0] 34 ?_; intro gb151 hg w23 hbox hb; have BK151 := Aside0.mk hbox; have GW151 := geT_ w.heap.size hg; have GE151 := geT_ w.heap.size hg; have NB150_151 := nlT_ BK150.out hg; have NB151_150 := ngT_ BK150.out hg; replace BK150 := kB_ BK150 hb; replace HB := hB_ hb; clear hb hbox hg) | ((with_reducible refine gate_callee (f := 48) rfl ?_); refine gL_ (some 11) Try.func48 #[.int .i64 a2] ?_; (with_reducible refine (gmem_sized.calls a2 false _ A4.out).mono ?_); rintro e w' ⟨rfl, ⟨nd, rfl⟩⟩; refine ⟨_, rfl, ?_⟩; (try (rw [drewN_self w23]; generalize hq_ : World.drewN w23 _ = w23; replace BK150 : Aside0 (w23.heap[gb150]? = some (.cells #[.slice A0_0 l0_0.length c0_0, .slice A0_1 l0_1.length c0_1, .int .u64 a0_2, .slice A0_3 l0_3.length c0_3] 29 (0, 0))) := ⟨by rw [← hq_]; exact (bT_ BK150.out)⟩; replace BK151 : Aside0 (w23.heap[gb151]? = some (.cells #[.int .i64 0, .int .u64 0] 34 (0, 0))) := ⟨by rw [← hq_]; exact (bT_ BK151.out)⟩; replace HB : Aside0 (Below w.heap.size w w23) := ⟨by rw [← hq_]; exact beT_⟩; clear hq_)); have hnb24 := NB151_150.out; have hnc24 := NB150_151.out; obtain ⟨hcz25_0, hcz25_1, hfz25_0, hfz25_1⟩ := b2_ BK151.out))
  refine bodyPost_ret (results_tc rfl _ _ gb151 34 #[.int .i64 0, .int .u64 0] (0, 0) _ rfl (kP_ BK151.out) Try.underlying34 rfl (by kernel_rfl)) rfl ?_
  exact ⟨r3_, beT_⟩

end Go.Proofs.Ytgkjdpdmmlalcaa.F
end
