import Derived.Test.YtjhfglpgpicmiaaVZF0
import Derived.Test.YtjhfglpgpicmiaaVA0
import Derived.Test.YtjhfglpgpicmiaaVA3
import Derived.Test.YtjhfglpgpicmiaaVA4HGuest1
import Derived.Test.YtjhfglpgpicmiaaVA9
import Derived.Test.YtjhfglpgpicmiaaVA11
import Derived.Test.YtjhfglpgpicmiaaVA16
import Derived.Test.YtjhfglpgpicmiaaVA21HGuest4
import Derived.Test.YtjhfglpgpicmiaaVA23HGuest7
import Derived.Test.YtjhfglpgpicmiaaVA28HGuest9
section
namespace Go.Proofs.Ytjhfglpgpicmiaa.F
open Go.RowKit Go.Shelf Go.Proofs.YtjhfglpgpicmiaaW.PrintWords Go.Proofs.YtjhfglpgpicmiaaW.PrintLast Go.Proofs.YtjhfglpgpicmiaaW.PrintMore
set_option linter.unusedVariables false
set_option linter.unusedSimpArgs false
section
variable {W : World} {v0 v1 v3 : Value} {l : List SM} {m : List SC} {b : Int} {p : List SP}
theorem gUnmap_L (hG : GuestV W v0 v1 v3 l m p) (hF : FitH l m) (hs : Rises pgK p) (hp : p.length ≤ 256) {a n : Int} (ha : 0 ≤ a) (ha2 : a < 4294967296) (hn : 0 ≤ n) (hn2 : n < 4294967296) {r1 : List SM} {r2 : List SC} {r3 : List SP} {r4 : Int} (hr : gUnmapS l m b p a n = (r1, r2, r3, r4)) :
    Calls Try.prog 11 #[.agg #[v0, v1, .int .u64 b, v3], .int .u32 a, .int .u32 n] W (RetG W r1 r2 b r3 (fun g => .tuple #[g, .int .i64 r4])) := by
  obtain ⟨⟨A0, c0, rfl, h0, k0⟩, ⟨A1, c1, rfl, h1, k1⟩, ⟨A3, c3, rfl, h3, k3⟩⟩ := hG
  exact gUnmap_c A0 c0 l A1 c1 m b A3 c3 p a n W k0 h0 k1 h1 k3 h3 hF hs hp ha ha2 hn hn2 hr
end
end Go.Proofs.Ytjhfglpgpicmiaa.F
end
section
namespace Go.Proofs.Ytjhfglpgpicmiaa.F
open Go.RowKit Go.Shelf Go.Proofs.YtjhfglpgpicmiaaW.PrintWords Go.Proofs.YtjhfglpgpicmiaaW.PrintLast Go.Proofs.YtjhfglpgpicmiaaW.PrintMore
set_option linter.unusedVariables false
-- HAND fn=slices.Clone[[]ferry/api.Page,ferry/api.Page] ; rounds=0 ; making=1 ; laid=0
def api_Page_48.f (l0 : List S39) : Option (List S39) := if l0.length ≤ 1000000 then some l0 else none
theorem api_Page_48.calls (A0 : Option Addr) (c0 : Nat) (l0 : List S39) (r : List S39) (w : World) (hr0 : Kd.C k39 w A0 l0.length l0) (hc0 : l0.length ≤ c0) (h : api_Page_48.f l0 = some r) :
    Calls Try.prog 48 #[.slice A0 l0.length c0] w fun e w' => ∃ v0_ : Value, e = .returned (v0_) ∧ Kd.R k39 39 w' w.heap.size (fun _ => True) v0_ r ∧ Below w.heap.size w w' := by
  unfold api_Page_48.f at h
  split at h
  · rename_i hh
    obtain rfl := Option.some.inj h
    exact pg_clone.calls A0 c0 l0 w hr0 hc0 hh
  · cases h
end Go.Proofs.Ytjhfglpgpicmiaa.F
end
