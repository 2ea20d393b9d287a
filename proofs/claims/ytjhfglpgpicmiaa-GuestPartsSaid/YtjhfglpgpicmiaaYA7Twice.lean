import Derived.WalkKit
import Derived.Test.YtjhfglpgpicmiaaZF0
section
namespace Go.Proofs.Ytjhfglpgpicmiaa.F
theorem cell_twice (w : World) (a : Addr) (u v : Value) (h : (w.cell? a).isSome = true) : ((w.setCell a u).setCell a v).cell? a = some v :=
  World.cell?_setCell_same' _ _ _ (by rw [World.cell?_setCell_same' _ _ _ h]; rfl)
end Go.Proofs.Ytjhfglpgpicmiaa.F
end
