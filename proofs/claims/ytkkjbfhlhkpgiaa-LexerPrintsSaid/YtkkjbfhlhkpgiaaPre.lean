/- Small facts that the walks of this seat use beside the kit's: a cell that was written twice. -/
import Derived.WalkKit
namespace Go.Proofs.Ytkkjbfhlhkpgiaa.Pre
theorem cell_twice (w : World) (a : Addr) (u v : Value) (h : (w.cell? a).isSome = true) : ((w.setCell a u).setCell a v).cell? a = some v :=
  World.cell?_setCell_same' _ _ _ (by rw [World.cell?_setCell_same' _ _ _ h]; rfl)
theorem cell_thrice (w : World) (a : Addr) (t u v : Value) (h : (w.cell? a).isSome = true) : (((w.setCell a t).setCell a u).setCell a v).cell? a = some v :=
  World.cell?_setCell_same' _ _ _ (by rw [cell_twice _ _ _ _ h]; rfl)
end Go.Proofs.Ytkkjbfhlhkpgiaa.Pre
