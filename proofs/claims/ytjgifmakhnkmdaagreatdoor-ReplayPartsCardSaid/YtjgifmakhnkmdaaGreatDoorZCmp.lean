import Derived.Test.YtjgifmakhnkmdaaGreatDoorZWMore
/- Short words for the printed walks of this seat: what a change of the world leaves as it was, found by instances. -/
namespace Go.Proofs.YtjgifmakhnkmdaaGreatDoor.Cmp
open Go.RowKit Go.Proofs.YtjgifmakhnkmdaaGreatDoorW.PrintWords Go.Proofs.YtjgifmakhnkmdaaGreatDoorW.PrintLast Go.Proofs.YtjgifmakhnkmdaaGreatDoorW.PrintMore
/-- block g is none of the first b -/
class Fr (b g : Nat) : Prop where
  mk ::
  out : b ≤ g
/-- from W to W' nothing below b has changed -/
class Vi (b : Nat) (W W' : World) : Prop where
  mk ::
  out : b ≤ W.heap.size → Below b W W'
instance vi_refl (b : Nat) (W : World) : Vi b W W := ⟨fun _ => Below.refl b W⟩
instance vi_alloc (b : Nat) (W W' : World) (o : Obj) [v : Vi b W W'] : Vi b W (W'.alloc o) := ⟨fun h => (v.out h).alloc (Nat.le_trans h (v.out h).size) o⟩
instance vi_drewN (b : Nat) (W W' : World) (n : Nat) [v : Vi b W W'] : Vi b W (W'.drewN n) := ⟨fun h => pw_below_drewN (v.out h) n⟩
instance vi_drew (b : Nat) (W W' : World) [v : Vi b W W'] : Vi b W W'.drew := ⟨fun h => below_drew (v.out h)⟩
instance vi_set (b : Nat) (W W' : World) (g j : Nat) (u : Value) [v : Vi b W W'] [f : Fr b g] : Vi b W (W'.setCell ⟨g, j, none⟩ u) := ⟨fun h => (v.out h).setCell f.out u⟩
section
variable {w W W' : World} {α : Type} {d : Kd α} {e base : Nat} {ok : Nat → Prop} {v : Value} {xs : List α}
theorem vb (h : Below w.heap.size w W) [i : Vi w.heap.size W W'] : Below w.heap.size w W' := h.trans (i.out h.size)
theorem vR (h : Kd.R d e W base ok v xs) [i : Vi W.heap.size W W'] : Kd.R d e W' base ok v xs := Kd.R_below h (i.out (Nat.le_refl _))
theorem vV (h : Kd.V d e W base ok v xs) [i : Vi W.heap.size W W'] : Kd.V d e W' base ok v xs := Kd.V_below h (i.out (Nat.le_refl _))
theorem vN (h : Kd.N d e W base ok v xs) [i : Vi W.heap.size W W'] : Kd.N d e W' base ok v xs := Kd.N_below h (i.out (Nat.le_refl _))
theorem vS (h : Kd.S d e W base ok v xs) [i : Vi W.heap.size W W'] : Kd.S d e W' base ok v xs := Kd.S_below h (i.out (Nat.le_refl _))
theorem vC {A : Option Addr} {n : Nat} (h : Kd.C d W A n xs) [i : Vi W.heap.size W W'] : Kd.C d W' A n xs := Kd.C_below h (i.out (Nat.le_refl _))
theorem vk {g : Nat} {o : Obj} (h : W.heap[g]? = some o) [i : Vi W.heap.size W W'] : W'.heap[g]? = some o := blk_below h (i.out (Nat.le_refl _))
theorem gef {gb : Nat} (hg : gb = W'.heap.size) (h : Below w.heap.size w W) [i : Vi w.heap.size W W'] : Fr w.heap.size gb := ⟨by rw [hg]; exact (h.trans (i.out h.size)).size⟩
theorem cb (h : Below w.heap.size w W) {a : Addr} {u : Value} (hc : w.cell? a = some u) : W.cell? a = some u := (h.cell (World.block_lt_of_cell? w _ hc)).trans hc
end
theorem od {p : Prop} [Decidable p] (h : decide p = true) : p := of_decide_eq_true h
theorem de {p : Prop} [Decidable p] (h : p) : decide p = true := decide_eq_true h
theorem df {p : Prop} [Decidable p] (h : ¬ p) : decide p = false := decide_eq_false h
theorem am {p : Prop} (h : p) : Aside0 p := ⟨h⟩
theorem be {α β : Type} {o : Option α} {f : α → Option β} {b : β} (h : o.bind f = some b) : ∃ a, o = some a ∧ f a = some b := Option.bind_eq_some_iff.mp h
theorem bk1 {W : World} {g : Nat} {t : TypeId} {v0 : Value} (h : W.heap[g]? = some (.cells #[v0] t (0, 0))) : W.cell? ⟨g, 0, none⟩ = some v0 ∧ W.frozen? ⟨g, 0, none⟩ = false := ⟨(blk_cell h 0).trans rfl, blk_frozen h 0⟩
theorem bk2 {W : World} {g : Nat} {t : TypeId} {v0 v1 : Value} (h : W.heap[g]? = some (.cells #[v0, v1] t (0, 0))) : W.cell? ⟨g, 0, none⟩ = some v0 ∧ W.cell? ⟨g, 1, none⟩ = some v1 ∧ W.frozen? ⟨g, 0, none⟩ = false ∧ W.frozen? ⟨g, 1, none⟩ = false := ⟨(blk_cell h 0).trans rfl, (blk_cell h 1).trans rfl, blk_frozen h 0, blk_frozen h 1⟩
theorem bk3 {W : World} {g : Nat} {t : TypeId} {v0 v1 v2 : Value} (h : W.heap[g]? = some (.cells #[v0, v1, v2] t (0, 0))) : W.cell? ⟨g, 0, none⟩ = some v0 ∧ W.cell? ⟨g, 1, none⟩ = some v1 ∧ W.cell? ⟨g, 2, none⟩ = some v2 ∧ W.frozen? ⟨g, 0, none⟩ = false ∧ W.frozen? ⟨g, 1, none⟩ = false ∧ W.frozen? ⟨g, 2, none⟩ = false := ⟨(blk_cell h 0).trans rfl, (blk_cell h 1).trans rfl, (blk_cell h 2).trans rfl, blk_frozen h 0, blk_frozen h 1, blk_frozen h 2⟩
theorem bk6 {W : World} {g : Nat} {t : TypeId} {v0 v1 v2 v3 v4 v5 : Value} (h : W.heap[g]? = some (.cells #[v0, v1, v2, v3, v4, v5] t (0, 0))) : W.cell? ⟨g, 0, none⟩ = some v0 ∧ W.cell? ⟨g, 1, none⟩ = some v1 ∧ W.cell? ⟨g, 2, none⟩ = some v2 ∧ W.cell? ⟨g, 3, none⟩ = some v3 ∧ W.cell? ⟨g, 4, none⟩ = some v4 ∧ W.cell? ⟨g, 5, none⟩ = some v5 ∧ W.frozen? ⟨g, 0, none⟩ = false ∧ W.frozen? ⟨g, 1, none⟩ = false ∧ W.frozen? ⟨g, 2, none⟩ = false ∧ W.frozen? ⟨g, 3, none⟩ = false ∧ W.frozen? ⟨g, 4, none⟩ = false ∧ W.frozen? ⟨g, 5, none⟩ = false := ⟨(blk_cell h 0).trans rfl, (blk_cell h 1).trans rfl, (blk_cell h 2).trans rfl, (blk_cell h 3).trans rfl, (blk_cell h 4).trans rfl, (blk_cell h 5).trans rfl, blk_frozen h 0, blk_frozen h 1, blk_frozen h 2, blk_frozen h 3, blk_frozen h 4, blk_frozen h 5⟩
section
variable {w W W' W2 : World} {α : Type} {d : Kd α} {e base : Nat} {ok : Nat → Prop} {v : Value} {xs : List α}
theorem bs (h : Below w.heap.size w W) (hb : Below W'.heap.size W' W2) [i : Vi w.heap.size W W'] : Aside0 (Below w.heap.size w W2) := ⟨below_step (vb h) hb⟩
theorem kb {g : Nat} {o : Obj} (h : W.heap[g]? = some o) (hb : Below W'.heap.size W' W2) [i : Vi W.heap.size W W'] : Aside0 (W2.heap[g]? = some o) := ⟨blk_below (vk h) hb⟩
theorem kR (h : Kd.R d e W base ok v xs) (hb : Below W'.heap.size W' W2) [i : Vi W.heap.size W W'] : Aside0 (Kd.R d e W2 base ok v xs) := ⟨Kd.R_below (vR h) hb⟩
theorem kV (h : Kd.V d e W base ok v xs) (hb : Below W'.heap.size W' W2) [i : Vi W.heap.size W W'] : Aside0 (Kd.V d e W2 base ok v xs) := ⟨Kd.V_below (vV h) hb⟩
theorem kN (h : Kd.N d e W base ok v xs) (hb : Below W'.heap.size W' W2) [i : Vi W.heap.size W W'] : Aside0 (Kd.N d e W2 base ok v xs) := ⟨Kd.N_below (vN h) hb⟩
theorem kS (h : Kd.S d e W base ok v xs) (hb : Below W'.heap.size W' W2) [i : Vi W.heap.size W W'] : Aside0 (Kd.S d e W2 base ok v xs) := ⟨Kd.S_below (vS h) hb⟩
theorem kC {A : Option Addr} {n : Nat} (h : Kd.C d W A n xs) (hb : Below W'.heap.size W' W2) [i : Vi W.heap.size W W'] : Aside0 (Kd.C d W2 A n xs) := ⟨Kd.C_below (vC h) hb⟩
theorem eS {g : Nat} (h : Kd.S d e W base ok v xs) (hg : g = W'.heap.size) (hb : Below W'.heap.size W' W2) [i : Vi W.heap.size W W'] : Aside0 (Kd.S d e W2 base (fun k => ok k ∧ k ≠ g) v xs) := ⟨Kd.S_below (Kd.S_elderB (vS h) g (Nat.le_of_eq hg.symm)) hb⟩
theorem eV {g : Nat} (h : Kd.V d e W base ok v xs) (hg : g = W'.heap.size) (hb : Below W'.heap.size W' W2) [i : Vi W.heap.size W W'] : Aside0 (Kd.V d e W2 base (fun k => ok k ∧ k ≠ g) v xs) := ⟨Kd.V_below (Kd.V_elderB (vV h) g (Nat.le_of_eq hg.symm)) hb⟩
theorem eN {g : Nat} (h : Kd.N d e W base ok v xs) (hg : g = W'.heap.size) (hb : Below W'.heap.size W' W2) [i : Vi W.heap.size W W'] : Aside0 (Kd.N d e W2 base (fun k => ok k ∧ k ≠ g) v xs) := ⟨Kd.N_below (Kd.N_elderB (vN h) g (Nat.le_of_eq hg.symm)) hb⟩
theorem nl {g f : Nat} {o : Obj} (hg : f = W'.heap.size) (h : W.heap[g]? = some o) [i : Vi W.heap.size W W'] : Aside0 (g ≠ f) := ⟨by rw [hg]; exact Nat.ne_of_lt (blk_lt (vk (W' := W') h))⟩
theorem ng {g f : Nat} {o : Obj} (hg : f = W'.heap.size) (h : W.heap[g]? = some o) [i : Vi W.heap.size W W'] : Aside0 (f ≠ g) := ⟨by rw [hg]; exact Nat.ne_of_gt (blk_lt (vk (W' := W') h))⟩
end
theorem mT {α β : Type} {f : α → β} {l : List α} : l.toArray.map f = (l.map f).toArray := List.map_toArray ..
theorem mC {α β : Type} {f : α → β} {a : α} {l : List α} : (a :: l).map f = f a :: l.map f := rfl
theorem mN {α β : Type} {f : α → β} : ([] : List α).map f = [] := rfl
/-- the world behind draws and new blocks -/
class Un (W' : World) (W : outParam World) : Prop where
  mk ::
  out : ∀ (g : Nat) (o : Obj), W.heap[g]? = some o → W'.heap[g]? = some o
instance (priority := low) un_refl (W : World) : Un W W := ⟨fun _ _ h => h⟩
instance un_drew (W' W : World) [h : Un W' W] : Un W'.drew W := ⟨fun g o x => blk_drew (h.out g o x)⟩
instance un_drewN (W' W : World) (n : Nat) [h : Un W' W] : Un (W'.drewN n) W := ⟨fun g o x => blk_drewN (h.out g o x) n⟩
instance un_alloc (W' W : World) (b : Obj) [h : Un W' W] : Un (W'.alloc b) W := ⟨fun g o x => blk_alloc (h.out g o x) b⟩
theorem vt {W W' : World} {g : Nat} {o : Obj} [i : Un W' W] (h : W.heap[g]? = some o) : W'.heap[g]? = some o := i.out g o h
theorem bp {W : World} {g : Nat} {t : TypeId} {cs : Array Value} {u : Value} (h : W.heap[g]? = some (.cells cs t (0, 0))) (i : Nat) : (W.setCell ⟨g, i, none⟩ u).heap[g]? = some (.cells (cs.setIfInBounds i u) t (0, 0)) := blk_set h i u
theorem bf {W : World} {g f j : Nat} {t : TypeId} {cs : Array Value} {u : Value} (h : W.heap[g]? = some (.cells cs t (0, 0))) (hne : g ≠ f) : (W.setCell ⟨f, j, none⟩ u).heap[g]? = some (.cells cs t (0, 0)) := blk_far (p := ⟨f, j, none⟩) h hne u
/-- an address within the block of another -/
class Ab (a ad : Addr) : Prop where
  mk ::
  out : a.block = ad.block
instance ab_refl (ad : Addr) : Ab ad ad := ⟨rfl⟩
instance ab_add (a ad : Addr) (n : Nat) [h : Ab a ad] : Ab (a.add n) ad := ⟨(add_block a n).trans h.out⟩
instance ab_mk (a ad : Addr) (o : Nat) [h : Ab a ad] : Ab ⟨a.block, o, none⟩ ad := ⟨h.out⟩
theorem ct {W : World} {a ad : Addr} {g j : Nat} {u v : Value} (hne : ad.block ≠ g) (h : W.cell? a = some v) [i : Ab a ad] : (W.setCell ⟨g, j, none⟩ u).cell? a = some v := (cell_far (p := ⟨g, j, none⟩) (by rw [i.out]; exact hne) u).trans h
section
variable {W : World} {α : Type} {d : Kd α} {e base : Nat} {ok : Nat → Prop} {v : Value} {xs : List α}
theorem fS3 (g : Nat) (h : Kd.S d e W base (fun k => ok k ∧ k ≠ g) v xs) (u0 u1 u2 : Value) : Kd.S d e (((W.setCell ⟨g, 0, none⟩ u0).setCell ⟨g, 1, none⟩ u1).setCell ⟨g, 2, none⟩ u2) base (fun k => ok k ∧ k ≠ g) v xs := Kd.S_far (p := ⟨g, 2, none⟩) (Kd.S_far (p := ⟨g, 1, none⟩) (Kd.S_far (p := ⟨g, 0, none⟩) (h) (fun _ hk => hk.2) u0) (fun _ hk => hk.2) u1) (fun _ hk => hk.2) u2
theorem fS6 (g : Nat) (h : Kd.S d e W base (fun k => ok k ∧ k ≠ g) v xs) (u0 u1 u2 u3 u4 u5 : Value) : Kd.S d e ((((((W.setCell ⟨g, 0, none⟩ u0).setCell ⟨g, 1, none⟩ u1).setCell ⟨g, 2, none⟩ u2).setCell ⟨g, 3, none⟩ u3).setCell ⟨g, 4, none⟩ u4).setCell ⟨g, 5, none⟩ u5) base (fun k => ok k ∧ k ≠ g) v xs := Kd.S_far (p := ⟨g, 5, none⟩) (Kd.S_far (p := ⟨g, 4, none⟩) (Kd.S_far (p := ⟨g, 3, none⟩) (Kd.S_far (p := ⟨g, 2, none⟩) (Kd.S_far (p := ⟨g, 1, none⟩) (Kd.S_far (p := ⟨g, 0, none⟩) (h) (fun _ hk => hk.2) u0) (fun _ hk => hk.2) u1) (fun _ hk => hk.2) u2) (fun _ hk => hk.2) u3) (fun _ hk => hk.2) u4) (fun _ hk => hk.2) u5
theorem fR3 (g : Nat) (h : Kd.R d e W base (fun k => ok k ∧ k ≠ g) v xs) (u0 u1 u2 : Value) : Kd.R d e (((W.setCell ⟨g, 0, none⟩ u0).setCell ⟨g, 1, none⟩ u1).setCell ⟨g, 2, none⟩ u2) base (fun k => ok k ∧ k ≠ g) v xs := Kd.R_far (p := ⟨g, 2, none⟩) (Kd.R_far (p := ⟨g, 1, none⟩) (Kd.R_far (p := ⟨g, 0, none⟩) (h) (fun _ hk => hk.2) u0) (fun _ hk => hk.2) u1) (fun _ hk => hk.2) u2
theorem fR6 (g : Nat) (h : Kd.R d e W base (fun k => ok k ∧ k ≠ g) v xs) (u0 u1 u2 u3 u4 u5 : Value) : Kd.R d e ((((((W.setCell ⟨g, 0, none⟩ u0).setCell ⟨g, 1, none⟩ u1).setCell ⟨g, 2, none⟩ u2).setCell ⟨g, 3, none⟩ u3).setCell ⟨g, 4, none⟩ u4).setCell ⟨g, 5, none⟩ u5) base (fun k => ok k ∧ k ≠ g) v xs := Kd.R_far (p := ⟨g, 5, none⟩) (Kd.R_far (p := ⟨g, 4, none⟩) (Kd.R_far (p := ⟨g, 3, none⟩) (Kd.R_far (p := ⟨g, 2, none⟩) (Kd.R_far (p := ⟨g, 1, none⟩) (Kd.R_far (p := ⟨g, 0, none⟩) (h) (fun _ hk => hk.2) u0) (fun _ hk => hk.2) u1) (fun _ hk => hk.2) u2) (fun _ hk => hk.2) u3) (fun _ hk => hk.2) u4) (fun _ hk => hk.2) u5
theorem fV6 (g : Nat) (h : Kd.V d e W base (fun k => ok k ∧ k ≠ g) v xs) (u0 u1 u2 u3 u4 u5 : Value) : Kd.V d e ((((((W.setCell ⟨g, 0, none⟩ u0).setCell ⟨g, 1, none⟩ u1).setCell ⟨g, 2, none⟩ u2).setCell ⟨g, 3, none⟩ u3).setCell ⟨g, 4, none⟩ u4).setCell ⟨g, 5, none⟩ u5) base (fun k => ok k ∧ k ≠ g) v xs := Kd.V_far (p := ⟨g, 5, none⟩) (Kd.V_far (p := ⟨g, 4, none⟩) (Kd.V_far (p := ⟨g, 3, none⟩) (Kd.V_far (p := ⟨g, 2, none⟩) (Kd.V_far (p := ⟨g, 1, none⟩) (Kd.V_far (p := ⟨g, 0, none⟩) (h) (fun _ hk => hk.2) u0) (fun _ hk => hk.2) u1) (fun _ hk => hk.2) u2) (fun _ hk => hk.2) u3) (fun _ hk => hk.2) u4) (fun _ hk => hk.2) u5
end
end Go.Proofs.YtjgifmakhnkmdaaGreatDoor.Cmp
