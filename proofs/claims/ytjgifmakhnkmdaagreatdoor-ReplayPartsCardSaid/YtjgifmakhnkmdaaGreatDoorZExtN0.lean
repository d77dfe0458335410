import Derived.Deep.RegionHeld3
import Derived.StillTailTactics
import Derived.Deep.QuietTactic
import Derived.BigQuiet
import Derived.Test.YtjgifmakhnkmdaaGreatDoorZExtL
namespace Go.Proofs.YtjgifmakhnkmdaaGreatDoor.XRep
open Go.RowKit Go.Proofs.YtjgifmakhnkmdaaGreatDoorW.PrintWords Go.Proofs.YtjgifmakhnkmdaaGreatDoorW.PrintLast Go.Proofs.YtjgifmakhnkmdaaGreatDoorW.PrintMore
set_option linter.unusedVariables false
set_option linter.unusedSimpArgs false
attribute [local go_sem] mk77 mk76
theorem SetAt.made_at {W : World} {kt X : Nat} (h : X = W.heap.size) : SetAt (W.alloc (.map #[] 0)) kt X 0 [] := by rw [h]; exact SetAt.made W kt
theorem cell_kept {w w' : World} {a : Addr} {v : Value} (hb : Below w.heap.size w w') (h : w.cell? a = some v) : w'.cell? a = some v := (hb.cell (World.block_lt_of_cell? w _ h)).trans h
structure BInv (w0 w : World) (m p bl bp bo : Nat) (A : Option Addr) (c : Nat) (s : List S34) (Ag : Option Addr) (cg : Nat) (gs : List (List Int)) (mf : Value) : Prop where
 hp : w.heap[p]? = some (.cells #[.slice A s.length c, .slice Ag gs.length cg, mf, .map (some bl), .map (some bp), .map (some bo), .bool false] 79 (0, 0))
 h0 : w.heap[w0.heap.size]? = some (.cells #[.slice A s.length c] 40 (0, 0))
 hF : Kd.F (Kd.slice 3 (Kd.int .i64)) w (fun k => k ≠ p ∧ k ≠ bl ∧ k ≠ bp ∧ k ≠ bo ∧ k < m) Ag gs.length gs
 hB : Below w0.heap.size w0 w
 num : p < m ∧ w0.heap.size < p ∧ w0.heap.size < bl ∧ w0.heap.size < bp ∧ w0.heap.size < bo ∧ p ≠ bl ∧ p ≠ bp ∧ p ≠ bo ∧ bl < m ∧ bp < m ∧ bo < m ∧ bl ≠ bp ∧ bl ≠ bo ∧ bp ≠ bo ∧ m ≤ w.heap.size
theorem BInv.grown {w0 w w' : World} {m p bl bp bo : Nat} {A : Option Addr} {c : Nat} {s : List S34} {Ag : Option Addr} {cg : Nat} {gs : List (List Int)} {mf : Value} {row : Option Nat} (h : BInv w0 w m p bl bp bo A c s Ag cg gs mf) (hg : w.grownBy w' row) (hrow : ∀ j, row = some j → j = bl ∨ j = bp ∨ j = bo ∨ m ≤ j) : BInv w0 w' m p bl bp bo A c s Ag cg gs mf where
 hp := blk_grown h.hp hg (fun e => by have := hrow p e.symm; have := h.num; omega)
 h0 := blk_grown h.h0 hg (fun e => by have := hrow _ e.symm; have := h.num; omega)
 hF := Kd.F_grown h.hF hg (fun k hk e => by have := hrow _ e.symm; omega)
 hB := h.hB.grown hg h.hB.size (fun k e => by have := hrow _ e; have := h.num; have := h.hB.size; omega)
 num := by
  have h1 := h.num
  have h2 := hg.size
  refine ⟨h1.1, h1.2.1, h1.2.2.1, h1.2.2.2.1, h1.2.2.2.2.1, h1.2.2.2.2.2.1, h1.2.2.2.2.2.2.1, h1.2.2.2.2.2.2.2.1, h1.2.2.2.2.2.2.2.2.1, h1.2.2.2.2.2.2.2.2.2.1, h1.2.2.2.2.2.2.2.2.2.2.1, h1.2.2.2.2.2.2.2.2.2.2.2.1, h1.2.2.2.2.2.2.2.2.2.2.2.2.1, h1.2.2.2.2.2.2.2.2.2.2.2.2.2.1, ?_⟩
  have := h1.2.2.2.2.2.2.2.2.2.2.2.2.2.2
  omega
theorem BInv.below {w0 w w' : World} {m p bl bp bo : Nat} {A : Option Addr} {c : Nat} {s : List S34} {Ag : Option Addr} {cg : Nat} {gs : List (List Int)} {mf : Value} (h : BInv w0 w m p bl bp bo A c s Ag cg gs mf) (hb : Below w.heap.size w w') : BInv w0 w' m p bl bp bo A c s Ag cg gs mf := h.grown (grown_of_below hb) (fun j e => by cases e)
theorem SetAt.setCell {w : World} {kt b n : Nat} {L : List Lit} (h : SetAt w kt b n L) {a : Addr} (ha : b ≠ a.block) (u : Value) : SetAt (w.setCell a u) kt b n L := by
 obtain ⟨D, h1, h2⟩ := h
 exact ⟨D, h1.setCell ha u, h2⟩
set_option maxRecDepth 100000 in
theorem plain_bool_form {v : Value} {y : DataW Unit × List MemPlace} (h : plainElem (H := Unit) Tryz.prog 4 v = some y) : ∃ c, v = .bool c := by
 unfold plainElem at h
 rw [Tryz.underlying4] at h
 cases v <;> simp at h
 exact ⟨_, rfl⟩
theorem heap_new_at {W : World} {X : Nat} {o : Obj} (h : X = W.heap.size) : (W.alloc o).heap[X]? = some o := by rw [h]; exact heap_new W o
def scanPairs (fam : List Int) : List Int → List Int → List Int
 | os, a :: b :: r => scanPairs fam (if b ∈ fam then os ++ [a] else os) r
 | os, _ => os
def scanEv (logs : List ByteArray) (fam : List Int) (st : List ByteArray × List ByteArray × List Int) (e : S34) : List ByteArray × List ByteArray × List Int :=
 if e.f0 = 2 ∧ memS e.f2 logs = true ∧ memS e.f2 st.1 = false then (st.1 ++ [e.f2], st.2.1 ++ [e.f3], st.2.2)
 else if e.f0 = 9 then (st.1, st.2.1, scanPairs fam st.2.2 e.f4) else st
def evOk (e : S34) : Bool := okS e.f2 && okS e.f3 && e.f4.all okI && decide (e.f4.length ≤ 1000)
def logsOf (lgf : Int → ByteArray × Bool) (fam : List Int) : List ByteArray := (fam.filter (fun x => (lgf x).2)).map (fun x => (lgf x).1)
theorem range_mem {lgf : Int → ByteArray × Bool} {left : Lit → Bool} {fam : List Int} {L L' : List ByteArray} {x : Int} (hx : x ∈ fam) (hL : L' = if (lgf x).2 = true then L ++ [(lgf x).1] else L) (HI : ∀ y, y ∈ L ↔ ∃ b ∈ fam, left (.int .i64 b) = false ∧ (lgf b).2 = true ∧ (lgf b).1 = y) :
  ∀ y, y ∈ L' ↔ ∃ b ∈ fam, (left (.int .i64 b) && !(Lit.int .i64 b).sameKey (.int .i64 x)) = false ∧ (lgf b).2 = true ∧ (lgf b).1 = y := by
 intro y
 have hs : ∀ b : Int, (Lit.int .i64 b).sameKey (.int .i64 x) = true ↔ b = x := fun b => by
  rw [WideAt.sameKey_iff (by simp [WideAt.IsKeyLit])]
  simp
 have hf : ∀ b : Int, (left (.int .i64 b) && !(Lit.int .i64 b).sameKey (.int .i64 x)) = false ↔ (left (.int .i64 b) = false ∨ b = x) := fun b => by
  rw [← hs b]
  cases left (.int .i64 b) <;> cases (Lit.int .i64 b).sameKey (.int .i64 x) <;> simp
 rw [hL]
 constructor
 ·intro h
  by_cases c : (lgf x).2 = true
  ·rw [if_pos c] at h
   rcases List.mem_append.1 h with h | h
   ·obtain ⟨b, hb, h1, h2, h3⟩ := (HI y).1 h
    exact ⟨b, hb, (hf b).2 (.inl h1), h2, h3⟩
   ·exact ⟨x, hx, (hf x).2 (.inr rfl), c, (List.mem_singleton.1 h).symm⟩
  ·rw [if_neg c] at h
   obtain ⟨b, hb, h1, h2, h3⟩ := (HI y).1 h
   exact ⟨b, hb, (hf b).2 (.inl h1), h2, h3⟩
 ·rintro ⟨b, hb, h1, h2, h3⟩
  rcases (hf b).1 h1 with h1 | rfl
  ·have := (HI y).2 ⟨b, hb, h1, h2, h3⟩
   split
   ·exact List.mem_append_left _ this
   ·exact this
  ·rw [if_pos h2, ← h3]
   exact List.mem_append_right _ (List.mem_singleton.2 rfl)
theorem logs_mem {lgf : Int → ByteArray × Bool} {left : Lit → Bool} {fam : List Int} {L : List ByteArray} (h0 : ∀ kl, left kl = false) (HI : ∀ y, y ∈ L ↔ ∃ b ∈ fam, left (.int .i64 b) = false ∧ (lgf b).2 = true ∧ (lgf b).1 = y) : ∀ y, y ∈ L ↔ y ∈ logsOf lgf fam := by
 intro y
 rw [HI y]
 simp only [logsOf, List.mem_map, List.mem_filter]
 constructor
 ·rintro ⟨b, hb, _, h2, h3⟩
  exact ⟨b, ⟨hb, h2⟩, h3⟩
 ·rintro ⟨b, ⟨hb, h2⟩, h3⟩
  exact ⟨b, hb, h0 _, h2, h3⟩
theorem SetS.same {w : World} {b n : Nat} {l l' : List ByteArray} (h : SetS w b n l) (hm : ∀ x, x ∈ l ↔ x ∈ l') : SetS w b n l' :=
 SetAt.same h (fun k => by
  simp only [List.mem_map]
  exact ⟨fun ⟨x, hx, e⟩ => ⟨x, (hm x).1 hx, e⟩, fun ⟨x, hx, e⟩ => ⟨x, (hm x).2 hx, e⟩⟩)
def evz : Array Value := #[.int .i64 0, .int .i64 0, .string ⟨#[]⟩, .string ⟨#[]⟩, .slice none 0 0, .string ⟨#[]⟩]
def evv (e : S34) (A4 : Option Addr) (c4 : Nat) : Array Value := #[.int .i64 e.f0, .int .i64 e.f1, .string e.f2, .string e.f3, .slice A4 e.f4.length c4, .string e.f5]
def evSet (w : World) (eb : Nat) (e : S34) (A4 : Option Addr) (c4 : Nat) : World :=
 (((((w.setCell ⟨eb, 0, none⟩ (.int .i64 e.f0)).setCell ⟨eb, 1, none⟩ (.int .i64 e.f1)).setCell ⟨eb, 2, none⟩ (.string e.f2)).setCell ⟨eb, 3, none⟩ (.string e.f3)).setCell ⟨eb, 4, none⟩ (.slice A4 e.f4.length c4)).setCell ⟨eb, 5, none⟩ (.string e.f5)
theorem evSet_blk {w : World} {eb : Nat} {x0 x1 x2 x3 x4 x5 : Value} (h : w.heap[eb]? = some (.cells #[x0, x1, x2, x3, x4, x5] 34 (0, 0))) (e : S34) (A4 : Option Addr) (c4 : Nat) : (evSet w eb e A4 c4).heap[eb]? = some (.cells (evv e A4 c4) 34 (0, 0)) :=
 blk_put (blk_put (blk_put (blk_put (blk_put (blk_put h 0 _ rfl) 1 _ rfl) 2 _ rfl) 3 _ rfl) 4 _ rfl) 5 _ rfl
theorem evSet_below {w0 w : World} {eb : Nat} (h : Below w0.heap.size w0 w) (hg : w0.heap.size ≤ eb) (e : S34) (A4 : Option Addr) (c4 : Nat) : Below w0.heap.size w0 (evSet w eb e A4 c4) :=
 below_set (below_set (below_set (below_set (below_set (below_set h hg) hg) hg) hg) hg) hg
theorem wrap_nk {nk : Nat} (h : nk ≤ 2000) : wrap64 ((nk : Int) + 1) = (nk : Int) + 1 := by unfold wrap64; omega
theorem scanPairs_end (fam os l : List Int) (h : l.length ≤ 1) : scanPairs fam os l = os := by
 match l, h with
 | [], _ => rfl
 | [_], _ => rfl
theorem scanPairs_step (fam os l : List Int) (n : Nat) (h : n + 1 < l.length) : scanPairs fam os (l.drop n) = scanPairs fam (if rd l ((n : Int) + 1) ∈ fam then os ++ [rd l (n : Int)] else os) (l.drop (n + 2)) := by
 have e1 : rd l (n : Int) = l[n] := rd_mem (by omega)
 have e2 : rd l ((n : Int) + 1) = l[n + 1] := by
  rw [show ((n : Int) + 1) = ((n + 1 : Nat) : Int) by omega]
  exact rd_mem (by omega)
 have e3 : l.drop n = l[n] :: l[n + 1] :: l.drop (n + 2) := by
  rw [List.drop_eq_getElem_cons (show n < l.length by omega), List.drop_eq_getElem_cons (show n + 1 < l.length by omega)]
 rw [e1, e2, e3]
 rfl
def HistAt (w : World) (p : Nat) (A : Option Addr) (c : Nat) (s : List S34) (gs : List (List Int)) (fam : List Int) (logs permits : List ByteArray) (orders : List Int) (began : Bool) : Prop :=
 ∃ bf bl bp bo Ag cg nf nl np no, w.heap[p]? = some (.cells #[.slice A s.length c, .slice Ag gs.length cg, .map (some bf), .map (some bl), .map (some bp), .map (some bo), .bool began] 79 (0, 0)) ∧
  SetI w bf nf fam ∧ SetS w bl nl logs ∧ SetS w bp np permits ∧ SetI w bo no orders ∧ gs.length ≤ cg ∧ Kd.F (Kd.slice 3 (Kd.int .i64)) w (fun k => k ≠ p) Ag gs.length gs
end Go.Proofs.YtjgifmakhnkmdaaGreatDoor.XRep
