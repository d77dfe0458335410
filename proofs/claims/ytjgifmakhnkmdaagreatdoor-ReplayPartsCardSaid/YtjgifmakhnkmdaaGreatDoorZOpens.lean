import Derived.Deep.Slices
import Derived.Deep.Fields
import Derived.ChangeSame
import Derived.Test.YtjgifmakhnkmdaaGreatDoorZWWords
namespace Go.Proofs.YtjgifmakhnkmdaaGreatDoor.Opens
open Go.ChangeShapes Go.WideShapes Go.Deep Go.Proofs.YtjgifmakhnkmdaaGreatDoorW.PrintWords
set_option linter.unusedVariables false
section
variable {H : Type} (enc : TypeId × Value → H) (P : Program) (w : World) (base : Nat) (spare : Nat → Bool) (held : Bool)
def Opens {α : Type} (t : TypeId) (k : Kd α) (ok : α → Prop) : Prop :=
 ∀ fuel cs x, DataW.trod enc P w base spare held fuel t cs = some x → ∃ y : α, k.K w y cs ∧ ok y
def Chain {α : Type} (fs : List Field) (off total : Nat) (k : Kd α) (ok : α → Prop) : Prop :=
 ∀ (n : Nat) (cs : List Value), cs.length = total → (∀ (i : Nat) (f : Field), fs[i]? = some f → ∃ x, DataW.trod enc P w base spare held n f.type ((cs.drop f.offset).take (P.cellsOf f.type)) = some x) → ∃ y : α, k.K w y (cs.drop off) ∧ ok y
variable {enc P w base spare held}
theorem opens_mono {α : Type} {t : TypeId} {k : Kd α} {ok ok' : α → Prop} (h : Opens enc P w base spare held t k ok) (hh : ∀ x, ok x → ok' x) : Opens enc P w base spare held t k ok' := by
 intro fuel cs x hx
 obtain ⟨y, hK, ho⟩ := h fuel cs x hx
 exact ⟨y, hK, hh y ho⟩
theorem opens_int {t : TypeId} {k : IntKind} (ht : P.underlying t = some (.int k)) : Opens enc P w base spare held t (Kd.int k) (fun n => (Lit.int k n).wf = true) := by
 intro fuel cs x h
 obtain ⟨n, rfl, _, hw⟩ := DataW.trod_int ht h
 exact ⟨n, rfl, hw⟩
theorem opens_string {t : TypeId} (ht : P.underlying t = some .string) : Opens enc P w base spare held t Kd.string (fun s => s.size ≤ maxLen) := by
 intro fuel cs x h
 obtain ⟨s, rfl, _, hs⟩ := DataW.trod_string ht h
 exact ⟨s, rfl, hs⟩
theorem list_of {α : Type} {R : Nat → α → Prop} : ∀ n : Nat, (∀ i, i < n → ∃ y, R i y) → ∃ ys : List α, ys.length = n ∧ ∀ i y, ys[i]? = some y → R i y
 | 0, _ => ⟨[], rfl, fun i y h => by simp at h⟩
 | n + 1, h => by
  obtain ⟨ys, hl, hy⟩ := list_of n (fun i hi => h i (by omega))
  obtain ⟨z, hz⟩ := h n (by omega)
  refine ⟨ys ++ [z], by simp [hl], fun i y hi => ?_⟩
  rcases Nat.lt_or_ge i ys.length with hlt | hge
  ·rw [List.getElem?_append_left hlt] at hi; exact hy i y hi
  ·rw [List.getElem?_append_right hge] at hi
   have h0 : i - ys.length = 0 := by
    rcases Nat.eq_zero_or_pos (i - ys.length) with h0 | h0
    ·exact h0
    ·rw [List.getElem?_eq_none (by simp; omega)] at hi; cases hi
   rw [h0] at hi
   simp at hi
   subst hi
   have : i = n := by omega
   subst this
   exact hz
theorem opens_slice {α : Type} {t e : TypeId} {k : Kd α} {ok : α → Prop} (ht : P.underlying t = some (.slice e)) (hk : Opens enc P w base spare held e k ok) (hsz : P.cellsOf e = k.sz) :
  Opens enc P w base spare held t (Kd.slice e k) (fun xs => xs.length ≤ maxLen ∧ ∀ x ∈ xs, ok x) := by
 intro fuel cs x h
 rcases open_slice ht h with ⟨rfl, _⟩ | ⟨a, len, cap, m, n, D, Pl, rfl, hb, hl, hm, hmm, hx, hi⟩
 ·exact ⟨[], ⟨none, 0, rfl, Nat.le_refl _, rfl, by simp, fun h0 => by simp at h0⟩, by simp, by simp⟩
 ·have hlm : len ≤ m := by rw [hmm]; split <;> omega
  obtain ⟨ys, hyl, hy⟩ := list_of (R := fun i y => ∃ cs', w.cells? base (a.add (i * P.cellsOf e)) (P.cellsOf e) = some cs' ∧ k.K w y cs' ∧ ok y) len (fun i hlt => by
   obtain ⟨cs', hc, htr⟩ := hi i (by omega)
   obtain ⟨y, hK, ho⟩ := hk _ _ _ htr
   exact ⟨y, cs', hc, hK, ho⟩)
  subst hyl
  refine ⟨ys, ⟨some a, cap, rfl, hl, rfl, Nat.le_trans hl hm, fun h0 => ⟨a, rfl, fun j p hj => ?_⟩⟩, Nat.le_trans hl hm, fun x hx' => ?_⟩
  ·obtain ⟨cs', hc, hK, _⟩ := hy j p hj
   obtain ⟨_, hcl, hat⟩ := World.cells?_some hc
   refine ⟨cs', k.K_len hK, hK, fun i u hu => ?_⟩
   have hlt : i < P.cellsOf e := by
    rcases Nat.lt_or_ge i cs'.length with h1 | h1
    ·omega
    ·rw [List.getElem?_eq_none h1] at hu; cases hu
   have := hat i hlt
   rw [← hsz, ← Go.Deep.add_add, this, hu]
  ·obtain ⟨i, hlt, rfl⟩ := List.mem_iff_getElem.mp hx'
   obtain ⟨_, _, _, ho⟩ := hy i _ (List.getElem?_eq_getElem hlt)
   exact ho
theorem chain_last {α : Type} {f : Field} {off total : Nat} {k : Kd α} {ok : α → Prop} (hk : Opens enc P w base spare held f.type k ok) (ho : f.offset = off) (htot : total = off + P.cellsOf f.type) : Chain enc P w base spare held [f] off total k ok := by
 intro n cs hl h
 obtain ⟨x, hx⟩ := h 0 f rfl
 obtain ⟨y, hK, hok⟩ := hk _ _ _ hx
 refine ⟨y, ?_, hok⟩
 rw [ho, List.take_of_length_le (by simp; omega)] at hK
 exact hK
theorem chain_cons {α β : Type} {f : Field} {fs : List Field} {off off' total : Nat} {k : Kd α} {k' : Kd β} {ok : α → Prop} {ok' : β → Prop} (hk : Opens enc P w base spare held f.type k ok) (ho : f.offset = off) (ho' : off' = off + P.cellsOf f.type)
  (hc : Chain enc P w base spare held fs off' total k' ok') : Chain enc P w base spare held (f :: fs) off total (Kd.pair k k') (fun p => ok p.1 ∧ ok' p.2) := by
 intro n cs hl h
 obtain ⟨x, hx⟩ := h 0 f rfl
 obtain ⟨y, hK, hok⟩ := hk _ _ _ hx
 obtain ⟨y', hK', hok'⟩ := hc n cs hl (fun i g hg => h (i + 1) g (by simpa using hg))
 refine ⟨(y, y'), ⟨_, _, ?_, hK, hK'⟩, hok, hok'⟩
 rw [ho, ho', ← List.drop_drop, List.take_append_drop]
theorem opens_struct {α β : Type} {t : TypeId} {fs : Array Field} {k : Kd α} {ok : α → Prop} (ht : P.underlying t = some (.struct fs)) (hc : Chain enc P w base spare held fs.toList 0 (P.cellsOf t) k ok) (f : β → α) (g : α → β) (hfg : ∀ a, f (g a) = a) :
  Opens enc P w base spare held t (Kd.iso k f) (fun b => ok (f b)) := by
 intro fuel cs x h
 obtain ⟨xs, n, _, _, hl, hxl, hf⟩ := DataW.trod_struct ht h
 obtain ⟨y, hK, hok⟩ := hc n cs hl (fun i fd hi => by
  rw [Array.getElem?_toList] at hi
  have := hf i fd hi
  have hlt : i < xs.length := by
   rw [hxl]; exact (Array.getElem?_eq_some_iff.1 hi).1
  rw [List.getElem?_eq_getElem hlt] at this
  exact ⟨_, this⟩)
 refine ⟨g y, ?_, ?_⟩
 ·show k.K w (f (g y)) cs
  rw [hfg]; exact hK
 ·show ok (f (g y))
  rw [hfg]; exact hok
end
end Go.Proofs.YtjgifmakhnkmdaaGreatDoor.Opens
