/- The plain law of the lexer, over lists of bytes: what a text's lexemes are. -/
import Derived.Test.YtkkjbfhlhkpgiaaXLexx0
namespace Go.Proofs.Ytkkjbfhlhkpgiaa.Lex
open Go.RowKit Go.Proofs.Ytkkjbfhlhkpgiaa.XLex Go.Proofs.YtkkjbfhlhkpgiaaW.PrintWords Go.Proofs.YtkkjbfhlhkpgiaaW.PrintLast

set_option linter.unusedSimpArgs false
set_option linter.unusedVariables false
abbrev Bs := List UInt8
def B (l : Bs) : ByteArray := ⟨l.toArray⟩

/-! ### bytes -/
theorem B_size (l : Bs) : (B l).size = l.length := by simp [B, ByteArray.size]
theorem B_data (l : Bs) : (B l).data.toList = l := by simp [B]
theorem B_list (l : Bs) : (B l).toList = l := by rw [ByteArray.toList_eq]; exact B_data l
theorem B_of (s : ByteArray) : s = B s.data.toList := by cases s; simp [B]
theorem B_inj {a b : Bs} (h : B a = B b) : a = b := by have := congrArg (fun x : ByteArray => x.data.toList) h; simpa [B] using this
theorem B_ext (l : Bs) (i j : Nat) : (B l).extract i j = B ((l.drop i).take (j - i)) := by
  rw [B_of ((B l).extract i j), Lib.extract_data, B_data]
theorem B_drop (l : Bs) (i : Nat) : (B l).extract i (B l).size = B (l.drop i) := by
  rw [B_ext, B_size, List.take_of_length_le (by simp)]
theorem B_take (l : Bs) (j : Nat) : (B l).extract 0 j = B (l.take j) := by rw [B_ext]; simp
theorem B_app (a b : Bs) : B a ++ B b = B (a ++ b) := by
  apply ByteArray.ext
  simp [B]
theorem bt_B {l : Bs} {i : Nat} {c : UInt8} {t : Bs} (h : l.drop i = c :: t) : bt (B l) (i : Int) = (c.toNat : Int) := by
  have hi : i < l.length := by
    rcases Nat.lt_or_ge i l.length with h1 | h1
    · exact h1
    · rw [List.drop_eq_nil_of_le h1] at h; cases h
  have hc : l[i] = c := by
    have := List.drop_eq_getElem_cons hi
    rw [h] at this; exact (List.cons.inj this).1.symm
  unfold bt
  rw [dif_pos (by rw [B_size]; simpa using hi)]
  have : (B l)[(i : Int).toNat]'(by rw [B_size]; simpa using hi) = l[i] := by
    show (l.toArray)[((i : Nat) : Int).toNat] = l[i]
    simp
  rw [this, hc]
theorem byte_le (c : UInt8) : (c.toNat : Int) ≤ 255 := by have := c.toNat_lt; omega
theorem drop_next {l : Bs} {i : Nat} {c : UInt8} {t : Bs} (h : l.drop i = c :: t) : l.drop (i + 1) = t := by
  rw [← List.drop_drop, h]; rfl
theorem drop_lt {l : Bs} {i : Nat} {c : UInt8} {t : Bs} (h : l.drop i = c :: t) : i < l.length := by
  rcases Nat.lt_or_ge i l.length with h1 | h1
  · exact h1
  · rw [List.drop_eq_nil_of_le h1] at h; cases h
theorem drop_some {l : Bs} {i : Nat} (h : i < l.length) : ∃ c t, l.drop i = c :: t := ⟨_, _, List.drop_eq_getElem_cons h⟩

/-! ### answers with enough rounds -/
theorem Ev.pos {α : Type} {c : Prop} [Decidable c] {f g : Nat → Option α} {r : α} (h : c) (k : Ev f r) : Ev (fun n => if c then f n else g n) r := by
  simpa only [if_pos h] using k
theorem Ev.neg {α : Type} {c : Prop} [Decidable c] {f g : Nat → Option α} {r : α} (h : ¬ c) (k : Ev g r) : Ev (fun n => if c then f n else g n) r := by
  simpa only [if_neg h] using k
theorem Ev.bindc {α β : Type} {x : Option α} {f : Nat → α → Option β} {a : α} {r : β} (h : x = some a) (k : Ev (fun n => f n a) r) : Ev (fun n => x.bind (f n)) r := by
  subst h; exact k
theorem Ev.val {α : Type} {r r' : α} (h : r = r') : Ev (fun _ => some r) r' := h ▸ Ev.now r
theorem Ev.eq {α : Type} {g : Nat → Option α} {r r' : α} (k : Ev g r) (h : r = r') : Ev g r' := h ▸ k

/-! ### characters -/
def dig (c : UInt8) : Bool := decide (48 ≤ c.toNat) && decide (c.toNat ≤ 57)
def wrd (c : UInt8) : Bool := dig c || (decide (97 ≤ c.toNat) && decide (c.toNat ≤ 122)) || (decide (65 ≤ c.toNat) && decide (c.toNat ≤ 90)) || decide (c.toNat = 95)
def line (c : UInt8) : Bool := decide (c.toNat ≠ 10)

/-! ### blanks and remarks -/
def skipS : Bool → Bs → Nat
  | _, [] => 0
  | true, c :: t => if c.toNat = 10 then 1 + skipS false t else 1 + skipS true t
  | false, c :: t => if c.toNat = 10 ∨ c.toNat = 32 then 1 + skipS false t else if c.toNat = 35 then 1 + skipS true t else 0

/-! ### numbers -/
def num : Bs → Int → Option Int
  | [], n => some n
  | c :: t, n => if 10 * n + ((c.toNat : Int) - 48) % 256 > 1099511627776 then none else num t (10 * n + ((c.toNat : Int) - 48) % 256)
def numberS (d : Bs) : Int × Int := if d.length > 1 ∧ d.head? = some 48 then (0, 5) else match num d 0 with | none => (0, 9) | some n => (n, 0)

/-! ### marks -/
def marks2 : List Bs := [[60, 61], [62, 61], [33, 61], [46, 46]]
def marks1 : List Bs := [[60], [61], [62], [40], [41], [123], [125], [44], [59], [58], [43], [45], [42], [47], [64]]
def markS (l : Bs) : Nat := if l.take 2 ∈ marks2 then 2 else if l.take 1 ∈ marks1 then 1 else 0

/-! ### a lexeme -/
/-- kind, length, number, error of the lexeme with which a text begins -/
def firstS : Bs → Int × Nat × Int × Int
  | [] => (0, 0, 0, 5)
  | c :: t =>
    if dig c then (if (numberS ((c :: t).takeWhile dig)).2 = 0 then (2, ((c :: t).takeWhile dig).length, (numberS ((c :: t).takeWhile dig)).1, 0) else (0, 0, 0, (numberS ((c :: t).takeWhile dig)).2))
    else if wrd c then (if ((c :: t).takeWhile wrd).length > 16 then (0, 0, 0, 6) else (1, ((c :: t).takeWhile wrd).length, 0, 0))
    else if markS (c :: t) = 0 then (0, 0, 0, 5) else (3, markS (c :: t), 0, 0)

theorem firstS_cons (c : UInt8) (t : Bs) : firstS (c :: t) = if dig c then (if (numberS ((c :: t).takeWhile dig)).2 = 0 then (2, ((c :: t).takeWhile dig).length, (numberS ((c :: t).takeWhile dig)).1, 0) else (0, 0, 0, (numberS ((c :: t).takeWhile dig)).2))
    else if wrd c then (if ((c :: t).takeWhile wrd).length > 16 then (0, 0, 0, 6) else (1, ((c :: t).takeWhile wrd).length, 0, 0))
    else if markS (c :: t) = 0 then (0, 0, 0, 5) else (3, markS (c :: t), 0, 0) := rfl

/-! ### a text -/
def toks : Nat → Nat → Bs → List S32 × Int × Int
  | 0, _, _ => ([], 0, 0)
  | f + 1, at_, l =>
    if l.drop (skipS false l) = [] then ([⟨0, B [], 0, ((at_ + skipS false l : Nat) : Int)⟩], 0, 0)
    else if (firstS (l.drop (skipS false l))).2.2.2 = 0 then
      (if (toks f (at_ + skipS false l + (firstS (l.drop (skipS false l))).2.1) ((l.drop (skipS false l)).drop (firstS (l.drop (skipS false l))).2.1)).2.1 = 0 then
        (⟨(firstS (l.drop (skipS false l))).1, B ((l.drop (skipS false l)).take (firstS (l.drop (skipS false l))).2.1), (firstS (l.drop (skipS false l))).2.2.1, ((at_ + skipS false l : Nat) : Int)⟩ :: (toks f (at_ + skipS false l + (firstS (l.drop (skipS false l))).2.1) ((l.drop (skipS false l)).drop (firstS (l.drop (skipS false l))).2.1)).1, 0, 0)
      else ([], (toks f (at_ + skipS false l + (firstS (l.drop (skipS false l))).2.1) ((l.drop (skipS false l)).drop (firstS (l.drop (skipS false l))).2.1)).2))
    else ([], (firstS (l.drop (skipS false l))).2.2.2, ((at_ + skipS false l : Nat) : Int))
def scanS (l : Bs) : List S32 × Int × Int := if l.length > 8000 then ([], 4, 0) else toks (l.length + 1) 0 l

/-! ### small facts -/
theorem skipS_le : ∀ (l : Bs) (r : Bool), skipS r l ≤ l.length
  | [], r => by cases r <;> simp [skipS]
  | c :: t, true => by
    have h1 := skipS_le t true; have h2 := skipS_le t false
    simp only [skipS, List.length_cons]; split <;> omega
  | c :: t, false => by
    have h1 := skipS_le t true; have h2 := skipS_le t false
    simp only [skipS, List.length_cons]; split
    · omega
    · split <;> omega
theorem takeWhile_le (p : UInt8 → Bool) (l : Bs) : (l.takeWhile p).length ≤ l.length := (List.takeWhile_prefix p).length_le
theorem take_takeWhile (p : UInt8 → Bool) (l : Bs) : l.take (l.takeWhile p).length = l.takeWhile p := by
  exact (List.prefix_iff_eq_take.mp (List.takeWhile_prefix p)).symm
/-- in a remark: all up to the line feed -/
theorem skip_remark : ∀ l : Bs, skipS true l = (l.takeWhile line).length + skipS false (l.drop (l.takeWhile line).length)
  | [] => by simp [skipS]
  | c :: t => by
    have ih := skip_remark t
    by_cases h : c.toNat = 10
    · have hl : line c = false := by simp [line, h]
      simp only [List.takeWhile_cons, hl, Bool.false_eq_true, if_false, List.length_nil, List.drop_zero, Nat.zero_add]
      simp [skipS, h]
    · have hl : line c = true := by simp [line, h]
      simp only [List.takeWhile_cons, hl, if_true, List.length_cons, List.drop_succ_cons]
      simp only [skipS, if_neg h]; omega
theorem firstS_len {l : Bs} (h : (firstS l).2.2.2 = 0) : 0 < (firstS l).2.1 ∧ (firstS l).2.1 ≤ l.length := by
  cases l with
  | nil => simp [firstS] at h
  | cons c t =>
    rw [firstS_cons] at h ⊢
    by_cases h1 : dig c = true
    · rw [if_pos h1] at h ⊢
      by_cases h2 : (numberS ((c :: t).takeWhile dig)).2 = 0
      · rw [if_pos h2]
        refine ⟨?_, takeWhile_le _ _⟩
        simp [List.takeWhile_cons, h1]
      · rw [if_neg h2] at h; exact absurd h h2
    · rw [if_neg h1] at h ⊢
      by_cases h2 : wrd c = true
      · rw [if_pos h2] at h ⊢
        by_cases h3 : ((c :: t).takeWhile wrd).length > 16
        · rw [if_pos h3] at h; simp at h
        · rw [if_neg h3]
          refine ⟨?_, takeWhile_le _ _⟩
          simp [List.takeWhile_cons, h2]
      · rw [if_neg h2] at h ⊢
        by_cases h3 : markS (c :: t) = 0
        · rw [if_pos h3] at h; simp at h
        · rw [if_neg h3]
          refine ⟨by show 0 < markS (c :: t); omega, ?_⟩
          show markS (c :: t) ≤ _
          unfold markS
          split
          · rename_i hm
            cases t with
            | nil => simp [marks2] at hm
            | cons d t => simp
          · split <;> simp
end Go.Proofs.Ytkkjbfhlhkpgiaa.Lex
