/- Plain laws of lexemes, over lists of bytes: what follows a lexeme does not change it; a text cut ahead of an error; two texts joined. -/
import Derived.Test.YtkkjbfhlhkpgiaaLexSpec
namespace Go.Proofs.Ytkkjbfhlhkpgiaa.Lex
open Go.RowKit Go.Proofs.Ytkkjbfhlhkpgiaa.XLex Go.Proofs.YtkkjbfhlhkpgiaaW.PrintWords Go.Proofs.YtkkjbfhlhkpgiaaW.PrintLast
set_option linter.unusedSimpArgs false
set_option linter.unusedVariables false

/-! ### taking while -/
theorem tw_app (p : UInt8 → Bool) (s : UInt8) (r : Bs) (h : p s = false) : ∀ l : Bs, (l ++ s :: r).takeWhile p = l.takeWhile p
  | [] => by simp [List.takeWhile_cons, h]
  | c :: t => by
    simp only [List.cons_append, List.takeWhile_cons]
    split
    · rw [tw_app p s r h t]
    · rfl
theorem tw_take (p : UInt8 → Bool) : ∀ (l : Bs) (j : Nat), (l.takeWhile p).length ≤ j → (l.take j).takeWhile p = l.takeWhile p
  | [], j, _ => by simp
  | c :: t, j, h => by
    cases j with
    | zero =>
      have : (c :: t).takeWhile p = [] := List.eq_nil_of_length_eq_zero (by omega)
      rw [this]; simp
    | succ j =>
      simp only [List.take_succ_cons, List.takeWhile_cons] at h ⊢
      split
      · rename_i hp
        rw [if_pos hp, List.length_cons] at h
        rw [tw_take p t j (by omega)]
      · rfl

/-! ### marks -/
def isSep (s : UInt8) : Prop := s = 10 ∨ s = 32
theorem sep_not2 (c s : UInt8) (h : isSep s) : [c, s] ∉ marks2 := by
  intro hm
  simp only [marks2, List.mem_cons, List.not_mem_nil, or_false, List.cons.injEq, and_true] at hm
  rcases h with rfl | rfl <;> rcases hm with hm | hm | hm | hm <;> exact absurd hm.2 (by decide)
theorem one_not2 (c : UInt8) : [c] ∉ marks2 := by
  intro hm
  simp [marks2] at hm
theorem mark_app (c : UInt8) (t : Bs) (s : UInt8) (r : Bs) (h : isSep s) : markS (c :: t ++ s :: r) = markS (c :: t) := by
  unfold markS
  cases t with
  | nil =>
    have e : ([c] ++ s :: r).take 2 = [c, s] := rfl
    rw [e, if_neg (sep_not2 c s h)]
    have e2 : ([c] : Bs).take 2 = [c] := rfl
    rw [e2, if_neg (one_not2 c)]
    rfl
  | cons d u => rfl
theorem mark_take (c : UInt8) (t : Bs) (j : Nat) (h : markS (c :: t) ≤ j) (h0 : markS (c :: t) ≠ 0) : markS ((c :: t).take j) = markS (c :: t) := by
  have hj : 1 ≤ j := by omega
  by_cases h2 : (c :: t).take 2 ∈ marks2
  · have e : markS (c :: t) = 2 := by unfold markS; rw [if_pos h2]
    rw [e] at h ⊢
    unfold markS
    rw [List.take_take, Nat.min_eq_left h, if_pos h2]
  · by_cases hj2 : 2 ≤ j
    · unfold markS
      rw [List.take_take, Nat.min_eq_left hj2, List.take_take, Nat.min_eq_left hj]
    · have : j = 1 := by omega
      subst this
      unfold markS
      have e1 : ((c :: t).take 1).take 2 = [c] := by simp
      have e2 : ((c :: t).take 1).take 1 = (c :: t).take 1 := by simp
      rw [e1, if_neg (one_not2 c), e2, if_neg h2]

/-! ### a lexeme and what follows it -/
theorem dig_sep {s : UInt8} (h : isSep s) : dig s = false := by rcases h with rfl | rfl <;> decide
theorem wrd_sep {s : UInt8} (h : isSep s) : wrd s = false := by rcases h with rfl | rfl <;> decide
theorem first_app {l : Bs} (hl : l ≠ []) (s : UInt8) (r : Bs) (h : isSep s) : firstS (l ++ s :: r) = firstS l := by
  cases l with
  | nil => exact absurd rfl hl
  | cons c t =>
    have e : c :: t ++ s :: r = c :: (t ++ s :: r) := rfl
    have hd := tw_app dig s r (dig_sep h) (c :: t)
    have hw := tw_app wrd s r (wrd_sep h) (c :: t)
    have hm := mark_app c t s r h
    rw [e] at hd hw hm ⊢
    rw [firstS_cons, firstS_cons, hd, hw, hm]
theorem first_take {l : Bs} (he : (firstS l).2.2.2 = 0) (j : Nat) (hj : (firstS l).2.1 ≤ j) : firstS (l.take j) = firstS l := by
  cases l with
  | nil => simp
  | cons c t =>
    have hp := (firstS_len he).1
    obtain ⟨i, rfl⟩ : ∃ i, j = i + 1 := ⟨j - 1, by omega⟩
    have e : (c :: t).take (i + 1) = c :: t.take i := rfl
    rw [e, firstS_cons, firstS_cons]
    rw [firstS_cons] at hj he
    by_cases h1 : dig c = true
    · rw [if_pos h1] at hj he
      by_cases h2 : (numberS ((c :: t).takeWhile dig)).2 = 0
      · rw [if_pos h2] at hj
        have := tw_take dig (c :: t) (i + 1) hj
        rw [e] at this
        rw [if_pos h1, if_pos h1, this]
      · rw [if_neg h2] at he; exact absurd he h2
    · rw [if_neg h1] at hj he
      by_cases h2 : wrd c = true
      · rw [if_pos h2] at hj he
        by_cases h3 : ((c :: t).takeWhile wrd).length > 16
        · rw [if_pos h3] at he; simp at he
        · rw [if_neg h3] at hj
          have := tw_take wrd (c :: t) (i + 1) hj
          rw [e] at this
          rw [if_neg h1, if_neg h1, if_pos h2, if_pos h2, this]
      · rw [if_neg h2] at hj he
        by_cases h3 : markS (c :: t) = 0
        · rw [if_pos h3] at he; simp at he
        · rw [if_neg h3] at hj
          have := mark_take c t (i + 1) hj h3
          rw [e] at this
          rw [if_neg h1, if_neg h1, if_neg h2, if_neg h2, this]
theorem first_err {l : Bs} : (firstS l).2.2.2 = 0 ∨ (firstS l).2.2.2 = 5 ∨ (firstS l).2.2.2 = 6 ∨ (firstS l).2.2.2 = 9 := by
  have hn : ∀ d : Bs, (numberS d).2 = 0 ∨ (numberS d).2 = 5 ∨ (numberS d).2 = 9 := by
    intro d
    unfold numberS
    split
    · simp
    · split <;> simp
  cases l with
  | nil => simp [firstS]
  | cons c t =>
    rw [firstS_cons]
    split
    · split
      · simp
      · have := hn ((c :: t).takeWhile dig); show (numberS _).2 = 0 ∨ _; rcases this with h | h | h <;> simp [h]
    · split
      · split <;> simp
      · split <;> simp
theorem first_kind {l : Bs} (he : (firstS l).2.2.2 = 0) : (firstS l).1 ≠ 0 := by
  cases l with
  | nil => simp [firstS] at he
  | cons c t =>
    rw [firstS_cons] at he ⊢
    by_cases h1 : dig c = true
    · rw [if_pos h1] at he ⊢
      by_cases h2 : (numberS ((c :: t).takeWhile dig)).2 = 0
      · rw [if_pos h2]; simp
      · rw [if_neg h2] at he; exact absurd he h2
    · rw [if_neg h1] at he ⊢
      by_cases h2 : wrd c = true
      · rw [if_pos h2] at he ⊢
        by_cases h3 : ((c :: t).takeWhile wrd).length > 16
        · rw [if_pos h3] at he; simp at he
        · rw [if_neg h3]; simp
      · rw [if_neg h2] at he ⊢
        by_cases h3 : markS (c :: t) = 0
        · rw [if_pos h3] at he; simp at he
        · rw [if_neg h3]; simp

/-! ### blanks and remarks -/
/-- what begins no blank and no remark -/
def solid (c : UInt8) : Prop := c.toNat ≠ 10 ∧ c.toNat ≠ 32 ∧ c.toNat ≠ 35
theorem skip_solid {c : UInt8} (h : solid c) (t : Bs) : skipS false (c :: t) = 0 := by
  simp only [skipS]
  have h12 : ¬ (c.toNat = 10 ∨ c.toNat = 32) := fun h1 => h1.elim h.1 h.2.1
  rw [if_neg h12, if_neg h.2.2]
theorem skip_stop : ∀ (l : Bs) (r : Bool) {c : UInt8} {t : Bs}, l.drop (skipS r l) = c :: t → solid c
  | [], r, c, t, h => by cases r <;> simp [skipS] at h
  | b :: l, true, c, t, h => by
    simp only [skipS] at h
    split at h
    · rw [Nat.add_comm, List.drop_succ_cons] at h; exact skip_stop l false h
    · rw [Nat.add_comm, List.drop_succ_cons] at h; exact skip_stop l true h
  | b :: l, false, c, t, h => by
    simp only [skipS] at h
    split at h
    · rw [Nat.add_comm, List.drop_succ_cons] at h; exact skip_stop l false h
    · split at h
      · rw [Nat.add_comm, List.drop_succ_cons] at h; exact skip_stop l true h
      · rename_i h1 h2
        rw [List.drop_zero] at h
        injection h with hb _
        subst hb
        exact ⟨fun e => h1 (.inl e), fun e => h1 (.inr e), h2⟩
theorem skip_app (s : UInt8) (hs : s = 10) (q : Bs) : ∀ (p : Bs) (r : Bool), skipS r (p ++ s :: q) = if skipS r p < p.length then skipS r p else p.length + 1 + skipS false q
  | [], r => by subst hs; cases r <;> simp [skipS]
  | c :: t, true => by
    have h1 := skip_app s hs q t true; have h2 := skip_app s hs q t false
    simp only [List.cons_append, skipS, List.length_cons]
    split
    · rw [h2]; split <;> split <;> omega
    · rw [h1]; split <;> split <;> omega
  | c :: t, false => by
    have h1 := skip_app s hs q t true; have h2 := skip_app s hs q t false
    simp only [List.cons_append, skipS, List.length_cons]
    split
    · rw [h2]; split <;> split <;> omega
    · split
      · rw [h1]; split <;> split <;> omega
      · rw [if_pos (by omega)]
theorem skip_take : ∀ (l : Bs) (r : Bool) (j : Nat), skipS r (l.take j) = min j (skipS r l)
  | [], r, j => by cases r <;> simp [skipS]
  | c :: t, r, 0 => by cases r <;> simp [skipS]
  | c :: t, true, j + 1 => by
    have h1 := skip_take t true j; have h2 := skip_take t false j
    simp only [List.take_succ_cons, skipS]
    split
    · rw [h2]; omega
    · rw [h1]; omega
  | c :: t, false, j + 1 => by
    have h1 := skip_take t true j; have h2 := skip_take t false j
    simp only [List.take_succ_cons, skipS]
    split
    · rw [h2]; omega
    · split
      · rw [h1]; omega
      · omega

/-! ### a text: rounds, places -/
/-- one round: the end; an error; a lexeme and what follows -/
theorem toks_end {f a : Nat} {l : Bs} (h : l.drop (skipS false l) = []) : toks (f + 1) a l = ([⟨0, B [], 0, ((a + skipS false l : Nat) : Int)⟩], 0, 0) := by
  rw [toks.eq_2, if_pos h]
theorem toks_err {f a : Nat} {l : Bs} (h : l.drop (skipS false l) ≠ []) (he : (firstS (l.drop (skipS false l))).2.2.2 ≠ 0) :
    toks (f + 1) a l = ([], (firstS (l.drop (skipS false l))).2.2.2, ((a + skipS false l : Nat) : Int)) := by
  rw [toks.eq_2, if_neg h, if_neg he]
def rest (l : Bs) : Bs := (l.drop (skipS false l)).drop (firstS (l.drop (skipS false l))).2.1
def far (a : Nat) (l : Bs) : Nat := a + skipS false l + (firstS (l.drop (skipS false l))).2.1
def lexeme (a : Nat) (l : Bs) : S32 := ⟨(firstS (l.drop (skipS false l))).1, B ((l.drop (skipS false l)).take (firstS (l.drop (skipS false l))).2.1), (firstS (l.drop (skipS false l))).2.2.1, ((a + skipS false l : Nat) : Int)⟩
theorem toks_go {f a : Nat} {l : Bs} (h : l.drop (skipS false l) ≠ []) (he : (firstS (l.drop (skipS false l))).2.2.2 = 0) :
    toks (f + 1) a l = if (toks f (far a l) (rest l)).2.1 = 0 then (lexeme a l :: (toks f (far a l) (rest l)).1, 0, 0) else ([], (toks f (far a l) (rest l)).2) := by
  rw [toks.eq_2, if_neg h, if_pos he]; rfl
theorem rest_len {l : Bs} (he : (firstS (l.drop (skipS false l))).2.2.2 = 0) : (rest l).length + skipS false l + (firstS (l.drop (skipS false l))).2.1 = l.length ∧ (rest l).length < l.length := by
  have h1 := firstS_len he
  have h2 := skipS_le l false
  rw [List.length_drop] at h1
  unfold rest
  simp only [List.length_drop]
  omega
theorem toks_fuel : ∀ (f f' a : Nat) (l : Bs), l.length < f → l.length < f' → toks f a l = toks f' a l := by
  intro f
  induction f with
  | zero => intro f' a l h; omega
  | succ f ih =>
    intro f' a l h h'
    obtain ⟨g, rfl⟩ : ∃ g, f' = g + 1 := ⟨f' - 1, by omega⟩
    by_cases h0 : l.drop (skipS false l) = []
    · rw [toks_end h0, toks_end h0]
    · by_cases he : (firstS (l.drop (skipS false l))).2.2.2 = 0
      · have hr := (rest_len he).2
        rw [toks_go h0 he, toks_go h0 he, ih g (far a l) (rest l) (by omega) (by omega)]
      · rw [toks_err h0 he, toks_err h0 he]
def moved (c : Int) (r : List S32 × Int × Int) : List S32 × Int × Int := (r.1.map fun x => ⟨x.f0, x.f1, x.f2, x.f3 + c⟩, r.2.1, if r.2.1 = 0 then 0 else r.2.2 + c)
theorem toks_moved (c : Nat) : ∀ (f a : Nat) (l : Bs), toks f (a + c) l = moved (c : Int) (toks f a l) := by
  intro f
  induction f with
  | zero => intro a l; simp [toks, moved]
  | succ f ih =>
    intro a l
    by_cases h0 : l.drop (skipS false l) = []
    · rw [toks_end h0, toks_end h0]; simp [moved]; omega
    · by_cases he : (firstS (l.drop (skipS false l))).2.2.2 = 0
      · rw [toks_go h0 he, toks_go h0 he]
        have e : far (a + c) l = far a l + c := by unfold far; omega
        rw [e, ih]
        generalize toks f (far a l) (rest l) = R
        obtain ⟨xs, e1, o⟩ := R
        have el : lexeme (a + c) l = ⟨(lexeme a l).f0, (lexeme a l).f1, (lexeme a l).f2, (lexeme a l).f3 + (c : Int)⟩ := by
          unfold lexeme; simp; omega
        by_cases h1 : e1 = 0
        · simp [moved, h1, el]
        · simp [moved, h1]
      · rw [toks_err h0 he, toks_err h0 he]; simp [moved, he]; omega

/-! ### a text with an error -/
theorem toks_wrong : ∀ (f a : Nat) (l : Bs), l.length < f → (toks f a l).2.1 ≠ 0 → ∃ j, j < l.length ∧ (toks f a l).2.2 = ((a + j : Nat) : Int) ∧ (toks f a (l.take j)).2.1 = 0 ∧
    skipS false (l.drop j) = 0 ∧ l.drop j ≠ [] ∧ (firstS (l.drop j)).2.2.2 = (toks f a l).2.1 := by
  intro f
  induction f with
  | zero => intro a l h; omega
  | succ f ih =>
    intro a l hf h
    by_cases h0 : l.drop (skipS false l) = []
    · rw [toks_end h0] at h; exact absurd rfl h
    · have hlt : skipS false l < l.length := by
        rcases Nat.lt_or_ge (skipS false l) l.length with h1 | h1
        · exact h1
        · exact absurd (List.drop_eq_nil_of_le h1) h0
      obtain ⟨c, t, hc⟩ := drop_some hlt
      have hsol := skip_stop l false hc
      by_cases he : (firstS (l.drop (skipS false l))).2.2.2 = 0
      · have hr := rest_len he
        rw [toks_go h0 he] at h ⊢
        by_cases h1 : (toks f (far a l) (rest l)).2.1 = 0
        · rw [if_pos h1] at h; exact absurd rfl h
        · rw [if_neg h1] at h ⊢
          obtain ⟨j, hj, ho, htk, hsk, hne, hfe⟩ := ih (far a l) (rest l) (by omega) h1
          have hdr : l.drop (skipS false l + (firstS (l.drop (skipS false l))).2.1 + j) = (rest l).drop j := by
            unfold rest; rw [List.drop_drop, List.drop_drop, Nat.add_assoc]
          refine ⟨skipS false l + (firstS (l.drop (skipS false l))).2.1 + j, by omega, ?_, ?_, ?_, ?_, ?_⟩
          · show (toks f (far a l) (rest l)).2.2 = _
            rw [ho]; unfold far; omega
          · have hst : skipS false (l.take (skipS false l + (firstS (l.drop (skipS false l))).2.1 + j)) = skipS false l := by rw [skip_take]; omega
            have hdt : (l.take (skipS false l + (firstS (l.drop (skipS false l))).2.1 + j)).drop (skipS false l) = (l.drop (skipS false l)).take ((firstS (l.drop (skipS false l))).2.1 + j) := by
              rw [List.drop_take, Nat.add_assoc, Nat.add_sub_cancel_left]
            have hft := first_take he ((firstS (l.drop (skipS false l))).2.1 + j) (by omega)
            have hne' : (l.drop (skipS false l)).take ((firstS (l.drop (skipS false l))).2.1 + j) ≠ [] := by
              have hp := (firstS_len he).1
              rw [hc] at hp ⊢
              intro e
              have := congrArg List.length e
              rw [List.length_take] at this
              simp at this; omega
            have hrest : rest (l.take (skipS false l + (firstS (l.drop (skipS false l))).2.1 + j)) = (rest l).take j := by
              unfold rest
              rw [hst, hdt, hft, List.drop_take, Nat.add_sub_cancel_left]
            have hfar : far a (l.take (skipS false l + (firstS (l.drop (skipS false l))).2.1 + j)) = far a l := by
              unfold far
              rw [hst, hdt, hft]
            rw [toks_go (by rw [hst, hdt]; exact hne') (by rw [hst, hdt, hft]; exact he), hrest, hfar, if_pos htk]
          · rw [hdr]; exact hsk
          · rw [hdr]; exact hne
          · rw [hdr]; exact hfe
      · rw [toks_err h0 he] at h ⊢
        refine ⟨skipS false l, hlt, rfl, ?_, ?_, h0, rfl⟩
        · have hst : skipS false (l.take (skipS false l)) = skipS false l := by rw [skip_take]; omega
          rw [toks_end (by rw [hst]; exact List.drop_eq_nil_of_le (by simp [List.length_take]; omega))]
        · rw [hc]; exact skip_solid hsol t

/-! ### two texts with a line feed between them -/
def joined (r1 r2 : List S32 × Int × Int) : List S32 × Int × Int := if r1.2.1 = 0 then (if r2.2.1 = 0 then (r1.1.dropLast ++ r2.1, 0, 0) else ([], r2.2)) else ([], r1.2)
theorem toks_ne : ∀ (f a : Nat) (l : Bs), l.length < f → (toks f a l).2.1 = 0 → (toks f a l).1 ≠ [] := by
  intro f a l h he
  obtain ⟨g, rfl⟩ : ∃ g, f = g + 1 := ⟨f - 1, by omega⟩
  by_cases h0 : l.drop (skipS false l) = []
  · rw [toks_end h0]; simp
  · by_cases h1 : (firstS (l.drop (skipS false l))).2.2.2 = 0
    · rw [toks_go h0 h1] at he ⊢
      split
      · simp
      · rename_i h2; rw [if_neg h2] at he; exact absurd he h2
    · rw [toks_err h0 h1] at he; exact absurd he h1
theorem toks_nil' : ∀ (f a : Nat) (l : Bs), (toks f a l).2.1 ≠ 0 → (toks f a l).1 = [] := by
  intro f a l he
  cases f with
  | zero => rfl
  | succ g =>
    by_cases h0 : l.drop (skipS false l) = []
    · rw [toks_end h0] at he; exact absurd rfl he
    · by_cases h1 : (firstS (l.drop (skipS false l))).2.2.2 = 0
      · rw [toks_go h0 h1] at he ⊢
        split
        · rename_i h2; rw [if_pos h2] at he; exact absurd rfl he
        · rfl
      · rw [toks_err h0 h1]
theorem toks_zero : ∀ (f a : Nat) (l : Bs), (toks f a l).2.1 = 0 → (toks f a l).2.2 = 0 := by
  intro f a l he
  cases f with
  | zero => rfl
  | succ g =>
    by_cases h0 : l.drop (skipS false l) = []
    · rw [toks_end h0]
    · by_cases h1 : (firstS (l.drop (skipS false l))).2.2.2 = 0
      · rw [toks_go h0 h1] at he ⊢
        split
        · rfl
        · rename_i h2; rw [if_neg h2] at he; exact absurd he h2
      · rw [toks_err h0 h1] at he; exact absurd he h1
theorem toks_join (q : Bs) : ∀ (f a : Nat) (p : Bs), (p ++ 10 :: q).length < f → toks f a (p ++ 10 :: q) = joined (toks f a p) (toks f (a + p.length + 1) q) := by
  intro f
  induction f with
  | zero => intro a p h; omega
  | succ f ih =>
    intro a p hf
    have hlen : (p ++ 10 :: q).length = p.length + 1 + q.length := by simp; omega
    have hsk := skip_app 10 rfl q p false
    have hle := skipS_le p false
    by_cases hlt : skipS false p < p.length
    · rw [if_pos hlt] at hsk
      obtain ⟨c, t, hc⟩ := drop_some hlt
      have h0 : p.drop (skipS false p) ≠ [] := by rw [hc]; simp
      have hd : (p ++ 10 :: q).drop (skipS false p) = p.drop (skipS false p) ++ 10 :: q := by rw [List.drop_append_of_le_length (by omega)]
      have hfa := first_app h0 10 q (.inl rfl)
      have h0' : (p ++ 10 :: q).drop (skipS false (p ++ 10 :: q)) ≠ [] := by rw [hsk, hd]; simp
      by_cases he : (firstS (p.drop (skipS false p))).2.2.2 = 0
      · have hr := rest_len he
        have hfl := (firstS_len he).2
        have hrest : rest (p ++ 10 :: q) = rest p ++ 10 :: q := by
          unfold rest
          rw [hsk, hd, hfa, List.drop_append_of_le_length hfl]
        have hfar : far a (p ++ 10 :: q) = far a p := by unfold far; rw [hsk, hd, hfa]
        have hlx : lexeme a (p ++ 10 :: q) = lexeme a p := by
          unfold lexeme
          rw [hsk, hd, hfa, List.take_append_of_le_length hfl]
        have hih := ih (far a p) (rest p) (by simp only [List.length_append, List.length_cons] at hf ⊢; omega)
        have hpos : far a p + (rest p).length + 1 = a + p.length + 1 := by unfold far; omega
        rw [hpos] at hih
        rw [toks_go h0' (by rw [hsk, hd, hfa]; exact he), hrest, hfar, hlx, hih, toks_go h0 he, toks_fuel (f + 1) f (a + p.length + 1) q (by omega) (by omega)]
        have hne := toks_ne f (far a p) (rest p) (by omega)
        generalize toks f (far a p) (rest p) = R1 at hne ⊢
        generalize toks f (a + p.length + 1) q = R2
        obtain ⟨xs, e1, o1⟩ := R1
        obtain ⟨ys, e2, o2⟩ := R2
        by_cases h1 : e1 = 0
        · have hx := hne h1
          by_cases h2 : e2 = 0
          · simp [joined, h1, h2, List.dropLast_cons_of_ne_nil hx]
          · simp [joined, h1, h2]
        · simp [joined, h1]
      · rw [toks_err h0' (by rw [hsk, hd, hfa]; exact he), toks_err h0 he, hsk, hd, hfa]
        simp [joined, he]
    · rw [if_neg hlt] at hsk
      have e0 : skipS false p = p.length := by omega
      have hp : p.drop (skipS false p) = [] := List.drop_eq_nil_of_le (by omega)
      have hd : (p ++ 10 :: q).drop (skipS false (p ++ 10 :: q)) = q.drop (skipS false q) := by
        rw [hsk, show p.length + 1 + skipS false q = p.length + (1 + skipS false q) by omega, ← List.drop_drop, List.drop_left, Nat.add_comm 1, List.drop_succ_cons]
      have hat : a + skipS false (p ++ 10 :: q) = a + p.length + 1 + skipS false q := by rw [hsk]; omega
      have key : toks (f + 1) a (p ++ 10 :: q) = toks (f + 1) (a + p.length + 1) q := by
        rw [toks.eq_2, toks.eq_2, hd, hat]
      rw [key, toks_end hp]
      have hz := toks_zero (f + 1) (a + p.length + 1) q
      have hn := toks_nil' (f + 1) (a + p.length + 1) q
      generalize toks (f + 1) (a + p.length + 1) q = R at hz hn ⊢
      obtain ⟨ys, e2, o2⟩ := R
      by_cases h2 : e2 = 0
      · have := hz h2
        simp at this
        simp [joined, h2, this]
      · have := hn h2
        simp at this
        simp [joined, h2, this]
end Go.Proofs.Ytkkjbfhlhkpgiaa.Lex
