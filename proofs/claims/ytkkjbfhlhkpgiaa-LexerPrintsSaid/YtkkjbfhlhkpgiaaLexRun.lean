/- The program's Scan computes the plain law of the lexer. -/
import Derived.Test.YtkkjbfhlhkpgiaaLexSpec
import Derived.Test.YtkkjbfhlhkpgiaaXLexx9
namespace Go.Proofs.Ytkkjbfhlhkpgiaa.Lex
open Go.RowKit Go.Proofs.Ytkkjbfhlhkpgiaa.XLex Go.Proofs.YtkkjbfhlhkpgiaaW.PrintWords Go.Proofs.YtkkjbfhlhkpgiaaW.PrintLast Go.Proofs.YtkkjbfhlhkpgiaaW.PrintMore
set_option linter.unusedSimpArgs false
set_option linter.unusedVariables false

theorem w64 {x : Int} (h0 : -9223372036854775808 ≤ x) (h1 : x ≤ 9223372036854775807) : wrap64 x = x := by unfold wrap64; omega
theorem w32b (c : UInt8) : wrap32 (c.toNat : Int) = (c.toNat : Int) := by have := c.toNat_lt; unfold wrap32; omega

theorem isDigit_b (c : UInt8) : lexer_isDigit.f (c.toNat : Int) = some (dig c) := by
  unfold lexer_isDigit.f dig
  by_cases h : 48 ≤ c.toNat
  · rw [if_pos (by omega)]; simp [h]; omega
  · rw [if_neg (by omega)]; simp [h]
theorem isWord_b (c : UInt8) : lexer_isWord.f (c.toNat : Int) = some (wrd c) := by
  unfold lexer_isWord.f
  rw [isDigit_b]
  simp only [Option.bind_some]
  unfold wrd
  by_cases hd : dig c = true
  · rw [if_pos hd]; simp [hd]
  · rw [if_neg hd]
    have e95 : (((c.toNat : Int)) == 95) = decide (c.toNat = 95) := by
      rw [Bool.eq_iff_iff]; simp; omega
    have hf : dig c = false := by simpa using hd
    by_cases h1 : 97 ≤ c.toNat
    · rw [if_pos (by omega : (97 : Int) ≤ c.toNat)]
      by_cases h2 : c.toNat ≤ 122
      · rw [if_pos (by omega : (c.toNat : Int) ≤ 122)]; simp [h1, h2]
      · rw [if_neg (by omega : ¬ (c.toNat : Int) ≤ 122), if_pos (by omega : (65 : Int) ≤ c.toNat), if_neg (by omega : ¬ (c.toNat : Int) ≤ 90), e95]
        simp [hf, h1, h2]; omega
    · rw [if_neg (by omega : ¬ (97 : Int) ≤ c.toNat)]
      by_cases h3 : 65 ≤ c.toNat
      · rw [if_pos (by omega : (65 : Int) ≤ c.toNat)]
        by_cases h4 : c.toNat ≤ 90
        · rw [if_pos (by omega : (c.toNat : Int) ≤ 90)]; simp [h3, h4]
        · rw [if_neg (by omega : ¬ (c.toNat : Int) ≤ 90), e95]; simp [hf, h1, h3, h4]
      · rw [if_neg (by omega : ¬ (65 : Int) ≤ c.toNat), e95]; simp [hf, h1, h3]
theorem isLine_b (c : UInt8) : lexer_skip_1.f (c.toNat : Int) = some (line c) := by
  unfold lexer_skip_1.f line
  congr 1
  rw [Bool.eq_iff_iff]; simp; omega

/-- how far characters of a kind go: the three loops -/
theorem span_gen (P : Int → Option Bool) (p : UInt8 → Bool) (hP : ∀ c : UInt8, P (c.toNat : Int) = some (p c)) (L : Nat → ByteArray → Int → Int → Option Int)
    (hL : ∀ k x0 x7 x8, L (k + 1) x0 x7 x8 = if x8 < x7 then (if 0 ≤ x8 then (if x8 < (x0.size : Int) then ((P (wrap32 (bt x0 x8))).bind fun t => (if t = true then (L k x0 x7 (wrap64 (x8 + 1))) else (some x8))) else (none)) else (none)) else (some (x0.size : Int)))
    (l : Bs) (hl : l.length ≤ 140737488351232) : ∀ (d i : Nat), l.length = i + d → Ev (fun k => L k (B l) ((B l).size : Int) (i : Int)) ((i + ((l.drop i).takeWhile p).length : Nat) : Int) := by
  intro d
  induction d with
  | zero =>
    intro i h
    refine Ev.step (fun k => hL k _ _ _) ?_
    rw [B_size]
    refine Ev.neg (by omega) (Ev.val ?_)
    rw [List.drop_eq_nil_of_le (by omega)]; simp; omega
  | succ d ih =>
    intro i h
    obtain ⟨c, t, hc⟩ := drop_some (l := l) (i := i) (by omega)
    refine Ev.step (fun k => hL k _ _ _) ?_
    rw [B_size]
    refine Ev.pos (by omega) (Ev.pos (by omega) (Ev.pos (by omega) ?_))
    rw [bt_B hc, w32b]
    refine Ev.bindc (hP c) ?_
    by_cases hp : p c = true
    · refine Ev.pos hp ?_
      rw [w64 (by omega) (by omega)]
      have := ih (i + 1) (by omega)
      rw [B_size] at this
      refine Ev.eq this ?_
      rw [drop_next hc, hc, List.takeWhile_cons, if_pos hp]; simp; omega
    · refine Ev.neg hp (Ev.val ?_)
      rw [hc, List.takeWhile_cons, if_neg hp]; simp
theorem len34 (l : Bs) (hl : l.length ≤ 140737488351232) : Ev (fun k => lexer_length_f34.f k (B l)) (((l.takeWhile line).length : Nat) : Int) := by
  have := span_gen lexer_skip_1.f line isLine_b lexer_length_f34.l0 (fun k _ _ _ => by simp only [lexer_length_f34.l0]) l hl l.length 0 (by omega)
  simpa [lexer_length_f34.f] using this
theorem len35 (l : Bs) (hl : l.length ≤ 140737488351232) : Ev (fun k => lexer_length_f35.f k (B l)) (((l.takeWhile dig).length : Nat) : Int) := by
  have := span_gen lexer_isDigit.f dig isDigit_b lexer_length_f35.l0 (fun k _ _ _ => by simp only [lexer_length_f35.l0]) l hl l.length 0 (by omega)
  simpa [lexer_length_f35.f] using this
theorem len37 (l : Bs) (hl : l.length ≤ 140737488351232) : Ev (fun k => lexer_length_f37.f k (B l)) (((l.takeWhile wrd).length : Nat) : Int) := by
  have := span_gen lexer_isWord.f wrd isWord_b lexer_length_f37.l0 (fun k _ _ _ => by simp only [lexer_length_f37.l0]) l hl l.length 0 (by omega)
  simpa [lexer_length_f37.f] using this

/-! ### blanks and remarks -/
theorem skip_l0 (L : Bs) (hl : L.length ≤ 140737488351232) : ∀ (d i : Nat), L.length - i < d → i ≤ L.length → Ev (fun k => lexer_skip.l0 k (B L) (i : Int)) ((i + skipS false (L.drop i) : Nat) : Int) := by
  intro d
  induction d with
  | zero => intro i h; omega
  | succ d ih =>
    intro i h hi
    refine Ev.step (fun k => by simp only [lexer_skip.l0]; rfl) ?_
    rw [B_size]
    by_cases hlt : i < L.length
    · obtain ⟨c, t, hc⟩ := drop_some hlt
      refine Ev.pos (by omega) (Ev.pos (by omega) ?_)
      rw [bt_B hc]
      have key : ∀ b : Bool, b = decide (c.toNat = 10 ∨ c.toNat = 32) → Ev (fun k => lexer_skip.j1 k (B L) (i : Int) (c.toNat : Int) b) ((i + skipS false (L.drop i) : Nat) : Int) := by
        intro b hb
        refine Ev.step (fun k => by simp only [lexer_skip.j1]; rfl) ?_
        by_cases h1 : c.toNat = 10 ∨ c.toNat = 32
        · refine Ev.pos (by simp [hb, h1]) ?_
          rw [w64 (by omega) (by omega)]
          have := ih (i + 1) (by omega) (by omega)
          refine Ev.eq this ?_
          rw [drop_next hc, hc]; simp only [skipS, if_pos h1]; omega
        · refine Ev.neg (by simp [hb, h1]) ?_
          by_cases h2 : c.toNat = 35
          · refine Ev.pos (by omega) (Ev.pos (by omega) ?_)
            rw [B_size]
            refine Ev.pos (by omega) ?_
            have hd : (B L).extract ((i : Int).toNat) L.length = B (c :: t) := by
              have := B_drop L i
              rw [B_size] at this
              rw [Int.toNat_natCast, this, hc]
            rw [hd]
            have hlen : (c :: t).length ≤ L.length := by rw [← hc]; simp
            refine Ev.bind (len34 (c :: t) (by omega)) ?_
            have hln : line c = true := by simp [line, h2]
            have hm := takeWhile_le line t
            have hT : (c :: t).length = L.length - i := by rw [← hc]; simp
            simp only [List.length_cons] at hT
            have e1 : ((c :: t).takeWhile line).length = 1 + (t.takeWhile line).length := by rw [List.takeWhile_cons, if_pos hln]; simp; omega
            rw [e1, w64 (by omega) (by omega)]
            have := ih (i + 1 + (t.takeWhile line).length) (by omega) (by omega)
            have e2 : (i : Int) + ((1 + (t.takeWhile line).length : Nat) : Int) = ((i + 1 + (t.takeWhile line).length : Nat) : Int) := by omega
            rw [e2]
            refine Ev.eq this ?_
            have e3 : L.drop (i + 1 + (t.takeWhile line).length) = t.drop (t.takeWhile line).length := by rw [← List.drop_drop, drop_next hc]
            rw [e3, hc]
            simp only [skipS, if_neg h1, if_pos h2]
            rw [skip_remark t]; omega
          · refine Ev.neg (by omega) (Ev.val ?_)
            rw [hc]; simp only [skipS, if_neg h1, if_neg h2]; omega
      by_cases h32 : c.toNat = 32
      · refine Ev.pos (by omega) (key _ ?_)
        simp [h32]
      · refine Ev.neg (by omega) (key _ ?_)
        rw [Bool.eq_iff_iff]; simp; omega
    · refine Ev.neg (by omega) (Ev.val ?_)
      rw [List.drop_eq_nil_of_le (by omega)]; simp [skipS]
theorem skip_f (l : Bs) (hl : l.length ≤ 140737488351232) : Ev (fun k => lexer_skip.f k (B l)) ((skipS false l : Nat) : Int) := by
  have := skip_l0 l hl (l.length + 1) 0 (by omega) (by omega)
  simpa [lexer_skip.f] using this

/-! ### numbers -/
theorem byte48 (c : UInt8) : 0 ≤ ((c.toNat : Int) - 48) % 256 ∧ ((c.toNat : Int) - 48) % 256 ≤ 255 := by omega
def numRes (l : Bs) : Option Int → Int × ByteArray × Int × Int × Int
  | none => (0, B [], 0, 0, 9)
  | some m => (2, B l, m, 0, 0)
theorem number_l0 (l : Bs) (hl : l.length ≤ 140737488351232) : ∀ (d i : Nat) (n : Int), l.length = i + d → 0 ≤ n → n ≤ 1099511627776 →
    Ev (fun k => lexer_number.l0 k (B l) n ((B l).size : Int) (i : Int)) (numRes l (num (l.drop i) n)) := by
  intro d
  induction d with
  | zero =>
    intro i n h h0 h1
    refine Ev.step (fun k => by simp only [lexer_number.l0]; rfl) ?_
    rw [B_size]
    refine Ev.neg (by omega) (Ev.val ?_)
    rw [List.drop_eq_nil_of_le (by omega)]; rfl
  | succ d ih =>
    intro i n h h0 h1
    obtain ⟨c, t, hc⟩ := drop_some (l := l) (i := i) (by omega)
    have hb := byte48 c
    refine Ev.step (fun k => by simp only [lexer_number.l0]; rfl) ?_
    rw [B_size]
    refine Ev.pos (by omega) (Ev.pos (by omega) (Ev.pos (by omega) ?_))
    rw [bt_B hc, w64 (x := 10 * n) (by omega) (by omega), w64 (x := 10 * n + _) (by omega) (by omega), hc]
    by_cases hg : 10 * n + ((c.toNat : Int) - 48) % 256 > 1099511627776
    · refine Ev.pos hg (Ev.val ?_)
      simp only [num, if_pos hg]; rfl
    · refine Ev.neg hg ?_
      rw [w64 (by omega) (by omega)]
      have := ih (i + 1) _ (by omega) (by omega : 0 ≤ 10 * n + ((c.toNat : Int) - 48) % 256) (by omega)
      rw [B_size] at this
      refine Ev.eq this ?_
      rw [drop_next hc]; simp only [num, if_neg hg]
theorem head48 {c : UInt8} {t : Bs} : ((c.toNat : Int) == 48) = decide ((c :: t).head? = some 48) := by
  rw [Bool.eq_iff_iff]
  simp only [List.head?_cons, beq_iff_eq, decide_eq_true_eq, Option.some.injEq]
  constructor
  · intro h; exact UInt8.toNat_inj.mp (by show c.toNat = 48; omega)
  · intro h; subst h; rfl
theorem number_f (l : Bs) (hl : l.length ≤ 140737488351232) :
    Ev (fun k => lexer_number.f k (B l)) (if (numberS l).2 = 0 then (2, B l, (numberS l).1, 0, 0) else (0, B [], 0, 0, (numberS l).2)) := by
  have hnum : Ev (fun k => lexer_number.l0 k (B l) 0 ((B l).size : Int) 0) (numRes l (num l 0)) := by
    have := number_l0 l hl l.length 0 0 (by omega) (by omega) (by omega)
    simpa using this
  have hno : ¬ (l.length > 1 ∧ l.head? = some 48) → numRes l (num l 0) = (if (numberS l).2 = 0 then (2, B l, (numberS l).1, 0, 0) else (0, B [], 0, 0, (numberS l).2)) := by
    intro hn
    unfold numberS; rw [if_neg hn]
    cases num l 0 with
    | none => simp [numRes]
    | some m => simp [numRes]
  unfold lexer_number.f
  rw [B_size]
  by_cases h1 : l.length > 1
  · refine Ev.pos (by omega) (Ev.pos (by omega) ?_)
    cases l with
    | nil => simp at h1
    | cons c t =>
      have hb : bt (B (c :: t)) 0 = (c.toNat : Int) := bt_B (l := c :: t) (i := 0) (t := t) rfl
      rw [hb, head48 (t := t)]
      refine Ev.step (fun k => by simp only [lexer_number.j0]; rfl) ?_
      by_cases h2 : (c :: t).head? = some 48
      · refine Ev.pos (by simpa using h2) (Ev.val ?_)
        have e : numberS (c :: t) = (0, 5) := by unfold numberS; rw [if_pos ⟨h1, h2⟩]
        rw [e]; rfl
      · refine Ev.neg (by simpa using h2) ?_
        exact Ev.eq hnum (hno (fun h => h2 h.2))
  · refine Ev.neg (by omega) ?_
    refine Ev.step (fun k => by simp only [lexer_number.j0]; rfl) ?_
    refine Ev.neg (by simp) ?_
    exact Ev.eq hnum (hno (fun h => h1 h.1))

/-! ### marks -/
theorem isMark_b (l : Bs) : lexer_IsMark.f (B l) = some (decide (l ∈ marks2 ++ marks1)) := by
  unfold lexer_IsMark.f
  rw [B_list]
  by_cases h : l ∈ marks2 ++ marks1
  · simp only [h, decide_true]
    simp only [marks2, marks1, List.cons_append, List.nil_append, List.mem_cons, List.not_mem_nil, or_false] at h
    rcases h with h | h | h | h | h | h | h | h | h | h | h | h | h | h | h | h | h | h | h <;> subst h <;> decide
  · simp only [h, decide_false]
    simp only [marks2, marks1, List.cons_append, List.nil_append, List.mem_cons, List.not_mem_nil, or_false, not_or] at h
    obtain ⟨h1, h2, h3, h4, h5, h6, h7, h8, h9, h10, h11, h12, h13, h14, h15, h16, h17, h18, h19⟩ := h
    simp only [h1, h2, h3, h4, h5, h6, h7, h8, h9, h10, h11, h12, h13, h14, h15, h16, h17, h18, h19, if_false]
theorem mem2 {l : Bs} (h : l.length = 2) : l ∈ marks2 ++ marks1 ↔ l ∈ marks2 := by
  simp only [List.mem_append]
  constructor
  · rintro (h1 | h1)
    · exact h1
    · simp only [marks1, List.mem_cons, List.not_mem_nil, or_false] at h1
      rcases h1 with h1 | h1 | h1 | h1 | h1 | h1 | h1 | h1 | h1 | h1 | h1 | h1 | h1 | h1 | h1 <;> subst h1 <;> simp at h
  · exact .inl
theorem mem1 {l : Bs} (h : l.length ≤ 1) : l ∈ marks2 ++ marks1 ↔ l ∈ marks1 := by
  simp only [List.mem_append]
  constructor
  · rintro (h1 | h1)
    · simp only [marks2, List.mem_cons, List.not_mem_nil, or_false] at h1
      rcases h1 with h1 | h1 | h1 | h1 <;> subst h1 <;> simp at h
    · exact h1
  · exact .inr
theorem not2 {l : Bs} (h : l.length ≤ 1) : l ∉ marks2 := by
  intro h1
  simp only [marks2, List.mem_cons, List.not_mem_nil, or_false] at h1
  rcases h1 with h1 | h1 | h1 | h1 <;> subst h1 <;> simp at h
theorem first_l0 (c : UInt8) (t : Bs) (hl : (c :: t).length ≤ 140737488351232) :
    Ev (fun k => lexer_first.l0 k (B (c :: t)) (mn 2 ((B (c :: t)).size : Int))) (if markS (c :: t) = 0 then (0, B [], 0, 0, 5) else (3, B ((c :: t).take (markS (c :: t))), 0, 0, 0)) := by
  have one : (c :: t).take 2 ∉ marks2 → Ev (fun k => lexer_first.l0 k (B (c :: t)) 1) (if markS (c :: t) = 0 then (0, B [], 0, 0, 5) else (3, B ((c :: t).take (markS (c :: t))), 0, 0, 0)) := by
    intro h2
    refine Ev.step (fun k => by simp only [lexer_first.l0]; rfl) ?_
    rw [B_size]
    refine Ev.pos (by omega) (Ev.pos (by omega) (Ev.pos (by simp; omega) ?_))
    rw [show ((1 : Int).toNat) = 1 from rfl, B_take]
    refine Ev.bindc (isMark_b _) ?_
    by_cases h1 : (c :: t).take 1 ∈ marks1
    · refine Ev.pos (by simpa using (mem1 (by simp)).mpr h1) (Ev.val ?_)
      have hm : markS (c :: t) = 1 := by unfold markS; rw [if_neg h2, if_pos h1]
      rw [hm]; simp
    · refine Ev.neg (by simpa using fun h => h1 ((mem1 (by simp)).mp h)) ?_
      rw [w64 (by omega) (by omega), show (1 : Int) - 1 = 0 from rfl]
      refine Ev.step (fun k => by simp only [lexer_first.l0]; rfl) ?_
      refine Ev.neg (by omega) (Ev.val ?_)
      have hm : markS (c :: t) = 0 := by unfold markS; rw [if_neg h2, if_neg h1]
      rw [hm]; simp; rfl
  rw [B_size]
  cases t with
  | nil =>
    have e : mn 2 (([c] : Bs).length : Int) = 1 := by simp [mn]
    rw [e]
    exact one (not2 (by simp))
  | cons d u =>
    have e : mn 2 ((c :: d :: u).length : Int) = 2 := by unfold mn; rw [if_neg (by simp; omega)]
    rw [e]
    refine Ev.step (fun k => by simp only [lexer_first.l0]; rfl) ?_
    rw [B_size]
    refine Ev.pos (by omega) (Ev.pos (by omega) (Ev.pos (by simp; omega) ?_))
    rw [show ((2 : Int).toNat) = 2 from rfl, B_take]
    refine Ev.bindc (isMark_b _) ?_
    by_cases h2 : (c :: d :: u).take 2 ∈ marks2
    · refine Ev.pos (by simpa using (mem2 (by simp)).mpr h2) (Ev.val ?_)
      have hm : markS (c :: d :: u) = 2 := by unfold markS; rw [if_pos h2]
      rw [hm]; simp
    · refine Ev.neg (by simpa using fun h => h2 ((mem2 (by simp)).mp h)) ?_
      rw [w64 (by omega) (by omega), show (2 : Int) - 1 = 1 from rfl]
      exact one h2

/-! ### a lexeme -/
theorem first_f (c : UInt8) (t : Bs) (hl : (c :: t).length ≤ 140737488351232) :
    Ev (fun k => lexer_first.f k (B (c :: t))) ((firstS (c :: t)).1, B ((c :: t).take (firstS (c :: t)).2.1), (firstS (c :: t)).2.2.1, 0, (firstS (c :: t)).2.2.2) := by
  unfold lexer_first.f
  have hb : bt (B (c :: t)) 0 = (c.toNat : Int) := bt_B (l := c :: t) (i := 0) (t := t) rfl
  rw [hb, w32b]
  refine Ev.pos (by rw [B_size]; simp) ?_
  refine Ev.bindc (isDigit_b c) ?_
  rw [firstS_cons]
  by_cases h1 : dig c = true
  · refine Ev.pos h1 ?_
    rw [if_pos h1]
    refine Ev.bind (len35 _ hl) ?_
    have hle := takeWhile_le dig (c :: t)
    refine Ev.pos (by omega) ?_
    rw [B_size]
    refine Ev.pos (by omega) ?_
    rw [Int.toNat_natCast, B_take, take_takeWhile]
    refine Ev.bind (number_f _ (by omega)) (Ev.val ?_)
    by_cases h2 : (numberS ((c :: t).takeWhile dig)).2 = 0
    · rw [if_pos h2, if_pos h2, take_takeWhile]
    · rw [if_neg h2, if_neg h2]; simp
  · refine Ev.neg h1 ?_
    rw [if_neg h1]
    refine Ev.bindc (isWord_b c) ?_
    by_cases h2 : wrd c = true
    · refine Ev.pos h2 ?_
      rw [if_pos h2]
      refine Ev.bind (len37 _ hl) ?_
      have hle := takeWhile_le wrd (c :: t)
      by_cases h3 : ((c :: t).takeWhile wrd).length > 16
      · refine Ev.pos (by omega) (Ev.val ?_)
        rw [if_pos h3]; simp; rfl
      · refine Ev.neg (by omega) (Ev.pos (by omega) ?_)
        rw [B_size]
        refine Ev.pos (by omega) (Ev.val ?_)
        rw [if_neg h3, Int.toNat_natCast, B_take]
    · refine Ev.neg h2 ?_
      rw [if_neg h2]
      refine Ev.eq (first_l0 c t hl) ?_
      by_cases h3 : markS (c :: t) = 0
      · rw [if_pos h3, if_pos h3]; simp
      · rw [if_neg h3, if_neg h3]

/-! ### a text -/
/-- what the loop still answers, with what it has -/
def withOut (out : List S32) (r : List S32 × Int × Int) : List S32 × Int × Int := if r.2.1 = 0 then (out ++ r.1, 0, 0) else ([], r.2)
theorem room_of {a p n : Nat} (h : a ≤ p) (h2 : p ≤ n) (h3 : n ≤ 8000) : a < 3518437208883 := Nat.lt_of_le_of_lt (Nat.le_trans h (Nat.le_trans h2 h3)) (by decide)
theorem scan_l0 (L : Bs) (hl : L.length ≤ 8000) : ∀ (f p : Nat) (out : List S32), L.length - p < f → p ≤ L.length → out.length ≤ p →
    Ev (fun k => lexer_Scan.l0 k (B L) out ((p + skipS false (L.drop p) : Nat) : Int)) (withOut out (toks f p (L.drop p))) := by
  intro f
  induction f with
  | zero => intro p out h; omega
  | succ f ih =>
    intro p out h hp ho
    have ho' : out.length < 3518437208883 := room_of ho hp hl
    have hsk := skipS_le (L.drop p) false
    rw [List.length_drop] at hsk
    refine Ev.step (fun k => by simp only [lexer_Scan.l0]; rfl) ?_
    rw [B_size, toks.eq_2, List.drop_drop]
    generalize skipS false (L.drop p) = m at hsk ⊢
    by_cases hlt : p + m < L.length
    · obtain ⟨c, t, hc⟩ := drop_some hlt
      refine Ev.pos (by omega) (Ev.pos (by omega) (Ev.pos (by omega) ?_))
      have hx : (B L).extract (((p + m : Nat) : Int).toNat) L.length = B (c :: t) := by
        have := B_drop L (p + m)
        rw [B_size] at this
        rw [Int.toNat_natCast, this, hc]
      rw [hx]
      clear hx
      have hT : (c :: t).length = L.length - (p + m) := by rw [← hc]; simp
      rw [hc]
      have hF := first_f c t (by omega)
      have hln := fun h => firstS_len (l := c :: t) h
      refine Ev.bind hF ?_
      clear hF
      dsimp only
      rw [if_neg (by simp)]
      generalize firstS (c :: t) = F at hln ⊢
      obtain ⟨kd, ln, nv, e⟩ := F
      dsimp only at hln ⊢
      by_cases he : e = 0
      · have hln := hln he
        refine Ev.pos he ?_
        rw [if_pos he]
        refine Ev.pos ho' ?_
        clear ho'
        have hsz : ((B ((c :: t).take ln)).size : Int) = (ln : Int) := by rw [B_size, List.length_take, Nat.min_eq_left hln.2]
        rw [hsz]
        have e1 : wrap64 (((p + m : Nat) : Int) + (ln : Int)) = ((p + m + ln : Nat) : Int) := by rw [w64 (by omega) (by omega)]; omega
        rw [e1]
        clear e1
        refine Ev.pos (by omega) ?_
        refine Ev.pos (by omega) ?_
        have hx2 : (B L).extract (((p + m + ln : Nat) : Int).toNat) L.length = B (L.drop (p + m + ln)) := by
          have := B_drop L (p + m + ln)
          rw [B_size] at this
          rw [Int.toNat_natCast, this]
        rw [hx2]
        clear hx2
        refine Ev.bind (skip_f _ (by simp; omega)) ?_
        have hs2 := skipS_le (L.drop (p + m + ln)) false
        rw [List.length_drop] at hs2
        have e3 : (c :: t).drop ln = L.drop (p + m + ln) := by rw [← hc, List.drop_drop]
        rw [e3]
        have hih := ih (p + m + ln) (out ++ [⟨kd, B ((c :: t).take ln), nv, ((p + m : Nat) : Int)⟩]) (by omega) (by omega) (by simp; omega)
        clear ih
        generalize skipS false (L.drop (p + m + ln)) = m2 at hs2 hih ⊢
        have e2 : wrap64 (((p + m + ln : Nat) : Int) + (m2 : Int)) = ((p + m + ln + m2 : Nat) : Int) := by rw [w64 (by omega) (by omega)]; omega
        rw [e2]
        clear e2
        refine Ev.eq hih ?_
        generalize toks f (p + m + ln) (L.drop (p + m + ln)) = R
        obtain ⟨xs, e', o'⟩ := R
        by_cases hr : e' = 0
        · simp [withOut, hr]
        · simp [withOut, hr]
      · refine Ev.neg he (Ev.val ?_)
        rw [if_neg he]; simp [withOut, he]
    · have e0 : p + m = L.length := by omega
      refine Ev.neg (by omega) (Ev.pos ho' (Ev.val ?_))
      rw [if_pos (List.drop_eq_nil_of_le (by omega)), e0]
      simp [withOut, B]
theorem toks_off : ∀ (f a : Nat) (l : Bs), (toks f a l).2.1 = 0 → (toks f a l).2.2 = 0 := by
  intro f
  induction f with
  | zero => intros; rfl
  | succ f ih =>
    intro a l h
    simp only [toks] at h ⊢
    split
    · rfl
    · rename_i hd
      rw [if_neg hd] at h
      split
      · rename_i he
        rw [if_pos he] at h
        split
        · rfl
        · rename_i hr
          rw [if_neg hr] at h
          exact absurd h hr
      · rename_i he
        rw [if_neg he] at h
        exact absurd h he
theorem toks_nil (f a : Nat) (l : Bs) (h : (toks f a l).2.1 ≠ 0) : (toks f a l).1 = [] := by
  cases f with
  | zero => rfl
  | succ f =>
    simp only [toks] at h ⊢
    split
    · rename_i hd; rw [if_pos hd] at h; exact absurd rfl h
    · rename_i hd
      rw [if_neg hd] at h
      split
      · rename_i he
        rw [if_pos he] at h
        split
        · rename_i hr; rw [if_pos hr] at h; exact absurd rfl h
        · rfl
      · rfl
theorem withOut_nil (f a : Nat) (l : Bs) : withOut [] (toks f a l) = toks f a l := by
  unfold withOut
  split
  · rename_i h0
    exact Prod.ext (List.nil_append _) (Prod.ext h0.symm (toks_off _ _ _ h0).symm)
  · rename_i h0
    exact Prod.ext (toks_nil _ _ _ h0).symm rfl
theorem scan_f (L : Bs) (hl : L.length ≤ 140737488351232) : Ev (fun k => lexer_Scan.f k (B L)) (scanS L) := by
  unfold lexer_Scan.f scanS
  rw [B_size]
  by_cases h : L.length > 8000
  · rw [if_pos h]; exact Ev.pos (by omega) (Ev.val rfl)
  · rw [if_neg h]
    refine Ev.neg (by omega) ?_
    refine Ev.bind (skip_f L hl) ?_
    have := scan_l0 L (by omega) (L.length + 1) 0 [] (by omega) (by omega) (by simp)
    simp only [List.drop_zero, Nat.zero_add] at this
    exact Ev.eq this (withOut_nil _ _ _)
end Go.Proofs.Ytkkjbfhlhkpgiaa.Lex
