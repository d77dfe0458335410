/- For every text, the printed lexemes are read as the same lexemes, and print the same; the examples hold. No condition on the input: the whole statement LexerAgainSaid. -/
import Derived.Test.YtkkjbfhlhkpgiaaXLexx27
import Derived.Test.YtkkjbfhlhkpgiaaLexPrint
import Derived.Test.YtkkjbfhlhkpgiaaLexLaws
namespace Go.Proofs.Ytkkjbfhlhkpgiaa.Pure
open Go.RowKit Go.Proofs.Ytkkjbfhlhkpgiaa.XLex Go.Proofs.YtkkjbfhlhkpgiaaW.PrintWords Go.Proofs.YtkkjbfhlhkpgiaaW.PrintLast Go.Proofs.Ytkkjbfhlhkpgiaa.Lex
set_option linter.unusedSimpArgs false
set_option linter.unusedVariables false

/-- a word that is one lexeme -/
def Word (w : Bs) : Prop := (firstS w).2.2.2 = 0 ∧ (firstS w).2.1 = w.length
theorem Word.ne {w : Bs} (h : Word w) : w ≠ [] := by
  intro e
  subst e
  simp [Word, firstS] at h
theorem Word.skip {w : Bs} (h : Word w) (r : Bs) : skipS false (w ++ r) = 0 := by
  cases w with
  | nil => exact absurd rfl h.ne
  | cons c t =>
    refine skip_solid ?_ _
    have he := h.1
    have hnot : ∀ n : Nat, c.toNat = n → (n = 10 ∨ n = 32 ∨ n = 35) → False := by
      intro n hn h3
      have hc : c = 10 ∨ c = 32 ∨ c = 35 := by
        rcases h3 with h3 | h3 | h3
        · exact .inl (UInt8.toNat_inj.mp (by rw [hn, h3]; rfl))
        · exact .inr (.inl (UInt8.toNat_inj.mp (by rw [hn, h3]; rfl)))
        · exact .inr (.inr (UInt8.toNat_inj.mp (by rw [hn, h3]; rfl)))
      have hd : dig c = false := by rcases hc with rfl | rfl | rfl <;> decide
      have hw : wrd c = false := by rcases hc with rfl | rfl | rfl <;> decide
      have hm : markS (c :: t) = 0 := by
        unfold markS
        have h2 : (c :: t).take 2 ∉ marks2 := by
          intro hmem
          simp only [marks2, List.mem_cons, List.not_mem_nil, or_false] at hmem
          cases t with
          | nil => simp at hmem
          | cons d u =>
            simp only [List.take_succ_cons, List.take_zero, List.cons.injEq, and_true] at hmem
            rcases hc with rfl | rfl | rfl <;> rcases hmem with hm | hm | hm | hm <;> exact absurd hm.1 (by decide)
        have h1 : (c :: t).take 1 ∉ marks1 := by
          simp only [List.take_succ_cons, List.take_zero]
          rcases hc with rfl | rfl | rfl <;> decide
        rw [if_neg h2, if_neg h1]
      rw [firstS_cons, hd, hw, hm] at he
      simp at he
    exact ⟨fun e => hnot 10 e (.inl rfl), fun e => hnot 32 e (.inr (.inl rfl)), fun e => hnot 35 e (.inr (.inr rfl))⟩

/-- lexemes that stand for words -/
def Told (x : S32) (w : Bs) : Prop := x.f0 = (firstS w).1 ∧ x.f1 = B w ∧ x.f2 = (firstS w).2.2.1
inductive Tells : List S32 → List Bs → Prop
  | done (e : S32) (h0 : e.f0 = 0) (h1 : e.f1 = B []) (h2 : e.f2 = 0) : Tells [e] []
  | more (x : S32) (xs : List S32) (w : Bs) (ws : List Bs) (hx : Told x w) (hw : Word w) (h : Tells xs ws) : Tells (x :: xs) (w :: ws)
def total : List Bs → Nat
  | [] => 0
  | w :: ws => w.length + total ws

theorem toks_tells : ∀ (f a : Nat) (l : Bs), l.length < f → (toks f a l).2.1 = 0 → ∃ ws, Tells (toks f a l).1 ws ∧ total ws ≤ l.length ∧ ws.length ≤ l.length := by
  intro f
  induction f with
  | zero => intro a l h; omega
  | succ f ih =>
    intro a l hf he0
    by_cases h0 : l.drop (skipS false l) = []
    · rw [toks_end h0]
      exact ⟨[], .done _ rfl rfl rfl, by simp [total], by simp⟩
    · by_cases he : (firstS (l.drop (skipS false l))).2.2.2 = 0
      · have hr := rest_len he
        have hfl := firstS_len he
        rw [toks_go h0 he] at he0 ⊢
        by_cases h1 : (toks f (far a l) (rest l)).2.1 = 0
        · rw [if_pos h1]
          obtain ⟨ws, ht, hs, hn⟩ := ih (far a l) (rest l) (by omega) h1
          have hft := first_take he (firstS (l.drop (skipS false l))).2.1 (Nat.le_refl _)
          have hwl : ((l.drop (skipS false l)).take (firstS (l.drop (skipS false l))).2.1).length = (firstS (l.drop (skipS false l))).2.1 := by
            rw [List.length_take, Nat.min_eq_left hfl.2]
          refine ⟨(l.drop (skipS false l)).take (firstS (l.drop (skipS false l))).2.1 :: ws, .more _ _ _ _ ?_ ?_ ht, ?_, ?_⟩
          · refine ⟨?_, rfl, ?_⟩
            · rw [hft]; rfl
            · rw [hft]; rfl
          · refine ⟨?_, ?_⟩
            · rw [hft]; exact he
            · rw [hft, hwl]
          · simp only [total]; rw [hwl]; omega
          · simp only [List.length_cons]; omega
        · rw [if_neg h1] at he0; exact absurd he0 h1
      · rw [toks_err h0 he] at he0; exact absurd he0 he

/-- words with a space between each two -/
def line : List Bs → Bs
  | [] => []
  | [w] => w
  | w :: v :: ws => w ++ 32 :: line (v :: ws)
theorem line_len : ∀ ws : List Bs, (line ws).length ≤ total ws + ws.length
  | [] => by simp [line, total]
  | [w] => by simp [line, total]
  | w :: v :: ws => by
    have := line_len (v :: ws)
    simp only [line, total, List.length_append, List.length_cons] at this ⊢
    omega
theorem blank_first (f a : Nat) (l : Bs) : toks (f + 1) a (32 :: l) = toks (f + 1) (a + 1) l := by
  have hs : skipS false (32 :: l) = 1 + skipS false l := by
    simp only [skipS]
    rw [if_pos (.inr rfl)]
  have hd : (32 :: l).drop (skipS false (32 :: l)) = l.drop (skipS false l) := by rw [hs, Nat.add_comm, List.drop_succ_cons]
  rw [toks.eq_2, toks.eq_2, hd, hs, show a + (1 + skipS false l) = a + 1 + skipS false l by omega]
theorem tells_again : ∀ (ws : List Bs) (f a : Nat), (∀ w ∈ ws, Word w) → (line ws).length < f → (toks f a (line ws)).2.1 = 0 ∧ Tells (toks f a (line ws)).1 ws
  | [], f, a, _, hf => by
    obtain ⟨g, rfl⟩ : ∃ g, f = g + 1 := ⟨f - 1, by omega⟩
    have h0 : (line []).drop (skipS false (line [])) = [] := by simp [line]
    rw [toks_end h0]
    exact ⟨rfl, .done _ rfl rfl rfl⟩
  | [w], f, a, hw, hf => by
    obtain ⟨g, rfl⟩ : ∃ g, f = g + 1 := ⟨f - 1, by omega⟩
    have hW := hw w (by simp)
    have hs : skipS false w = 0 := by have := hW.skip []; simpa using this
    have hd : w.drop (skipS false w) = w := by rw [hs]; rfl
    have hr : rest w = [] := by unfold rest; rw [hd, hW.2]; exact List.drop_eq_nil_of_le (Nat.le_refl _)
    have hpos := List.length_pos_iff.mpr hW.ne
    show (toks (g + 1) a w).2.1 = 0 ∧ Tells (toks (g + 1) a w).1 [w]
    rw [toks_go (by rw [hd]; exact hW.ne) (by rw [hd]; exact hW.1), hr]
    obtain ⟨g2, rfl⟩ : ∃ g2, g = g2 + 1 := ⟨g - 1, by simp only [line] at hf; omega⟩
    rw [toks_end (l := []) (by simp)]
    refine ⟨rfl, .more _ _ _ _ ?_ hW (.done _ rfl rfl rfl)⟩
    refine ⟨?_, ?_, ?_⟩
    · show (firstS (w.drop (skipS false w))).1 = _; rw [hd]
    · show B ((w.drop (skipS false w)).take (firstS (w.drop (skipS false w))).2.1) = _; rw [hd, hW.2, List.take_length]
    · show (firstS (w.drop (skipS false w))).2.2.1 = _; rw [hd]
  | w :: v :: ws, f, a, hw, hf => by
    obtain ⟨g, rfl⟩ : ∃ g, f = g + 1 := ⟨f - 1, by omega⟩
    have hW := hw w (by simp)
    have hl : line (w :: v :: ws) = w ++ 32 :: line (v :: ws) := rfl
    rw [hl] at hf ⊢
    have hs : skipS false (w ++ 32 :: line (v :: ws)) = 0 := hW.skip _
    have hd : (w ++ 32 :: line (v :: ws)).drop (skipS false (w ++ 32 :: line (v :: ws))) = w ++ 32 :: line (v :: ws) := by rw [hs]; rfl
    have hfa := first_app hW.ne 32 (line (v :: ws)) (.inr rfl)
    have hr : rest (w ++ 32 :: line (v :: ws)) = 32 :: line (v :: ws) := by unfold rest; rw [hd, hfa, hW.2, List.drop_left]
    have hpos := List.length_pos_iff.mpr hW.ne
    simp only [List.length_append, List.length_cons] at hf
    obtain ⟨g2, rfl⟩ : ∃ g2, g = g2 + 1 := ⟨g - 1, by omega⟩
    rw [toks_go (by rw [hd]; simp) (by rw [hd, hfa]; exact hW.1), hr, blank_first]
    obtain ⟨h1, h2⟩ := tells_again (v :: ws) (g2 + 1) (far a (w ++ 32 :: line (v :: ws)) + 1) (fun x hx => hw x (by simp only [List.mem_cons] at hx ⊢; exact .inr hx)) (by omega)
    rw [if_pos h1]
    refine ⟨rfl, .more _ _ _ _ ?_ hW h2⟩
    refine ⟨?_, ?_, ?_⟩
    · show (firstS ((w ++ 32 :: line (v :: ws)).drop (skipS false (w ++ 32 :: line (v :: ws))))).1 = _; rw [hd, hfa]
    · show B (((w ++ 32 :: line (v :: ws)).drop (skipS false (w ++ 32 :: line (v :: ws)))).take (firstS ((w ++ 32 :: line (v :: ws)).drop (skipS false (w ++ 32 :: line (v :: ws))))).2.1) = _
      rw [hd, hfa, hW.2, List.take_left]
    · show (firstS ((w ++ 32 :: line (v :: ws)).drop (skipS false (w ++ 32 :: line (v :: ws))))).2.2.1 = _; rw [hd, hfa]

theorem Tells.words {xs : List S32} {ws : List Bs} (h : Tells xs ws) : ∀ w ∈ ws, Word w := by
  induction h with
  | done => simp
  | more x xs w ws hx hw _ ih =>
    intro v hv
    rcases List.mem_cons.mp hv with rfl | hv
    · exact hw
    · exact ih v hv
theorem Tells.texts {xs : List S32} {ws : List Bs} (h : Tells xs ws) : Lex.texts xs = ws.map B := by
  induction h with
  | done e h0 => simp [Lex.texts, h0]
  | more x xs w ws hx hw _ ih =>
    have hk : x.f0 ≠ 0 := by rw [hx.1]; exact first_kind hw.1
    simp only [Lex.texts, if_neg hk, ih, List.map_cons, hx.2.1]
theorem Tells.alike {xs ys : List S32} {ws : List Bs} (h : Tells xs ws) (h' : Tells ys ws) : alikes xs ys = true := by
  induction h generalizing ys with
  | done e h0 h1 h2 =>
    cases h' with
    | done e' h0' h1' h2' => simp [alikes, Lex.alike, h0, h0', h1, h1', h2, h2']
  | more x xs w ws hx hw _ ih =>
    cases h' with
    | more y ys w' ws' hy hw' h2 =>
      simp only [alikes, ih h2, Bool.and_true]
      unfold Lex.alike
      rw [hx.1, hx.2.1, hx.2.2, hy.1, hy.2.1, hy.2.2]; simp
theorem Tells.len {xs : List S32} {ws : List Bs} (h : Tells xs ws) : xs.length = ws.length + 1 := by
  induction h with
  | done => rfl
  | more x xs w ws _ _ _ ih => simp [ih]
theorem line_tail : ∀ (ws : List Bs) (w : Bs), line (w :: ws) = w ++ Lib.joinTail [32] ws
  | [], w => by simp [line, Lib.joinTail]
  | v :: ws, w => by
    have := line_tail ws v
    have e : Lib.joinTail [32] (v :: ws) = 32 :: (v ++ Lib.joinTail [32] ws) := by simp [Lib.joinTail]
    rw [e, ← this]; rfl
theorem joinB_line (ws : List Bs) : joinB (ws.map B) = line ws := by
  have e : (ws.map B).map (·.data.toList) = ws := by
    rw [List.map_map]
    conv => rhs; rw [← List.map_id ws]
    exact List.map_congr_left (fun x _ => B_data x)
  unfold joinB
  rw [e]
  cases ws with
  | nil => rfl
  | cons w ws => rw [Lib.join_cons, line_tail]

theorem LexerAgain : sawmilllaw06_LexerAgain.Pure := by
  intro s hs
  obtain ⟨L, rfl⟩ : ∃ L, s = B L := ⟨_, B_of s⟩
  rw [B_size] at hs
  refine Ev.rounds (r := true) ?_
  unfold sawmilllaw06_LexerAgain.f
  rw [B_size]
  by_cases h : L.length > 3000
  · exact Ev.pos (by omega) awake_then
  · refine Ev.neg (by omega) ?_
    refine Ev.bind (scan_f L hs) ?_
    have e0 : scanS L = toks (L.length + 1) 0 L := by unfold scanS; rw [if_neg (by omega)]
    rw [e0]
    by_cases he : (toks (L.length + 1) 0 L).2.1 = 0
    · obtain ⟨ws, ht, hsum, hn⟩ := toks_tells (L.length + 1) 0 L (by omega) he
      have hlen := ht.len
      refine Ev.pos he ?_
      have hll := line_len ws
      have hline : (line ws).length ≤ 6000 := by omega
      have hjl : ∀ xs, Tells xs ws → (joinB (Lex.texts xs)).length ≤ 140737488355328 := by
        intro xs hx
        rw [hx.texts, joinB_line]
        exact Nat.le_trans hline (by decide)
      have hp : ∀ xs, Tells xs ws → Ev (fun k => lexer_Print.f k xs) (B (line ws)) := by
        intro xs hx
        have hxl := hx.len
        have := print_f xs (by omega) (hjl xs hx)
        rw [hx.texts, joinB_line] at this; exact this
      refine Ev.bind (hp _ ht) ?_
      refine Ev.bind (scan_f (line ws) (Nat.le_trans hline (by decide))) ?_
      have e1 : scanS (line ws) = toks ((line ws).length + 1) 0 (line ws) := by unfold scanS; rw [if_neg (by omega)]
      rw [e1]
      obtain ⟨h1, h2⟩ := tells_again ws ((line ws).length + 1) 0 ht.words (by omega)
      refine Ev.pos h1 ?_
      refine Ev.bind (same_f _ _ (by omega)) ?_
      refine Ev.pos (ht.alike h2) ?_
      refine Ev.bind (hp _ h2) ?_
      exact Ev.pos rfl awake_then
    · exact Ev.neg he awake_then

end Go.Proofs.Ytkkjbfhlhkpgiaa.Pure
