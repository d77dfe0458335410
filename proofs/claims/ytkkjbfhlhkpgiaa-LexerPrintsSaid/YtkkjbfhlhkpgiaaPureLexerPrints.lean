/- For every two lists of lexemes, Print and Same return what the document says, and a list is the same as itself; the examples hold. No condition on the input: the whole statement LexerPrintsSaid. -/
import Derived.Test.YtkkjbfhlhkpgiaaXLexx22
import Derived.Test.YtkkjbfhlhkpgiaaLexPrint
namespace Go.Proofs.Ytkkjbfhlhkpgiaa.Pure
open Go.RowKit Go.Proofs.Ytkkjbfhlhkpgiaa.XLex Go.Proofs.YtkkjbfhlhkpgiaaW.PrintWords Go.Proofs.YtkkjbfhlhkpgiaaW.PrintLast Go.Proofs.Ytkkjbfhlhkpgiaa.Lex
set_option linter.unusedSimpArgs false
set_option linter.unusedVariables false

theorem wrap_in {i n : Nat} (h : i < n) (hn : n ≤ 9223372036854775807) : wrap64 ((i : Int) + 1) = ((i + 1 : Nat) : Int) := by rw [w64 (by omega) (by omega)]; omega
/-- is a list too great: some text is, or the list is -/
def great (l : List S32) : Bool := l.any (fun x => decide (x.f1.size > 200)) || decide (l.length > 60)
theorem great_l0 (l : List S32) (hl : l.length ≤ 9223372036854775807) : ∀ (d i : Nat), l.length = i + d →
    Ev (fun k => sawmilllaw06_great.l0 k l (i : Int)) ((l.drop i).any (fun x => decide (x.f1.size > 200)) || decide (l.length > 60)) := by
  intro d
  induction d with
  | zero =>
    intro i h
    refine Ev.step (fun k => by simp only [sawmilllaw06_great.l0]; rfl) ?_
    refine Ev.neg (by omega) (Ev.val ?_)
    rw [List.drop_eq_nil_of_le (by omega)]
    simp only [List.any_nil, Bool.false_or]
    rw [decide_eq_decide]; omega
  | succ d ih =>
    intro i h
    have hi : i < l.length := by omega
    refine Ev.step (fun k => by simp only [sawmilllaw06_great.l0]; rfl) ?_
    rw [rd_is l i hi, wrap_in hi hl, List.drop_eq_getElem_cons hi, List.any_cons]
    refine Ev.pos (by omega) (Ev.pos (by omega) ?_)
    by_cases hg : l[i].f1.size > 200
    · refine Ev.pos (by omega) (Ev.val ?_)
      simp [hg]
    · refine Ev.neg (by omega) (Ev.eq (ih (i + 1) (by omega)) ?_)
      simp [hg]
theorem great_f (l : List S32) (hl : l.length ≤ 9223372036854775807) : Ev (fun k => sawmilllaw06_great.f k l) (great l) :=
  great_l0 l hl l.length 0 (by omega)

/-! ### the reference's Print and Same -/
theorem joinB_snoc (ws : List ByteArray) (v : ByteArray) : joinB (ws ++ [v]) = if ws = [] then v.data.toList else joinB ws ++ [32] ++ v.data.toList := by
  cases ws with
  | nil => simp [joinB, Lib.join_one]
  | cons w ws =>
    rw [if_neg (by simp)]
    unfold joinB
    rw [List.map_append, List.map_cons, List.cons_append, Lib.join_cons, Lib.join_cons]
    simp [Lib.joinTail, List.map_append]
theorem joinB_len : ∀ ws : List ByteArray, (∀ x ∈ ws, x.size ≤ 200) → (joinB ws).length ≤ 201 * ws.length := by
  intro ws h
  cases ws with
  | nil => simp [joinB, Lib.join_nil]
  | cons w ws =>
    unfold joinB
    rw [List.map_cons, Lib.join_length]
    have : ∀ vs : List ByteArray, (∀ x ∈ vs, x.size ≤ 200) → Lib.lens (vs.map (·.data.toList)) ≤ 200 * vs.length := by
      intro vs
      induction vs with
      | nil => intro _; simp [Lib.lens]
      | cons v vs ih =>
        intro hv
        have h1 := hv v (by simp)
        have h2 := ih (fun x hx => hv x (by simp [hx]))
        rw [Lib.size_eq] at h1
        simp only [Lib.lens, List.map_cons, List.length_cons, List.sum_cons] at h2 ⊢
        omega
    have h1 := this (w :: ws) h
    simp only [List.map_cons, List.length_cons, List.length_map, List.length_nil] at h1 ⊢
    omega
theorem rprint_l0 (l : List S32) (hl : l.length ≤ 60) (hs : ∀ x ∈ l, x.f1.size ≤ 200) : ∀ (d i : Nat) (ws : List ByteArray), l.length = i + d → ws.length ≤ i → (∀ x ∈ ws, x.size ≤ 200) →
    Ev (fun k => sawmillref06_Print.l0 k l (B (joinB ws)) (decide (ws ≠ [])) (i : Int)) (B (joinB (ws ++ texts (l.drop i)))) := by
  intro d
  induction d with
  | zero =>
    intro i ws h hw hws
    refine Ev.step (fun k => by simp only [sawmillref06_Print.l0]; rfl) ?_
    refine Ev.neg (by omega) (Ev.val ?_)
    rw [List.drop_eq_nil_of_le (by omega)]; simp [texts]
  | succ d ih =>
    intro i ws h hw hws
    have hi : i < l.length := by omega
    have hmem : l[i].f1.size ≤ 200 := hs _ (List.getElem_mem hi)
    have hjl := joinB_len ws hws
    have e1 : l[i].f1 = B l[i].f1.data.toList := B_of _
    have e2 : (⟨#[32]⟩ : ByteArray) = B [32] := rfl
    refine Ev.step (fun k => by simp only [sawmillref06_Print.l0]; rfl) ?_
    rw [rd_is l i hi, w_succ i (by omega), List.drop_eq_getElem_cons hi]
    refine Ev.pos (by omega) (Ev.pos (by omega) ?_)
    by_cases h0 : l[i].f0 = 0
    · refine Ev.pos h0 (Ev.eq (ih (i + 1) ws (by omega) (by omega) hws) ?_)
      simp [texts, h0]
    · refine Ev.neg h0 ?_
      have hnext := ih (i + 1) (ws ++ [l[i].f1]) (by omega) (by simp; omega) (fun x hx => by
        rcases List.mem_append.mp hx with hx | hx
        · exact hws x hx
        · rw [List.mem_singleton.mp hx]; exact hmem)
      have et : ws ++ texts (l[i] :: l.drop (i + 1)) = (ws ++ [l[i].f1]) ++ texts (l.drop (i + 1)) := by simp [texts, h0]
      rw [et]
      have ed : decide (ws ++ [l[i].f1] ≠ []) = true := by simp
      rw [ed, joinB_snoc] at hnext
      have hsz : l[i].f1.data.toList.length ≤ 200 := by rw [← Lib.size_eq]; exact hmem
      by_cases hw0 : ws = []
      · subst hw0
        rw [if_pos rfl] at hnext
        refine Ev.neg (by simp) (Ev.pos ?_ ?_)
        · rw [B_size]; simp only [joinB, List.map_nil, Lib.join_nil, List.length_nil]; omega
        · have e3 : B (joinB []) ++ l[i].f1 = B l[i].f1.data.toList := by
            conv => lhs; rw [e1]
            rw [B_app]; rfl
          rw [e3]; exact hnext
      · rw [if_neg hw0] at hnext
        refine Ev.pos (by simp [hw0]) (Ev.pos ?_ (Ev.pos ?_ ?_))
        · rw [B_size]; omega
        · rw [e2, B_app, B_size, List.length_append]; simp only [List.length_cons, List.length_nil]; omega
        · have e3 : B (joinB ws) ++ (⟨#[32]⟩ : ByteArray) ++ l[i].f1 = B (joinB ws ++ [32] ++ l[i].f1.data.toList) := by
            conv => lhs; rw [e1]
            rw [e2, B_app, B_app]
          rw [e3]; exact hnext
theorem rprint_f (l : List S32) (hl : l.length ≤ 60) (hs : ∀ x ∈ l, x.f1.size ≤ 200) : Ev (fun k => sawmillref06_Print.f k l) (B (joinB (texts l))) := by
  have := rprint_l0 l hl hs l.length 0 [] (by omega) (by simp) (by simp)
  simp only [List.drop_zero, List.nil_append] at this
  exact this
theorem rsame_l0 (a b : List S32) (ha : a.length ≤ 60) (hab : a.length = b.length) : ∀ (d i : Nat), a.length = i + d →
    Ev (fun k => sawmillref06_Same.l0 k a b (i : Int)) (alikes (a.drop i) (b.drop i)) := by
  intro d
  induction d with
  | zero =>
    intro i h
    refine Ev.step (fun k => by simp only [sawmillref06_Same.l0]; rfl) ?_
    refine Ev.neg (by omega) (Ev.val ?_)
    rw [List.drop_eq_nil_of_le (by omega), List.drop_eq_nil_of_le (by omega)]; rfl
  | succ d ih =>
    intro i h
    have hi : i < a.length := by omega
    have hi2 : i < b.length := by omega
    refine Ev.step (fun k => by simp only [sawmillref06_Same.l0]; rfl) ?_
    rw [rd_is a i hi, rd_is b i hi2, w_succ i (by omega), List.drop_eq_getElem_cons hi, List.drop_eq_getElem_cons hi2]
    refine Ev.pos (by omega) (Ev.pos (by omega) (Ev.pos (by omega) ?_))
    by_cases h0 : a[i].f0 = b[i].f0
    · refine Ev.pos h0 ?_
      by_cases h1 : a[i].f1.toList = b[i].f1.toList
      · refine Ev.pos h1 ?_
        by_cases h2 : a[i].f2 = b[i].f2
        · refine Ev.pos h2 (Ev.eq (ih (i + 1) (by omega)) ?_)
          simp [alikes, alike, h0, h1, h2]
        · refine Ev.neg h2 (Ev.val ?_)
          simp [alikes, alike, h2]
      · refine Ev.neg h1 (Ev.val ?_)
        simp [alikes, alike, h1]
    · refine Ev.neg h0 (Ev.val ?_)
      simp [alikes, alike, h0]
theorem rsame_f (a b : List S32) (ha : a.length ≤ 60) : Ev (fun k => sawmillref06_Same.f k a b) (alikes a b) := by
  unfold sawmillref06_Same.f
  by_cases h : (a.length : Int) = (b.length : Int)
  · exact Ev.pos h (rsame_l0 a b ha (by omega) a.length 0 (by omega))
  · exact Ev.neg h (Ev.val (alikes_len a b (by omega)).symm)
theorem alikes_self : ∀ a : List S32, alikes a a = true
  | [] => rfl
  | x :: a => by simp [alikes, alike, alikes_self a]
theorem texts_mem : ∀ (l : List S32) (x : ByteArray), x ∈ texts l → ∃ y ∈ l, y.f1 = x
  | [], x, h => by simp [texts] at h
  | y :: l, x, h => by
    simp only [texts] at h
    split at h
    · obtain ⟨z, hz, e⟩ := texts_mem l x h
      exact ⟨z, by simp [hz], e⟩
    · rcases List.mem_cons.mp h with h | h
      · exact ⟨y, by simp, h.symm⟩
      · obtain ⟨z, hz, e⟩ := texts_mem l x h
        exact ⟨z, by simp [hz], e⟩

theorem LexerPrints (a b : List S32) (ha : a.length ≤ 9223372036854775807) (hb : b.length ≤ 9223372036854775807) : ∃ k, sawmilllaw06_LexerPrints.f k a b = some true := by
  refine Ev.rounds (r := true) ?_
  have long : Ev (fun k => sawmilllaw06_LexerPrints.j0 k a b true) true := by
    refine Ev.step (fun k => by simp only [sawmilllaw06_LexerPrints.j0]; rfl) ?_
    exact Ev.pos (by simp) awake_then
  unfold sawmilllaw06_LexerPrints.f
  refine Ev.bind (great_f a ha) ?_
  by_cases hga : great a = true
  · exact Ev.pos hga long
  · refine Ev.neg hga ?_
    refine Ev.bind (great_f b hb) ?_
    by_cases hgb : great b = true
    · rw [hgb]; exact long
    · have hgb' : great b = false := by simpa using hgb
      rw [hgb']
      clear long
      simp only [great, Bool.or_eq_true, List.any_eq_true, decide_eq_true_eq, not_or, not_exists, not_and] at hga
      have hal : a.length ≤ 60 := by omega
      have has : ∀ x ∈ a, x.f1.size ≤ 200 := fun x hx => by have := hga.1 x hx; omega
      have hjl : (joinB (texts a)).length ≤ 140737488355328 := by
        have h1 := joinB_len (texts a) (fun x hx => by obtain ⟨y, hy, rfl⟩ := texts_mem a x hx; exact has y hy)
        have h2 := texts_len a
        have h3 : (joinB (texts a)).length ≤ 20000 := by omega
        exact Nat.le_trans h3 (by decide)
      refine Ev.step (fun k => by simp only [sawmilllaw06_LexerPrints.j0]; rfl) ?_
      refine Ev.neg (by simp) ?_
      refine Ev.bind (print_f a (by omega) hjl) (Ev.bind (rprint_f a hal has) (Ev.pos rfl ?_))
      refine Ev.bind (same_f a b (by omega)) (Ev.bind (rsame_f a b hal) (Ev.pos (by simp) ?_))
      refine Ev.bind (same_f a a (by omega)) ?_
      exact Ev.pos (alikes_self a) awake_then

end Go.Proofs.Ytkkjbfhlhkpgiaa.Pure
