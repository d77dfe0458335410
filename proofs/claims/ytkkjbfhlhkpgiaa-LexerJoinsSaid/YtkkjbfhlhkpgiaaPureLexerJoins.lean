/- For every two texts, the lexemes of both with a line feed between them are those of the first without its end, and those of the second, moved; errors likewise; the examples hold. No condition on the input: the whole statement LexerJoinsSaid. -/
import Derived.Test.YtkkjbfhlhkpgiaaXLexx28
import Derived.Test.YtkkjbfhlhkpgiaaLexAwake
import Derived.Test.YtkkjbfhlhkpgiaaLexLaws
namespace Go.Proofs.Ytkkjbfhlhkpgiaa.Pure
open Go.RowKit Go.Proofs.Ytkkjbfhlhkpgiaa.XLex Go.Proofs.YtkkjbfhlhkpgiaaW.PrintWords Go.Proofs.YtkkjbfhlhkpgiaaW.PrintLast Go.Proofs.Ytkkjbfhlhkpgiaa.Lex
set_option linter.unusedSimpArgs false
set_option linter.unusedVariables false

theorem rd_at (l : List S32) (i : Nat) (h : i < l.length) : rd_T32 l (i : Int) = l[i] := by
  unfold rd_T32
  rw [Int.toNat_natCast, List.getD_eq_getElem?_getD]
  simp [h]
theorem rd_app_left (a b : List S32) (i : Nat) (h : i < a.length) : rd_T32 (a ++ b) (i : Int) = rd_T32 a (i : Int) := by
  rw [rd_at _ _ (by simp; omega), rd_at _ _ h, List.getElem_append_left h]
theorem rd_app_right (a b : List S32) (i : Nat) (h : i < b.length) : rd_T32 (a ++ b) ((a.length + i : Nat) : Int) = rd_T32 b (i : Int) := by
  rw [rd_at _ _ (by simp; omega), rd_at _ _ h, List.getElem_append_right (by omega)]
  simp
theorem rd_map (g : S32 → S32) (b : List S32) (i : Nat) (h : i < b.length) : rd_T32 (b.map g) (i : Int) = g (rd_T32 b (i : Int)) := by
  rw [rd_at _ _ (by simp; omega), rd_at _ _ h, List.getElem_map]

/-- the places of a text's lexemes are within bounds -/
theorem toks_at : ∀ (f a : Nat) (l : Bs) (x : S32), x ∈ (toks f a l).1 → 0 ≤ x.f3 ∧ x.f3 ≤ ((a + l.length : Nat) : Int) := by
  intro f
  induction f with
  | zero => intro a l x h; simp [toks] at h
  | succ f ih =>
    intro a l x h
    have hs := skipS_le l false
    by_cases h0 : l.drop (skipS false l) = []
    · rw [toks_end h0] at h
      simp only [List.mem_singleton] at h
      subst h
      show 0 ≤ ((a + skipS false l : Nat) : Int) ∧ ((a + skipS false l : Nat) : Int) ≤ _
      omega
    · by_cases he : (firstS (l.drop (skipS false l))).2.2.2 = 0
      · rw [toks_go h0 he] at h
        have hr := rest_len he
        split at h
        · rcases List.mem_cons.mp h with h | h
          · subst h
            show 0 ≤ ((a + skipS false l : Nat) : Int) ∧ ((a + skipS false l : Nat) : Int) ≤ _
            omega
          · have := ih (far a l) (rest l) x h
            unfold far at this
            omega
        · simp at h
      · rw [toks_err h0 he] at h; simp at h

def mv (c : Int) (x : S32) : S32 := ⟨x.f0, x.f1, x.f2, x.f3 + c⟩
theorem join_l0 (s t : Bs) (hs : s.length ≤ 3000) (A Bq : List S32) (hA : A.length ≤ 100000) (hB : Bq.length ≤ 100000) (hb : ∀ x ∈ Bq, 0 ≤ x.f3 ∧ x.f3 ≤ 10000) (e : S32) :
    ∀ (d i : Nat), A.length + Bq.length = i + d →
    Ev (fun k => sawmilllaw06_LexerJoins.l0 k (B s) (A ++ [e]) Bq (A ++ Bq.map (mv ((s.length : Int) + 1))) (i : Int)) true := by
  intro d
  induction d with
  | zero =>
    intro i h
    refine Ev.step (fun k => by simp only [sawmilllaw06_LexerJoins.l0]; rfl) ?_
    refine Ev.neg ?_ awake_then
    simp; omega
  | succ d ih =>
    intro i h
    have hall : (A ++ Bq.map (mv ((s.length : Int) + 1))).length = A.length + Bq.length := by simp
    have hAe : (A ++ [e]).length = A.length + 1 := by simp
    have hnext := ih (i + 1) (by omega)
    refine Ev.step (fun k => by simp only [sawmilllaw06_LexerJoins.l0]; rfl) ?_
    rw [hall, hAe, B_size]
    have e1 : wrap64 (((A.length + 1 : Nat) : Int) - 1) = (A.length : Int) := by rw [w64 (by omega) (by omega)]; omega
    rw [e1]
    clear e1
    have e2 : wrap64 ((i : Int) + 1) = ((i + 1 : Nat) : Int) := by rw [w64 (by omega) (by omega)]; rfl
    rw [e2]
    clear e2
    refine Ev.pos (by omega) ?_
    by_cases hi : i < A.length
    · refine Ev.pos (by omega) (Ev.pos (by omega) (Ev.pos (by omega) (Ev.neg ?_ hnext)))
      rw [rd_app_left _ _ _ hi, rd_app_left _ _ _ hi]
      simp
    · obtain ⟨j, rfl⟩ : ∃ j, i = A.length + j := ⟨i - A.length, by omega⟩
      have hj : j < Bq.length := by omega
      have hmem : rd_T32 Bq (j : Int) ∈ Bq := by rw [rd_at _ _ hj]; exact List.getElem_mem hj
      have hbd := hb _ hmem
      have e3 : wrap64 (wrap64 (((A.length + j : Nat) : Int) - ((A.length + 1 : Nat) : Int)) + 1) = (j : Int) := by
        rw [w64 (x := ((A.length + j : Nat) : Int) - ((A.length + 1 : Nat) : Int)) (by omega) (by omega), w64 (by omega) (by omega)]; omega
      rw [e3]
      clear e3
      refine Ev.neg (by omega) (Ev.pos (by omega) (Ev.pos (by omega) (Ev.pos (by omega) (Ev.neg ?_ hnext))))
      rw [rd_app_right _ _ _ (by simp; exact hj), rd_map _ _ _ hj]
      have e4 : wrap64 (wrap64 ((rd_T32 Bq (j : Int)).f3 + (s.length : Int)) + 1) = (rd_T32 Bq (j : Int)).f3 + ((s.length : Int) + 1) := by
        rw [w64 (x := (rd_T32 Bq (j : Int)).f3 + (s.length : Int)) (by omega) (by omega), w64 (by omega) (by omega)]; omega
      rw [e4]
      simp [mv]

theorem LexerJoins : sawmilllaw06_LexerJoins.Pure := by
  intro s0 t0 hs ht
  obtain ⟨s, rfl⟩ : ∃ L, s0 = B L := ⟨_, B_of s0⟩
  obtain ⟨t, rfl⟩ : ∃ L, t0 = B L := ⟨_, B_of t0⟩
  rw [B_size] at hs ht
  refine Ev.rounds (r := true) ?_
  unfold sawmilllaw06_LexerJoins.f
  rw [B_size, B_size]
  have long : Ev (fun k => sawmilllaw06_LexerJoins.j0 k (B s) (B t) true) true := by
    refine Ev.step (fun k => by simp only [sawmilllaw06_LexerJoins.j0]; rfl) ?_
    exact Ev.pos (by simp) awake_then
  by_cases h : s.length > 3000
  · exact Ev.pos (by omega) long
  · refine Ev.neg (by omega) ?_
    by_cases h2 : t.length > 3000
    · rw [decide_eq_true (by omega : (t.length : Int) > 3000)]; exact long
    · rw [decide_eq_false (by omega : ¬ (t.length : Int) > 3000)]
      clear long
      refine Ev.step (fun k => by simp only [sawmilllaw06_LexerJoins.j0]; rfl) ?_
      refine Ev.neg (by simp) ?_
      refine Ev.bind (scan_f s hs) (Ev.bind (scan_f t ht) ?_)
      rw [show (⟨#[10]⟩ : ByteArray) = B [10] from rfl, B_app, B_size, B_size, B_size, B_app]
      refine Ev.pos (by omega) (Ev.pos (by simp; omega) ?_)
      rw [show s ++ [10] ++ t = s ++ 10 :: t by simp]
      have hlen : (s ++ 10 :: t).length = s.length + 1 + t.length := by simp; omega
      refine Ev.bind (scan_f _ (by omega)) ?_
      have e0 : ∀ l : Bs, l.length ≤ 8000 → scanS l = toks 9000 0 l := by
        intro l hl
        unfold scanS; rw [if_neg (by omega)]
        exact toks_fuel _ _ _ _ (by omega) (by omega)
      rw [e0 s (by omega), e0 t (by omega), e0 _ (by omega), toks_join t 9000 0 s (by omega), Nat.zero_add]
      have hmv : toks 9000 (s.length + 1) t = moved ((s.length + 1 : Nat) : Int) (toks 9000 0 t) := by
        have := toks_moved (s.length + 1) 9000 0 t
        rw [Nat.zero_add] at this; exact this
      rw [hmv]
      have hne1 := toks_ne 9000 0 s (by omega)
      have hn2 := toks_nil' 9000 0 t
      have hat := toks_at 9000 0 t
      have hb1 := toks_len 9000 0 s
      have hb2 := toks_len 9000 0 t
      have hwr : (toks 9000 0 t).2.1 ≠ 0 → 0 ≤ (toks 9000 0 t).2.2 ∧ (toks 9000 0 t).2.2 ≤ 3000 := by
        intro hh
        obtain ⟨j, hj, ho, _⟩ := toks_wrong 9000 0 t (by omega) hh
        rw [ho]; omega
      generalize toks 9000 0 s = R1 at hne1 hb1 ⊢
      generalize toks 9000 0 t = R2 at hn2 hat hb2 hwr ⊢
      obtain ⟨xs, e1, o1⟩ := R1
      obtain ⟨ys, e2, o2⟩ := R2
      dsimp only at hne1 hn2 hat hb1 hb2 hwr ⊢
      by_cases h1 : e1 = 0
      · refine Ev.pos h1 ?_
        have hne := hne1 h1
        by_cases h2 : e2 = 0
        · refine Ev.pos h2 ?_
          have hj : joined (xs, e1, o1) (moved ((s.length + 1 : Nat) : Int) (ys, e2, o2)) = (xs.dropLast ++ ys.map (mv ((s.length : Int) + 1)), 0, 0) := by
            simp [joined, moved, h1, h2, mv]
          rw [hj]
          refine Ev.pos rfl ?_
          obtain ⟨A, e, hA⟩ : ∃ A e, xs = A ++ [e] := ⟨xs.dropLast, xs.getLast hne, (List.dropLast_concat_getLast hne).symm⟩
          subst hA
          rw [List.dropLast_concat]
          have hA : A.length ≤ 100000 := by simp at hb1; omega
          refine Ev.neg (by simp; omega) ?_
          have hf : (((A ++ ys.map (mv ((s.length : Int) + 1))).length : Int) != wrap64 (wrap64 (((A ++ [e]).length : Int) - 1) + (ys.length : Int))) = false := by
            have e5 : wrap64 (wrap64 (((A ++ [e]).length : Int) - 1) + (ys.length : Int)) = ((A.length + ys.length : Nat) : Int) := by
              rw [show (((A ++ [e]).length : Int) - 1) = (A.length : Int) by simp, w64 (x := (A.length : Int)) (by omega) (by omega), w64 (by omega) (by omega)]; omega
            rw [e5]; simp
          rw [hf]
          refine Ev.step (fun k => by simp only [sawmilllaw06_LexerJoins.j1]; rfl) ?_
          refine Ev.neg (by simp) ?_
          exact join_l0 s t (by omega) A ys hA (by omega) (fun x hx => by have := hat x hx; omega) e (A.length + ys.length) 0 (by omega)
        · refine Ev.neg h2 ?_
          have hj : joined (xs, e1, o1) (moved ((s.length + 1 : Nat) : Int) (ys, e2, o2)) = ([], e2, o2 + ((s.length + 1 : Nat) : Int)) := by
            simp [joined, moved, h1, h2]
          rw [hj]
          have hw := hwr h2
          refine Ev.pos rfl (Ev.pos ?_ (Ev.pos rfl awake_then))
          have e6 : wrap64 (wrap64 (o2 + (s.length : Int)) + 1) = o2 + ((s.length + 1 : Nat) : Int) := by
            rw [w64 (x := o2 + (s.length : Int)) (by omega) (by omega), w64 (by omega) (by omega)]; omega
          exact e6.symm
      · refine Ev.neg h1 ?_
        have hj : joined (xs, e1, o1) (moved ((s.length + 1 : Nat) : Int) (ys, e2, o2)) = ([], e1, o1) := by
          simp [joined, h1]
        rw [hj]
        exact Ev.pos rfl (Ev.pos rfl (Ev.pos rfl awake_then))

end Go.Proofs.Ytkkjbfhlhkpgiaa.Pure
