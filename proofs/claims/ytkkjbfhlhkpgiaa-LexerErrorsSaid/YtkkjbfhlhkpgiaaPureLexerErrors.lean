/- For every text that Scan refuses, the error's offset is within it, what stands ahead of it has no error, and what begins there has the same error at its beginning; the examples hold. No condition on the input: the whole statement LexerErrorsSaid. -/
import Derived.Test.YtkkjbfhlhkpgiaaXLexx29
import Derived.Test.YtkkjbfhlhkpgiaaLexAwake
import Derived.Test.YtkkjbfhlhkpgiaaLexLaws
namespace Go.Proofs.Ytkkjbfhlhkpgiaa.Pure
open Go.RowKit Go.Proofs.Ytkkjbfhlhkpgiaa.XLex Go.Proofs.YtkkjbfhlhkpgiaaW.PrintWords Go.Proofs.YtkkjbfhlhkpgiaaW.PrintLast Go.Proofs.Ytkkjbfhlhkpgiaa.Lex
set_option linter.unusedSimpArgs false

theorem first_any (f a : Nat) (l : Bs) (h : (toks f a l).2.1 ≠ 0) : (toks f a l).2.1 = 5 ∨ (toks f a l).2.1 = 6 ∨ (toks f a l).2.1 = 9 := by
  induction f generalizing a l with
  | zero => exact absurd rfl h
  | succ f ih =>
    by_cases h0 : l.drop (skipS false l) = []
    · rw [toks_end h0] at h; exact absurd rfl h
    · by_cases he : (firstS (l.drop (skipS false l))).2.2.2 = 0
      · rw [toks_go h0 he] at h ⊢
        by_cases h1 : (toks f (far a l) (rest l)).2.1 = 0
        · rw [if_pos h1] at h; exact absurd rfl h
        · rw [if_neg h1]; exact ih _ _ h1
      · rw [toks_err h0 he]
        exact (first_err (l := l.drop (skipS false l))).resolve_left he

theorem LexerErrors : sawmilllaw06_LexerErrors.Pure := by
  intro s hs
  obtain ⟨L, rfl⟩ : ∃ L, s = B L := ⟨_, B_of s⟩
  rw [B_size] at hs
  refine Ev.rounds (r := true) ?_
  unfold sawmilllaw06_LexerErrors.f
  rw [B_size]
  by_cases h : L.length > 3000
  · exact Ev.pos (by omega) awake_then
  · refine Ev.neg (by omega) ?_
    refine Ev.bind (scan_f L hs) ?_
    have e0 : ∀ l : Bs, l.length ≤ 3000 → scanS l = toks (l.length + 1) 0 l := by
      intro l hl
      unfold scanS; rw [if_neg (by omega)]
    rw [e0 L (by omega)]
    by_cases he : (toks (L.length + 1) 0 L).2.1 = 0
    · refine Ev.pos he (Ev.pos (toks_zero _ _ _ he) (Ev.pos ?_ awake_then))
      have := toks_ne (L.length + 1) 0 L (by omega) he
      have := List.length_pos_iff.mpr this
      omega
    · refine Ev.neg he ?_
      have hnil := toks_nil' _ _ _ he
      refine Ev.pos (by rw [hnil]; rfl) ?_
      have hany := first_any _ _ _ he
      obtain ⟨j, hj, ho, htk, hsk, hne, hfe⟩ := toks_wrong (L.length + 1) 0 L (by omega) he
      rw [Nat.zero_add] at ho
      rw [ho]
      refine Ev.neg (by omega) (Ev.neg (by omega) ?_)
      have key : Ev (fun k => sawmilllaw06_LexerErrors.j0 k (B L) (toks (L.length + 1) 0 L).2.1 (j : Int) false) true := by
        refine Ev.step (fun k => by simp only [sawmilllaw06_LexerErrors.j0]; rfl) ?_
        refine Ev.neg (by simp) ?_
        refine Ev.pos (by omega) (Ev.pos (by rw [B_size]; omega) ?_)
        rw [Int.toNat_natCast, B_take, B_drop]
        refine Ev.bind (scan_f _ (by simp [List.length_take]; omega)) ?_
        refine Ev.bind (scan_f _ (by simp; omega)) ?_
        rw [e0 (L.take j) (by simp [List.length_take]; omega), e0 (L.drop j) (by simp; omega)]
        have h1 : (toks ((L.take j).length + 1) 0 (L.take j)).2.1 = 0 := by
          rw [toks_fuel _ (L.length + 1) 0 (L.take j) (by omega) (by simp [List.length_take]; omega)]; exact htk
        have hd : (L.drop j).drop (skipS false (L.drop j)) = L.drop j := by rw [hsk]; rfl
        have h2 : toks ((L.drop j).length + 1) 0 (L.drop j) = ([], (toks (L.length + 1) 0 L).2.1, 0) := by
          rw [toks_err (by rw [hd]; exact hne) (by rw [hd, hfe]; exact he), hd, hfe, hsk]; rfl
        rw [h2]
        exact Ev.pos h1 (Ev.pos rfl (Ev.pos rfl awake_then))
      rcases hany with h5 | h6 | h9
      · refine Ev.neg (by rw [h5]; decide) (Ev.pos h5 key)
      · exact Ev.pos h6 key
      · refine Ev.neg (by rw [h9]; decide) (Ev.neg (by rw [h9]; decide) ?_)
        have : ((toks (L.length + 1) 0 L).2.1 != 9) = false := by rw [h9]; rfl
        rw [this]; exact key

end Go.Proofs.Ytkkjbfhlhkpgiaa.Pure
