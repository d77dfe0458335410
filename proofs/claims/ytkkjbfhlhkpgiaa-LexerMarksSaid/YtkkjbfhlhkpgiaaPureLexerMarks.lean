/- For every string, IsMark says what the document says, and each mark is read by Scan as one lexeme; the examples hold. No condition on the input: the whole statement LexerMarksSaid. -/
import Derived.Test.YtkkjbfhlhkpgiaaXLexx24
import Derived.Test.YtkkjbfhlhkpgiaaLexRef
import Derived.Test.YtkkjbfhlhkpgiaaLexAwake
namespace Go.Proofs.Ytkkjbfhlhkpgiaa.Pure
open Go.RowKit Go.Proofs.Ytkkjbfhlhkpgiaa.XLex Go.Proofs.YtkkjbfhlhkpgiaaW.PrintWords Go.Proofs.YtkkjbfhlhkpgiaaW.PrintLast Go.Proofs.Ytkkjbfhlhkpgiaa.Lex
set_option linter.unusedSimpArgs false

theorem ismark_l0 (l : Bs) (ms : List Bs) (hm : ms.length ≤ 100) : ∀ (d i : Nat), ms.length = i + d →
    Ev (fun k => sawmillref06_IsMark.l0 k (B l) (ms.map B) (i : Int)) (decide (l ∈ ms.drop i)) := by
  intro d
  induction d with
  | zero =>
    intro i h
    refine Ev.step (fun k => by simp only [sawmillref06_IsMark.l0]; rfl) ?_
    rw [List.length_map]
    refine Ev.neg (by omega) (Ev.val ?_)
    rw [List.drop_eq_nil_of_le (by omega)]; simp
  | succ d ih =>
    intro i h
    have hi : i < ms.length := by omega
    have hd := List.drop_eq_getElem_cons hi
    have hrd : rdOf ByteArray.empty (ms.map B) (i : Int) = B ms[i] := by
      unfold rdOf
      rw [List.getD_eq_getElem?_getD]
      simp [hi]
    refine Ev.step (fun k => by simp only [sawmillref06_IsMark.l0]; rfl) ?_
    rw [List.length_map, hrd, B_list, B_list, w64 (x := (i : Int) + 1) (by omega) (by omega), hd]
    refine Ev.pos (by omega) (Ev.pos (by omega) ?_)
    by_cases he : ms[i] = l
    · refine Ev.pos he (Ev.val ?_)
      simp [he]
    · refine Ev.neg he (Ev.eq (ih (i + 1) (by omega)) ?_)
      simp only [List.mem_cons]
      rw [decide_eq_decide]
      exact ⟨.inr, fun h => h.resolve_left (fun e => he e.symm)⟩
theorem ismark_f (l : Bs) : Ev (fun k => sawmillref06_IsMark.f k (B l)) (decide (l ∈ marks2 ++ marks1)) := by
  unfold sawmillref06_IsMark.f
  refine Ev.bindc marks_eq ?_
  have := ismark_l0 l (marks2 ++ marks1) (by decide) (marks2 ++ marks1).length 0 (by omega)
  rw [List.drop_zero] at this
  exact this
theorem scan_mark (l : Bs) (h : l ∈ marks2 ++ marks1) : scanS l = ([⟨3, B l, 0, 0⟩, ⟨0, B [], 0, (l.length : Int)⟩], 0, 0) := by
  simp only [marks2, marks1, List.cons_append, List.nil_append, List.mem_cons, List.not_mem_nil, or_false] at h
  rcases h with h | h | h | h | h | h | h | h | h | h | h | h | h | h | h | h | h | h | h <;> subst h <;> rfl

theorem LexerMarks : sawmilllaw06_LexerMarks.Pure := by
  intro s hs
  obtain ⟨l, rfl⟩ : ∃ L, s = B L := ⟨_, B_of s⟩
  rw [B_size] at hs
  refine Ev.rounds (r := true) ?_
  unfold sawmilllaw06_LexerMarks.f
  rw [B_size]
  by_cases h : l.length > 1000
  · refine Ev.pos (by omega) ?_
    refine Ev.step (fun k => by simp only [sawmilllaw06_LexerMarks.j0]; rfl) ?_
    rw [B_size]
    exact Ev.pos (by simp) (Ev.pos (by omega) awake_then)
  · refine Ev.neg (by omega) ?_
    refine Ev.bindc (isMark_b l) ?_
    refine Ev.bind (ismark_f l) ?_
    refine Ev.step (fun k => by simp only [sawmilllaw06_LexerMarks.j0]; rfl) ?_
    refine Ev.neg (by simp) ?_
    refine Ev.bindc (isMark_b l) ?_
    by_cases hm : l ∈ marks2 ++ marks1
    · refine Ev.pos (by simpa using hm) ?_
      refine Ev.bind (scan_f l hs) ?_
      rw [scan_mark l hm]
      refine Ev.pos rfl (Ev.pos rfl (Ev.pos (by simp) (Ev.pos ?_ awake_then)))
      simp [rd_T32, B_list]
    · exact Ev.neg (by simpa using hm) awake_then

end Go.Proofs.Ytkkjbfhlhkpgiaa.Pure
