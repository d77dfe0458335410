/- The examples that each statement about the lexer checks, and the comparison of a list with itself. -/
import Derived.Test.YtkkjbfhlhkpgiaaLexRun
import Derived.Test.YtkkjbfhlhkpgiaaXLexx13
namespace Go.Proofs.Ytkkjbfhlhkpgiaa.Lex
open Go.RowKit Go.Proofs.Ytkkjbfhlhkpgiaa.XLex Go.Proofs.YtkkjbfhlhkpgiaaW.PrintWords Go.Proofs.YtkkjbfhlhkpgiaaW.PrintLast Go.Proofs.YtkkjbfhlhkpgiaaW.PrintMore
set_option linter.unusedSimpArgs false
set_option linter.unusedVariables false
theorem toks_len : ∀ (f a : Nat) (l : Bs), (toks f a l).1.length ≤ f := by
  intro f
  induction f with
  | zero => intro a l; simp [toks]
  | succ f ih =>
    intro a l
    rw [toks.eq_2]
    split
    · simp
    · split
      · split
        · have := ih (a + skipS false l + (firstS (l.drop (skipS false l))).2.1) ((l.drop (skipS false l)).drop (firstS (l.drop (skipS false l))).2.1)
          simp only [List.length_cons]; exact Nat.succ_le_succ this
        · simp
      · simp
theorem scanS_len (l : Bs) : (scanS l).1.length ≤ 8001 := by
  unfold scanS
  split
  · simp
  · have := toks_len (l.length + 1) 0 l; omega
theorem equal_l0 (l : List S32) (hl : l.length ≤ 1000000) : ∀ (d i : Nat), l.length = i + d → Ev (fun k => sawmilllaw06_equal.l0 k l l (i : Int)) true := by
  intro d
  induction d with
  | zero =>
    intro i h
    refine Ev.step (fun k => by simp only [sawmilllaw06_equal.l0]; rfl) ?_
    exact Ev.neg (by omega) (Ev.val rfl)
  | succ d ih =>
    intro i h
    refine Ev.step (fun k => by simp only [sawmilllaw06_equal.l0]; rfl) ?_
    refine Ev.pos (by omega) (Ev.pos (by omega) (Ev.pos (by omega) (Ev.neg (by simp) ?_)))
    rw [w64 (by omega) (by omega)]
    exact ih (i + 1) (by omega)
theorem equal_self (l : List S32) (hl : l.length ≤ 1000000) : Ev (fun k => sawmilllaw06_equal.f k l l) true := by
  unfold sawmilllaw06_equal.f
  exact Ev.pos rfl (equal_l0 l hl l.length 0 (by omega))
theorem awake_ev : Ev (fun k => sawmilllaw06_awake.f k) true := Ev.of (fun k => sawmilllaw06_awake.mono k) (k := 60) (by decide +kernel)
theorem awake_then : Ev (fun k => (sawmilllaw06_awake.f k).bind fun t => some t) true := Ev.bind awake_ev (Ev.val rfl)
end Go.Proofs.Ytkkjbfhlhkpgiaa.Lex
