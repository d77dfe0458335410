/- For every text, the program's Scan and the document's Scan return the same lexemes, error and offset, and the examples hold. No condition on the input: the whole statement LexerScansSaid. -/
import Derived.Test.YtkkjbfhlhkpgiaaXLexx19
import Derived.Test.YtkkjbfhlhkpgiaaLexRef
import Derived.Test.YtkkjbfhlhkpgiaaLexAwake
namespace Go.Proofs.Ytkkjbfhlhkpgiaa.Pure
open Go.RowKit Go.Proofs.Ytkkjbfhlhkpgiaa.XLex Go.Proofs.YtkkjbfhlhkpgiaaW.PrintWords Go.Proofs.YtkkjbfhlhkpgiaaW.PrintLast Go.Proofs.Ytkkjbfhlhkpgiaa.Lex

theorem LexerScans : sawmilllaw06_LexerScans.Pure := by
  intro s hs
  obtain ⟨L, rfl⟩ : ∃ L, s = B L := ⟨_, B_of s⟩
  rw [B_size] at hs
  refine Ev.rounds (r := true) ?_
  unfold sawmilllaw06_LexerScans.f
  rw [B_size]
  by_cases h : L.length > 9000
  · exact Ev.pos (by omega) awake_then
  · refine Ev.neg (by omega) ?_
    refine Ev.bind (scan_f L hs) ?_
    refine Ev.bind (rscan_f L hs) ?_
    refine Ev.bind (equal_self _ (by have := scanS_len L; omega)) ?_
    exact Ev.pos rfl (Ev.pos rfl (Ev.pos rfl awake_then))

end Go.Proofs.Ytkkjbfhlhkpgiaa.Pure
