/- LexerPrints: for every two lists of lexemes, Print and Same return what the document says. No condition on the input. -/
import Derived.Test.YtkkjbfhlhkpgiaaRows
import Derived.Test.YtkkjbfhlhkpgiaaXLexx22
import Derived.Test.YtkkjbfhlhkpgiaaPureLexerPrints
import Derived.Test.YtkkjbfhlhkpgiaaOpens
import Derived.WalkKit
import Derived.ProofKit
import Derived.OpenShut
import Derived.ShutString
import Derived.ChangeOld
import Derived.Below
import Derived.Carry
import Derived.SizedLaws
import Derived.Test.YtkkjbfhlhkpgiaaWSized
namespace Go.Proofs.Ytkkjbfhlhkpgiaa.lexerPrints
open Go.ChangeShapes Go.WideShapes Go.ChangeAt Go.RowKit Go.Proofs.YtkkjbfhlhkpgiaaW.PrintWords Go.Proofs.Ytkkjbfhlhkpgiaa.Opens Go.Proofs.Ytkkjbfhlhkpgiaa.XLex
open Go.ChangeMaps (open_string shut_string)
set_option linter.unusedVariables false
theorem own : ownKnob Try.prog.godebug = none := by kernel_rfl
theorem laidOut : laidOutB Try.prog = true := by kernel_rfl
section
variable {H : Type} {enc : TypeId × Value → H} {w : World} {base : Nat} {spare : Nat → Bool} {held : Bool}
theorem opens_lexemes : Opens enc Try.prog w base spare held 23 (Kd.slice 32 k32) (fun xs => xs.length ≤ maxLen) :=
  opens_mono (opens_slice Try.underlying23 (opens_struct Try.underlying32
    (chain_cons (opens_int Try.underlying3) rfl rfl (chain_cons (opens_string Try.underlying9) rfl rfl (chain_cons (opens_int Try.underlying3) rfl rfl (chain_last (opens_int Try.underlying3) rfl (by kernel_rfl)))))
    (fun x : S32 => (x.f0, x.f1, x.f2, x.f3)) (fun y => ⟨y.1, y.2.1, y.2.2.1, y.2.2.2⟩) (fun _ => rfl)) (by kernel_rfl)) (fun _ h => h.1)
end
set_option maxRecDepth 100000 in
theorem lifted (os : Os) (started : os.Started) (H : Type) (enc : TypeId × Value → H) :
    ReturnsInHanded {} Try.checked os 4 .any (Rows.lexerPrintsSpec.pre6 enc Try.prog Try.f4 Rows.lexerPrintsRow.domain false) (Rows.lexerPrintsSpec.post enc Try.prog Try.f4 false true false false) := by
  refine returnsInHanded_of_change_sized (C := Try.checked) own started (by kernel_rfl) Try.func4
    (ChangeSpec.witness6 (enc := enc) (C := Try.checked) false ⟨#[], #[.slice none 0 0, .slice none 0 0], []⟩ 8 (by kernel_rfl) (by kernel_rfl) (by kernel_rfl) (by kernel_rfl)) ?_
  intro W base args ds gs before hval0 hW hcnd hsz0 _
  have hval : ∀ (j : Nat) t v, Try.f4.params[j]? = some t → args[j]? = some v → Value.okWide Try.prog W .any base t v := hval0
  have hW' := hW
  obtain ⟨p, q, hA0, hV, rfl, hfz, hnd⟩ := hW
  have hA : DataW.TrodAll enc Try.prog W 0 (fun _ => true) true Try.f4.params.toList args.toList ds p := hA0
  rw [Try.params4] at hA hval
  obtain ⟨v0, vs0, d0, ds0, p0, q0, hargs, rfl, rfl, h0, r0⟩ := trodAll_cons hA
  obtain ⟨v1, vs1, d1, ds1, p1, q1, rfl, rfl, rfl, h1, r1⟩ := trodAll_cons r0
  obtain ⟨rfl, rfl, rfl⟩ := trodAll_nil r1
  obtain rfl : args = #[v0, v1] := by cases args; simp_all
  obtain ⟨rfl, rfl⟩ := trodVars_none hV
  obtain ⟨A0, len0, cap0, rfl⟩ := okWide_slice Try.underlying23 (hval 0 23 v0 rfl rfl)
  obtain ⟨A1, len1, cap1, rfl⟩ := okWide_slice Try.underlying23 (hval 1 23 v1 rfl rfl)
  have k0 := h0
  have k1 := h1
  have lt0 : ∀ x ∈ p0, x.block < W.heap.size := by obtain ⟨m, hm⟩ := k0; exact DataW.trod_lt m _ _ _ hm
  have lt1 : ∀ x ∈ p1, x.block < W.heap.size := by obtain ⟨m, hm⟩ := k1; exact DataW.trod_lt m _ _ _ hm
  obtain ⟨n0, e0⟩ := h0
  obtain ⟨l0, ⟨B0, c0, hv0, hc0, hr0⟩, hl0⟩ := opens_lexemes _ _ _ e0
  obtain ⟨n1, e1⟩ := h1
  obtain ⟨l1, ⟨B1, c1, hv1, hc1, hr1⟩, hl1⟩ := opens_lexemes _ _ _ e1
  simp only [Value.cells, List.cons.injEq, and_true, Value.slice.injEq] at hv0 hv1
  obtain ⟨rfl, rfl, rfl⟩ := hv0
  obtain ⟨rfl, rfl, rfl⟩ := hv1
  clear hA0 hval0 hsz0
  unfold maxLen at hl0 hl1
  obtain ⟨k, hk⟩ := Pure.LexerPrints l0 l1 hl0 hl1
  refine (XLex.sawmilllaw06_LexerPrints.calls k A0 cap0 l0 A1 cap1 l1 true W hr0 hc0 hr1 hc1 hk).mono fun e W' ⟨he, bel⟩ => ?_
  subst he
  exact ⟨_, rfl, _, _, _, [], _, [], hW', trodAll_mk1 (shut_bool Try.underlying4 _), (trodAll_cons_mk (Below.trod laidOut (by kernel_rfl) (of_decide_eq_true (by kernel_rfl)) k0 bel lt0) (trodAll_cons_mk (Below.trod laidOut (by kernel_rfl) (of_decide_eq_true (by kernel_rfl)) k1 bel lt1) trodAll_mk0)), rfl, bel.frame _, fun h => by cases h⟩
theorem over : Rows.lexerPrintsRow.holds Try.pinned (OpenSpec.ofChange Rows.lexerPrintsSpec) :=
  OpenClaim.holds_of_wide 4 Try.f4 rfl rfl rfl rfl rfl rfl rfl ⟨rfl, rfl, rfl, rfl, rfl⟩ rfl rfl rfl rfl rfl (by kernel_rfl) Try.func4 (by kernel_rfl)
    (of_decide_eq_true (by kernel_rfl)) (by unfold Func.isWrapper; first | (rw [if_pos (by decide +kernel)]; kernel_rfl) | (rw [if_neg (by decide +kernel)]; exact ⟨rfl, rfl⟩))
    (fun os started H enc _ => lifted os started H enc)
theorem proved : Rows.LexerPrintsSaid := over
#print axioms proved
end Go.Proofs.Ytkkjbfhlhkpgiaa.lexerPrints
namespace Go.Proofs.Ytkkjbfhlhkpgiaa
/-- The row, under a short name, for the claim. -/
theorem lexerPrints_holds : Rows.LexerPrintsSaid := lexerPrints.proved
end Go.Proofs.Ytkkjbfhlhkpgiaa
