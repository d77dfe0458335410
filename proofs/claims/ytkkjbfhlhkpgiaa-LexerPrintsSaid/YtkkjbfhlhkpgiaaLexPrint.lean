/- The program's Print and Same over lists of lexemes. -/
import Derived.Test.YtkkjbfhlhkpgiaaLexAwake
import Derived.Test.YtkkjbfhlhkpgiaaXLexx11
import Derived.Test.YtkkjbfhlhkpgiaaXLexx12
namespace Go.Proofs.Ytkkjbfhlhkpgiaa.Lex
open Go.RowKit Go.Proofs.Ytkkjbfhlhkpgiaa.XLex Go.Proofs.YtkkjbfhlhkpgiaaW.PrintWords Go.Proofs.YtkkjbfhlhkpgiaaW.PrintLast Go.Proofs.YtkkjbfhlhkpgiaaW.PrintMore
set_option linter.unusedSimpArgs false
set_option linter.unusedVariables false
theorem rd_is (l : List S32) (i : Nat) (h : i < l.length) : rd_T32 l (i : Int) = l[i] := by
  unfold rd_T32
  rw [Int.toNat_natCast, List.getD_eq_getElem?_getD]
  simp [h]
theorem w_succ (a : Nat) (h : a ≤ 1000000) : wrap64 ((a : Int) + 1) = ((a + 1 : Nat) : Int) := by rw [w64 (by omega) (by omega)]; omega
/-- the texts that are printed -/
def texts : List S32 → List ByteArray
  | [] => []
  | x :: l => if x.f0 = 0 then texts l else x.f1 :: texts l
def joinB (ws : List ByteArray) : Bs := Lib.join (ws.map (·.data.toList)) [32]
theorem texts_len : ∀ l : List S32, (texts l).length ≤ l.length
  | [] => by simp [texts]
  | x :: l => by
    have := texts_len l
    simp only [texts, List.length_cons]
    split
    · omega
    · simp only [List.length_cons]; omega
theorem print_l0 (l : List S32) (hl : l.length ≤ 100000) : ∀ (d i : Nat) (ws : List ByteArray), l.length = i + d → ws.length ≤ i → (joinB (ws ++ texts (l.drop i))).length ≤ 140737488355328 →
    Ev (fun k => lexer_Print.l0 k ws l (l.length : Int) (i : Int)) (B (joinB (ws ++ texts (l.drop i)))) := by
  intro d
  induction d with
  | zero =>
    intro i ws h hw hj
    have e : l.drop i = [] := List.drop_eq_nil_of_le (by omega)
    rw [e] at hj ⊢
    refine Ev.step (fun k => by simp only [lexer_Print.l0]; rfl) ?_
    refine Ev.neg (by omega) ?_
    simp only [texts, List.append_nil] at hj ⊢
    have hf : strings_Join.f ws (⟨#[32]⟩ : ByteArray) = some (B (joinB ws)) := by
      have hw' : ws.length ≤ 140737488355328 := Nat.le_trans hw (Nat.le_trans (by omega : i ≤ 100000) (by decide))
      exact (if_pos hj).trans (if_pos hw')
    exact Ev.bindc hf (Ev.val rfl)
  | succ d ih =>
    intro i ws h hw hj
    have hi : i < l.length := by omega
    have hd := List.drop_eq_getElem_cons hi
    refine Ev.step (fun k => by simp only [lexer_Print.l0]; rfl) ?_
    rw [rd_is l i hi, w_succ i (by omega)]
    refine Ev.pos (by omega) (Ev.pos (by omega) (Ev.pos (by omega) ?_))
    rw [hd] at hj ⊢
    by_cases h0 : l[i].f0 = 0
    · simp only [texts, if_pos h0] at hj ⊢
      exact (ih (i + 1) ws (by omega) (by omega) hj)
    · simp only [texts, if_neg h0] at hj ⊢
      have hw' : ws.length < 8796093022208 := Nat.lt_of_le_of_lt hw (Nat.lt_of_le_of_lt (by omega : i ≤ 100000) (by decide))
      refine Ev.pos hw' ?_
      have e : ws ++ l[i].f1 :: texts (l.drop (i + 1)) = (ws ++ [l[i].f1]) ++ texts (l.drop (i + 1)) := by simp
      rw [e] at hj ⊢
      exact ih (i + 1) (ws ++ [l[i].f1]) (by omega) (by simp; omega) hj
theorem print_f (l : List S32) (hl : l.length ≤ 100000) (hj : (joinB (texts l)).length ≤ 140737488355328) : Ev (fun k => lexer_Print.f k l) (B (joinB (texts l))) :=
  print_l0 l hl l.length 0 [] (by omega) (by simp) hj

/-! ### Same -/
def alike (x y : S32) : Bool := decide (x.f0 = y.f0) && (decide (x.f1.toList = y.f1.toList) && (x.f2 == y.f2))
def alikes : List S32 → List S32 → Bool
  | [], [] => true
  | x :: a, y :: b => alike x y && alikes a b
  | _, _ => false
theorem same1_f (x y : S32) : lexer_Same_1.f x.f0 x.f1 x.f2 x.f3 y.f0 y.f1 y.f2 y.f3 = some (alike x y) := by
  unfold lexer_Same_1.f alike
  by_cases h0 : x.f0 = y.f0
  · by_cases h1 : x.f1.toList = y.f1.toList
    · rw [if_pos h0, if_pos h1]; simp [h0, h1]
    · rw [if_pos h0, if_neg h1]; simp [h0, h1]
  · rw [if_neg h0]; simp [h0]
theorem equalf_l0 (a b : List S32) (ha : a.length ≤ 100000) (hab : a.length = b.length) : ∀ (d i : Nat), a.length = i + d →
    Ev (fun k => api_Lexeme_f31.l0 k b a (a.length : Int) (i : Int)) (alikes (a.drop i) (b.drop i)) := by
  intro d
  induction d with
  | zero =>
    intro i h
    refine Ev.step (fun k => by simp only [api_Lexeme_f31.l0]; rfl) ?_
    refine Ev.neg (by omega) (Ev.val ?_)
    rw [List.drop_eq_nil_of_le (by omega), List.drop_eq_nil_of_le (by omega)]; rfl
  | succ d ih =>
    intro i h
    have hi : i < a.length := by omega
    have hi2 : i < b.length := by omega
    refine Ev.step (fun k => by simp only [api_Lexeme_f31.l0]; rfl) ?_
    rw [rd_is a i hi, rd_is b i hi2, w_succ i (by omega)]
    refine Ev.pos (by omega) (Ev.pos (by omega) (Ev.pos (by omega) (Ev.pos (by omega) ?_)))
    refine Ev.bindc (same1_f _ _) ?_
    rw [List.drop_eq_getElem_cons hi, List.drop_eq_getElem_cons hi2]
    by_cases hs : alike a[i] b[i] = true
    · refine Ev.pos hs (Ev.eq (ih (i + 1) (by omega)) ?_)
      simp [alikes, hs]
    · refine Ev.neg hs (Ev.val ?_)
      simp [alikes, hs]
theorem alikes_len : ∀ a b : List S32, a.length ≠ b.length → alikes a b = false
  | [], [], h => absurd rfl h
  | [], _ :: _, _ => rfl
  | _ :: _, [], _ => rfl
  | x :: a, y :: b, h => by
    have := alikes_len a b (fun e => h (by simp [e]))
    simp [alikes, this]
theorem same_f (a b : List S32) (ha : a.length ≤ 100000) : Ev (fun k => lexer_Same.f k a b) (alikes a b) := by
  unfold lexer_Same.f
  refine Ev.bind (a := alikes a b) ?_ (Ev.val rfl)
  unfold api_Lexeme_f31.f
  by_cases h : (a.length : Int) = (b.length : Int)
  · exact Ev.pos h (equalf_l0 a b ha (by omega) a.length 0 (by omega))
  · exact Ev.neg h (Ev.val (alikes_len a b (by omega)).symm)
end Go.Proofs.Ytkkjbfhlhkpgiaa.Lex
