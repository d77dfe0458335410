/- For every text, the texts of its lexemes stand at their offsets, in order, with blanks and remarks between them, and the last one is the end; the examples hold. No condition on the input: the whole statement LexerOffsetsSaid. -/
import Derived.Test.YtkkjbfhlhkpgiaaXLexx26
import Derived.Test.YtkkjbfhlhkpgiaaLexAwake
import Derived.Test.YtkkjbfhlhkpgiaaLexLaws
namespace Go.Proofs.Ytkkjbfhlhkpgiaa.Pure
open Go.RowKit Go.Proofs.Ytkkjbfhlhkpgiaa.XLex Go.Proofs.YtkkjbfhlhkpgiaaW.PrintWords Go.Proofs.YtkkjbfhlhkpgiaaW.PrintLast Go.Proofs.Ytkkjbfhlhkpgiaa.Lex
set_option linter.unusedSimpArgs false
set_option linter.unusedVariables false

/-- what was skipped is blanks and remarks -/
theorem between_l0 (l : Bs) (hl : l.length ≤ 8000) : ∀ (d i : Nat) (r : Bool), l.length = i + d → skipS r (l.drop i) = l.length - i →
    Ev (fun k => sawmilllaw06_between.l0 k (B l) r (i : Int)) true := by
  intro d
  induction d with
  | zero =>
    intro i r h _
    refine Ev.step (fun k => by simp only [sawmilllaw06_between.l0]; rfl) ?_
    rw [B_size]
    exact Ev.neg (by omega) (Ev.val rfl)
  | succ d ih =>
    intro i r h hs
    obtain ⟨c, t, hc⟩ := drop_some (l := l) (i := i) (by omega)
    have hn := drop_next hc
    refine Ev.step (fun k => by simp only [sawmilllaw06_between.l0]; rfl) ?_
    rw [B_size, bt_B hc, w64 (x := (i : Int) + 1) (by omega) (by omega)]
    refine Ev.pos (by omega) (Ev.pos (by omega) ?_)
    rw [hc] at hs
    have go : ∀ r', skipS r' t = l.length - (i + 1) → Ev (fun k => sawmilllaw06_between.l0 k (B l) r' ((i : Int) + 1)) true := fun r' hr => by
      have := ih (i + 1) r' (by omega) (by rw [hn]; exact hr)
      exact this
    have hz : l.length - i ≠ 0 := by omega
    cases r with
    | true =>
      simp only [skipS] at hs
      by_cases h10 : c.toNat = 10
      · rw [if_pos h10] at hs
        exact Ev.pos (by omega) (go false (by omega))
      · rw [if_neg h10] at hs
        refine Ev.neg (by omega) ?_
        by_cases h35 : c.toNat = 35
        · exact Ev.pos (by omega) (go true (by omega))
        · exact Ev.neg (by omega) (Ev.pos rfl (go true (by omega)))
    | false =>
      simp only [skipS] at hs
      by_cases h1 : c.toNat = 10 ∨ c.toNat = 32
      · rw [if_pos h1] at hs
        by_cases h10 : c.toNat = 10
        · exact Ev.pos (by omega) (go false (by omega))
        · exact Ev.neg (by omega) (Ev.neg (by omega) (Ev.neg (by simp) (Ev.pos (by omega) (go false (by omega)))))
      · rw [if_neg h1] at hs
        by_cases h35 : c.toNat = 35
        · rw [if_pos h35] at hs
          exact Ev.neg (by omega) (Ev.pos (by omega) (go true (by omega)))
        · rw [if_neg h35] at hs
          exact absurd hs.symm hz
theorem between_f (l : Bs) (hl : l.length ≤ 8000) (h : skipS false l = l.length) : Ev (fun k => sawmilllaw06_between.f k (B l)) true :=
  between_l0 l hl l.length 0 false (by omega) (by simpa using h)

theorem wadd (a b : Nat) (h : a + b ≤ 1000000) : wrap64 ((a : Int) + (b : Int)) = ((a + b : Nat) : Int) := by rw [w64 (by omega) (by omega)]; omega
theorem wsucc (a : Nat) (h : a ≤ 1000000) : wrap64 ((a : Int) + 1) = ((a + 1 : Nat) : Int) := by rw [w64 (by omega) (by omega)]; omega
theorem wlast (a b : Nat) (h : a + b ≤ 1000000) (pre post : List S32) (x : S32) (ha : pre.length = a) (hb : post.length = b) : wrap64 (((pre ++ x :: post).length : Int) - 1) = ((a + b : Nat) : Int) := by
  have e : (pre ++ x :: post).length = a + b + 1 := by simp; omega
  rw [e, w64 (by omega) (by omega)]; omega
theorem rd_mid (pre : List S32) (x : S32) (post : List S32) : rd_T32 (pre ++ x :: post) (pre.length : Int) = x := by
  unfold rd_T32
  rw [Int.toNat_natCast, List.getD_eq_getElem?_getD]
  simp

theorem offs_l0 (L : Bs) (hL : L.length ≤ 3000) : ∀ (f p : Nat) (pre : List S32), L.length - p < f → p ≤ L.length → pre.length ≤ p → (toks f p (L.drop p)).2.1 = 0 →
    Ev (fun k => sawmilllaw06_LexerOffsets.l0 k (B L) (pre ++ (toks f p (L.drop p)).1) (p : Int) (pre.length : Int)) true := by
  intro f
  induction f with
  | zero => intro p pre h; omega
  | succ f ih =>
    intro p pre hf hp hpre he0
    have hs := skipS_le (L.drop p) false
    rw [List.length_drop] at hs
    -- what stands between
    have hbt : Ev (fun k => sawmilllaw06_between.f k ((B L).extract ((p : Int)).toNat (((p + skipS false (L.drop p) : Nat) : Int)).toNat)) true := by
      rw [Int.toNat_natCast, Int.toNat_natCast, B_ext, show p + skipS false (L.drop p) - p = skipS false (L.drop p) by omega]
      refine between_f _ (by simp [List.length_take]; omega) ?_
      rw [skip_take, List.length_take, List.length_drop]; omega
    -- one lexeme x at index pre.length, then the rest
    have one : ∀ (x : S32) (post : List S32) (w : Bs), x.f1 = B w → x.f3 = ((p + skipS false (L.drop p) : Nat) : Int) → (L.drop (p + skipS false (L.drop p))).take w.length = w → p + skipS false (L.drop p) + w.length ≤ L.length →
        (x.f0 = 0 ↔ post = []) → (w = [] ↔ x.f0 = 0) → post.length ≤ 100000 →
        Ev (fun k => sawmilllaw06_LexerOffsets.l0 k (B L) (pre ++ x :: post) ((p + skipS false (L.drop p) + w.length : Nat) : Int) ((pre.length + 1 : Nat) : Int)) true →
        Ev (fun k => sawmilllaw06_LexerOffsets.l0 k (B L) (pre ++ x :: post) (p : Int) (pre.length : Int)) true := by
      intro x post w h1 h3 hw hle hend hempty hpl hgo
      generalize hm : skipS false (L.drop p) = m at *
      refine Ev.step (fun k => by simp only [sawmilllaw06_LexerOffsets.l0]; rfl) ?_
      rw [rd_mid, h1, h3, B_size, B_size, B_list]
      rw [wadd (p + m) w.length (by omega)]
      refine Ev.pos (by simp; omega) (Ev.pos (by omega) (Ev.neg (by omega) (Ev.neg (by omega) (Ev.pos (by omega) (Ev.pos (by omega) (Ev.pos (by omega) (Ev.pos ?_ (Ev.pos (by omega) (Ev.pos (by omega) (Ev.pos (by omega) ?_))))))))))
      · rw [Int.toNat_natCast, Int.toNat_natCast, B_ext, B_list, show p + m + w.length - (p + m) = w.length by omega]; exact hw
      · refine Ev.bind hbt ?_
        refine Ev.step (fun k => by simp only [sawmilllaw06_LexerOffsets.j1]; rfl) ?_
        rw [B_list, B_size]
        rw [wadd (p + m) w.length (by omega), wsucc pre.length (by omega), wlast pre.length post.length (by omega) pre post x rfl rfl]
        refine Ev.neg (by simp) (Ev.neg ?_ (Ev.neg ?_ hgo))
        · by_cases hz : x.f0 = 0
          · have := hend.mp hz
            subst this
            simp [hz]
          · have hpost : post ≠ [] := fun e => hz (hend.mpr e)
            have hpos := List.length_pos_iff.mpr hpost
            have : ((pre.length : Int) == ((pre.length + post.length : Nat) : Int)) = false := by
              rw [beq_eq_false_iff_ne]; omega
            rw [this]
            have : (x.f0 == 0) = false := by rw [beq_eq_false_iff_ne]; exact hz
            rw [this]; simp
        · by_cases hz : x.f0 = 0
          · have := hempty.mpr hz
            subst this
            simp [hz]
          · have hwne : w ≠ [] := fun e => hz (hempty.mp e)
            have h1 : (x.f0 == 0) = false := by rw [beq_eq_false_iff_ne]; exact hz
            have h2 : (w == ([] : List UInt8)) = false := by rw [beq_eq_false_iff_ne]; exact hwne
            rw [h1, h2]; simp
    have hdd : (L.drop p).drop (skipS false (L.drop p)) = L.drop (p + skipS false (L.drop p)) := by rw [List.drop_drop]
    by_cases h0 : (L.drop p).drop (skipS false (L.drop p)) = []
    · rw [toks_end h0]
      have hend : p + skipS false (L.drop p) = L.length := by
        rw [hdd] at h0
        have := congrArg List.length h0
        simp only [List.length_drop, List.length_nil] at this
        omega
      refine one ⟨0, B [], 0, ((p + skipS false (L.drop p) : Nat) : Int)⟩ [] [] rfl rfl (by simp) (by rw [hend]; simp) (by simp) (by simp) (by simp) ?_
      refine Ev.step (fun k => by simp only [sawmilllaw06_LexerOffsets.l0]; rfl) ?_
      refine Ev.neg (by simp) (Ev.pos (by simp) (Ev.pos (by rw [B_size]; simp; omega) awake_then))
    · by_cases he : (firstS ((L.drop p).drop (skipS false (L.drop p)))).2.2.2 = 0
      · rw [toks_go h0 he] at he0 ⊢
        by_cases h1 : (toks f (far p (L.drop p)) (rest (L.drop p))).2.1 = 0
        · rw [if_pos h1]
          have hfl := firstS_len he
          have hr := rest_len he
          rw [List.length_drop] at hr
          have hln := hfl.2
          rw [List.length_drop, List.length_drop] at hln
          have hrest : rest (L.drop p) = L.drop (far p (L.drop p)) := by unfold rest far; rw [List.drop_drop, List.drop_drop, Nat.add_assoc]
          have hfar : far p (L.drop p) = p + skipS false (L.drop p) + (firstS ((L.drop p).drop (skipS false (L.drop p)))).2.1 := rfl
          have htl := toks_len ((rest (L.drop p)).length + 1) (far p (L.drop p)) (rest (L.drop p))
          rw [toks_fuel _ f _ _ (by omega) (by omega)] at htl
          have hne : (toks f (far p (L.drop p)) (rest (L.drop p))).1 ≠ [] := toks_ne _ _ _ (by omega) h1
          have hwl : (((L.drop p).drop (skipS false (L.drop p))).take (firstS ((L.drop p).drop (skipS false (L.drop p)))).2.1).length = (firstS ((L.drop p).drop (skipS false (L.drop p)))).2.1 := by
            rw [List.length_take, Nat.min_eq_left hfl.2]
          have hih := ih (far p (L.drop p)) (pre ++ [lexeme p (L.drop p)]) (by omega) (by omega) (by simp; omega)
          rw [← hrest] at hih
          have hih := hih h1
          have hfk := first_kind he
          · refine one (lexeme p (L.drop p)) _ (((L.drop p).drop (skipS false (L.drop p))).take (firstS ((L.drop p).drop (skipS false (L.drop p)))).2.1) rfl rfl ?_ (by rw [hwl]; omega) ?_ ?_ (by omega) ?_
            · rw [hwl, hdd]
            · exact ⟨fun h => absurd h hfk, fun h => absurd h hne⟩
            · exact ⟨fun h => absurd hfl.1 (by rw [← hwl, h]; simp), fun h => absurd h hfk⟩
            · rw [hwl, ← hfar]
              simpa using hih
        · rw [if_neg h1] at he0; exact absurd he0 h1
      · rw [toks_err h0 he] at he0; exact absurd he0 he

theorem LexerOffsets : sawmilllaw06_LexerOffsets.Pure := by
  intro s hs
  obtain ⟨L, rfl⟩ : ∃ L, s = B L := ⟨_, B_of s⟩
  rw [B_size] at hs
  refine Ev.rounds (r := true) ?_
  unfold sawmilllaw06_LexerOffsets.f
  rw [B_size]
  by_cases h : L.length > 3000
  · exact Ev.pos (by omega) awake_then
  · refine Ev.neg (by omega) ?_
    refine Ev.bind (scan_f L hs) ?_
    have e0 : scanS L = toks (L.length + 1) 0 L := by unfold scanS; rw [if_neg (by omega)]
    rw [e0]
    by_cases he : (toks (L.length + 1) 0 L).2.1 = 0
    · refine Ev.pos he ?_
      have := offs_l0 L (by omega) (L.length + 1) 0 [] (by omega) (by omega) (by simp) (by simpa using he)
      simpa using this
    · refine Ev.neg he (Ev.pos ?_ awake_then)
      rw [toks_nil' _ _ _ he]; rfl

end Go.Proofs.Ytkkjbfhlhkpgiaa.Pure
