/- The reference's Scan computes the plain law of the lexer, too. -/
import Derived.Test.YtkkjbfhlhkpgiaaLexRun
import Derived.Test.YtkkjbfhlhkpgiaaXLexx18
namespace Go.Proofs.Ytkkjbfhlhkpgiaa.Lex
open Go.RowKit Go.Proofs.Ytkkjbfhlhkpgiaa.XLex Go.Proofs.YtkkjbfhlhkpgiaaW.PrintWords Go.Proofs.YtkkjbfhlhkpgiaaW.PrintLast Go.Proofs.YtkkjbfhlhkpgiaaW.PrintMore
set_option linter.unusedSimpArgs false
set_option linter.unusedVariables false

theorem digit_r (c : UInt8) : sawmillref06_Digit.f (c.toNat : Int) = some (dig c) := isDigit_b c
theorem letter_r (c : UInt8) : sawmillref06_Letter.f (c.toNat : Int) = some (wrd c) := by
  unfold sawmillref06_Letter.f
  rw [digit_r]
  simp only [Option.bind_some]
  unfold wrd
  by_cases h1 : 97 ≤ c.toNat
  · rw [if_pos (by omega : (c.toNat : Int) ≥ 97)]
    by_cases h2 : c.toNat ≤ 122
    · rw [if_pos (by omega : (c.toNat : Int) ≤ 122)]; simp [h1, h2]
    · rw [if_neg (by omega : ¬ (c.toNat : Int) ≤ 122), if_pos (by omega : (c.toNat : Int) ≥ 65), if_neg (by omega : ¬ (c.toNat : Int) ≤ 90), if_neg (by omega : ¬ (c.toNat : Int) = 95)]
      have hf : dig c = false := by simp [dig]; omega
      have h90 : ¬ c.toNat ≤ 90 := by omega
      have h95 : ¬ c.toNat = 95 := by omega
      simp [hf, h1, h2, h90, h95]
  · rw [if_neg (by omega : ¬ (c.toNat : Int) ≥ 97)]
    by_cases h3 : 65 ≤ c.toNat
    · rw [if_pos (by omega : (c.toNat : Int) ≥ 65)]
      by_cases h4 : c.toNat ≤ 90
      · rw [if_pos (by omega : (c.toNat : Int) ≤ 90)]; simp [h3, h4]
      · rw [if_neg (by omega : ¬ (c.toNat : Int) ≤ 90)]
        by_cases h5 : c.toNat = 95
        · rw [if_pos (by omega : (c.toNat : Int) = 95)]; simp [h5]
        · rw [if_neg (by omega : ¬ (c.toNat : Int) = 95)]; simp [h1, h3, h4, h5]
    · rw [if_neg (by omega : ¬ (c.toNat : Int) ≥ 65), if_neg (by omega : ¬ (c.toNat : Int) = 95)]
      have h95 : ¬ c.toNat = 95 := by omega
      simp [h1, h3, h95]

theorem rskip_l0 (L : Bs) (hl : L.length ≤ 8000) : ∀ (d i : Nat) (r : Bool), L.length = i + d →
    Ev (fun k => sawmillref06_skip.l0 k (B L) (i : Int) r) ((i + skipS r (L.drop i) : Nat) : Int) := by
  intro d
  induction d with
  | zero =>
    intro i r h
    refine Ev.step (fun k => by simp only [sawmillref06_skip.l0]; rfl) ?_
    rw [B_size]
    refine Ev.neg (by omega) (Ev.val ?_)
    rw [List.drop_eq_nil_of_le (by omega)]; cases r <;> simp [skipS]
  | succ d ih =>
    intro i r h
    obtain ⟨c, t, hc⟩ := drop_some (l := L) (i := i) (by omega)
    have hn := drop_next hc
    refine Ev.step (fun k => by simp only [sawmillref06_skip.l0]; rfl) ?_
    rw [B_size, bt_B hc, w64 (x := (i : Int) + 1) (by omega) (by omega)]
    refine Ev.pos (by omega) (Ev.pos (by omega) ?_)
    have go : ∀ r', Ev (fun k => sawmillref06_skip.l0 k (B L) ((i : Int) + 1) r') ((i + 1 + skipS r' t : Nat) : Int) := by
      intro r'
      have := ih (i + 1) r' (by omega)
      rw [hn] at this; exact this
    by_cases h10 : c.toNat = 10
    · refine Ev.pos (by omega) (Ev.eq (go false) ?_)
      rw [hc]; cases r <;> simp [skipS, h10] <;> omega
    · refine Ev.neg (by omega) ?_
      cases r with
      | true =>
        refine Ev.pos (by simp) ?_
        refine Ev.step (fun k => by simp only [sawmillref06_skip.j1]; rfl) ?_
        rw [w64 (x := (i : Int) + 1) (by omega) (by omega)]
        refine Ev.pos (by simp) (Ev.eq (go true) ?_)
        rw [hc]; simp [skipS, h10]; omega
      | false =>
        refine Ev.neg (by simp) ?_
        refine Ev.step (fun k => by simp only [sawmillref06_skip.j1]; rfl) ?_
        rw [B_size, bt_B hc, w64 (x := (i : Int) + 1) (by omega) (by omega)]
        by_cases h32 : c.toNat = 32
        · refine Ev.pos (by simp [h32]) (Ev.eq (go false) ?_)
          rw [hc]; simp [skipS, h32]; omega
        · refine Ev.neg (by simp; omega) (Ev.pos (by omega) (Ev.pos (by omega) ?_))
          by_cases h35 : c.toNat = 35
          · refine Ev.pos (by omega) (Ev.eq (go true) ?_)
            rw [hc]; simp [skipS, h35]; omega
          · refine Ev.neg (by omega) (Ev.val ?_)
            rw [hc]; simp [skipS, h10, h32, h35]
theorem rskip_f (L : Bs) (hl : L.length ≤ 8000) (i : Nat) (hi : i ≤ L.length) : Ev (fun k => sawmillref06_skip.f k (B L) (i : Int)) ((i + skipS false (L.drop i) : Nat) : Int) :=
  rskip_l0 L hl (L.length - i) i false (by omega)

theorem rnumber_l0 (l : Bs) (hl : l.length ≤ 8000) : ∀ (d i : Nat) (n : Int), l.length = i + d → 0 ≤ n → n ≤ 1099511627776 →
    Ev (fun k => sawmillref06_number.l0 k (B l) n (i : Int)) (match num (l.drop i) n with | none => ((0 : Int), (9 : Int)) | some m => (m, 0)) := by
  intro d
  induction d with
  | zero =>
    intro i n h h0 h1
    refine Ev.step (fun k => by simp only [sawmillref06_number.l0]; rfl) ?_
    rw [B_size]
    refine Ev.neg (by omega) (Ev.val ?_)
    rw [List.drop_eq_nil_of_le (by omega)]; rfl
  | succ d ih =>
    intro i n h h0 h1
    obtain ⟨c, t, hc⟩ := drop_some (l := l) (i := i) (by omega)
    have hb := byte48 c
    refine Ev.step (fun k => by simp only [sawmillref06_number.l0]; rfl) ?_
    rw [B_size]
    refine Ev.pos (by omega) (Ev.pos (by omega) ?_)
    rw [bt_B hc, w64 (x := n * 10) (by omega) (by omega), Int.mul_comm n 10, w64 (x := 10 * n + _) (by omega) (by omega), hc]
    by_cases hg : 10 * n + ((c.toNat : Int) - 48) % 256 > 1099511627776
    · refine Ev.pos hg (Ev.val ?_)
      simp only [num, if_pos hg]
    · refine Ev.neg hg ?_
      rw [w64 (by omega) (by omega)]
      have := ih (i + 1) _ (by omega) (by omega : 0 ≤ 10 * n + ((c.toNat : Int) - 48) % 256) (by omega)
      refine Ev.eq this ?_
      rw [drop_next hc]; simp only [num, if_neg hg]
theorem rnumber_f (l : Bs) (hl : l.length ≤ 8000) : Ev (fun k => sawmillref06_number.f k (B l)) (numberS l) := by
  have hnum : Ev (fun k => sawmillref06_number.l0 k (B l) 0 0) (match num l 0 with | none => ((0 : Int), (9 : Int)) | some m => (m, 0)) := by
    have := rnumber_l0 l hl l.length 0 0 (by omega) (by omega) (by omega)
    simpa using this
  have hno : ¬ (l.length > 1 ∧ l.head? = some 48) → (match num l 0 with | none => ((0 : Int), (9 : Int)) | some m => (m, 0)) = numberS l := by
    intro hn
    unfold numberS; rw [if_neg hn]; rfl
  unfold sawmillref06_number.f
  rw [B_size]
  by_cases h1 : l.length > 1
  · refine Ev.pos (by omega) (Ev.pos (by omega) ?_)
    cases l with
    | nil => simp at h1
    | cons c t =>
      have hb : bt (B (c :: t)) 0 = (c.toNat : Int) := bt_B (l := c :: t) (i := 0) (t := t) rfl
      rw [hb, head48 (t := t)]
      refine Ev.step (fun k => by simp only [sawmillref06_number.j0]; rfl) ?_
      by_cases h2 : (c :: t).head? = some 48
      · refine Ev.pos (by simpa using h2) (Ev.val ?_)
        unfold numberS; rw [if_pos ⟨h1, h2⟩]
      · refine Ev.neg (by simpa using h2) ?_
        exact Ev.eq hnum (hno (fun h => h2 h.2))
  · refine Ev.neg (by omega) ?_
    refine Ev.step (fun k => by simp only [sawmillref06_number.j0]; rfl) ?_
    refine Ev.neg (by simp) ?_
    exact Ev.eq hnum (hno (fun h => h1 h.1))

/-! ### marks -/
def firstMark (l : Bs) : List Bs → Bs
  | [] => []
  | m :: ms => if l.take m.length = m then m else firstMark l ms
theorem take_len {l m : Bs} (h : l.take m.length = m) : m.length ≤ l.length := by
  have := congrArg List.length h
  rw [List.length_take] at this; omega
theorem rmark_l0 (l : Bs) (hl : l.length ≤ 8000) (ms : List Bs) (hm : ms.length ≤ 100) : ∀ (d i : Nat), ms.length = i + d →
    Ev (fun k => sawmillref06_mark.l0 k (B l) (ms.map B) (i : Int)) (B (firstMark l (ms.drop i))) := by
  intro d
  induction d with
  | zero =>
    intro i h
    refine Ev.step (fun k => by simp only [sawmillref06_mark.l0]; rfl) ?_
    rw [List.length_map]
    refine Ev.neg (by omega) (Ev.val ?_)
    rw [List.drop_eq_nil_of_le (by omega)]; rfl
  | succ d ih =>
    intro i h
    have hi : i < ms.length := by omega
    have hd := List.drop_eq_getElem_cons hi
    have hrd : rdOf ByteArray.empty (ms.map B) (i : Int) = B ms[i] := by
      unfold rdOf
      rw [List.getD_eq_getElem?_getD]
      simp [hi]
    refine Ev.step (fun k => by simp only [sawmillref06_mark.l0]; rfl) ?_
    rw [List.length_map, hrd, B_size, B_size, B_take, B_list, B_list, w64 (x := (i : Int) + 1) (by omega) (by omega), hd]
    refine Ev.pos (by omega) (Ev.pos (by omega) ?_)
    by_cases hge : (l.length : Int) ≥ (ms[i].length : Int)
    · refine Ev.pos hge (Ev.pos (by omega) (Ev.pos (by omega) ?_))
      by_cases he : l.take ms[i].length = ms[i]
      · refine Ev.pos he (Ev.val ?_)
        simp only [firstMark, if_pos he]
      · refine Ev.neg he (Ev.eq (ih (i + 1) (by omega)) ?_)
        simp only [firstMark, if_neg he]
    · refine Ev.neg hge (Ev.eq (ih (i + 1) (by omega)) ?_)
      have he : ¬ l.take ms[i].length = ms[i] := fun h => hge (by have := take_len h; omega)
      simp only [firstMark, if_neg he]
theorem firstMark_app (l : Bs) : ∀ a b : List Bs, (∀ m ∈ a, m ≠ []) → firstMark l (a ++ b) = if firstMark l a = [] then firstMark l b else firstMark l a
  | [], b, _ => by simp [firstMark]
  | m :: a, b, h => by
    have ih := firstMark_app l a b (fun x hx => h x (by simp [hx]))
    by_cases he : l.take m.length = m
    · have e1 : firstMark l (m :: a) = m := by simp only [firstMark, if_pos he]
      have e2 : firstMark l (m :: a ++ b) = m := by simp only [List.cons_append, firstMark, if_pos he]
      simp only [e1, e2, if_neg (h m (by simp))]
    · have e1 : firstMark l (m :: a) = firstMark l a := by simp only [firstMark, if_neg he]
      have e2 : firstMark l (m :: a ++ b) = firstMark l (a ++ b) := by simp only [List.cons_append, firstMark, if_neg he]
      simp only [e1, e2, ih]
theorem firstMark_len (l : Bs) (n : Nat) : ∀ a : List Bs, (∀ m ∈ a, m.length = n) → firstMark l a = if l.take n ∈ a then l.take n else []
  | [], _ => by simp [firstMark]
  | m :: a, h => by
    have ih := firstMark_len l n a (fun x hx => h x (by simp [hx]))
    have hm := h m (by simp)
    simp only [firstMark, hm, ih, List.mem_cons]
    by_cases he : l.take n = m
    · rw [if_pos he, if_pos (.inl he)]; exact he.symm
    · rw [if_neg he]
      by_cases h2 : l.take n ∈ a
      · rw [if_pos h2, if_pos (.inr h2)]
      · rw [if_neg h2, if_neg (by simp [he, h2])]
theorem firstMark_marks (l : Bs) : firstMark l (marks2 ++ marks1) = l.take (markS l) := by
  rw [firstMark_app _ _ _ (by decide), firstMark_len l 2 marks2 (by decide), firstMark_len l 1 marks1 (by decide)]
  unfold markS
  by_cases h2 : l.take 2 ∈ marks2
  · have hne : l.take 2 ≠ [] := fun h => by rw [h] at h2; simp [marks2] at h2
    simp only [if_pos h2, if_neg hne]
  · simp only [if_neg h2, if_true]
    by_cases h1 : l.take 1 ∈ marks1
    · simp only [if_pos h1]
    · simp only [if_neg h1, List.take_zero]
theorem marks_eq : sawmillref06_Marks.f = some ((marks2 ++ marks1).map B) := rfl
theorem rmark_f (l : Bs) (hl : l.length ≤ 8000) : Ev (fun k => sawmillref06_mark.f k (B l)) (B (l.take (markS l))) := by
  unfold sawmillref06_mark.f
  refine Ev.bindc marks_eq ?_
  have := rmark_l0 l hl (marks2 ++ marks1) (by decide) (marks2 ++ marks1).length 0 (by omega)
  rw [List.drop_zero, firstMark_marks] at this
  exact this
theorem markS_le (c : UInt8) (t : Bs) : markS (c :: t) ≤ (c :: t).length := by
  unfold markS
  split
  · rename_i hm
    cases t with
    | nil => simp [marks2] at hm
    | cons d t => simp
  · split <;> simp

/-! ### a text -/
/-- the loops over digits and letters of a name -/
theorem l1_run (L : Bs) (hl : L.length ≤ 8000) (out : List S32) (p : Nat) (a : Int) (b : ByteArray) (g e : Int) (r : List S32 × Int × Int) : ∀ (d i : Nat), L.length = i + d →
    Ev (fun k => sawmillref06_Scan.j2 k (B L) out (p : Int) ((i + ((L.drop i).takeWhile dig).length : Nat) : Int) a b g e) r → Ev (fun k => sawmillref06_Scan.l1 k (B L) out (p : Int) (i : Int) a b g e) r := by
  intro d
  induction d with
  | zero =>
    intro i h hj
    refine Ev.step (fun k => by simp only [sawmillref06_Scan.l1]; rfl) ?_
    rw [B_size]
    refine Ev.neg (by omega) ?_
    rw [List.drop_eq_nil_of_le (by omega)] at hj
    exact hj
  | succ d ih =>
    intro i h hj
    obtain ⟨c, t, hc⟩ := drop_some (l := L) (i := i) (by omega)
    refine Ev.step (fun k => by simp only [sawmillref06_Scan.l1]; rfl) ?_
    rw [B_size, bt_B hc, w64 (x := (i : Int) + 1) (by omega) (by omega)]
    refine Ev.pos (by omega) (Ev.pos (by omega) ?_)
    refine Ev.bindc (digit_r c) ?_
    rw [hc, List.takeWhile_cons] at hj
    by_cases hp : dig c = true
    · refine Ev.pos hp (ih (i + 1) (by omega) ?_)
      rw [if_pos hp, List.length_cons] at hj
      rw [drop_next hc, show i + 1 + (t.takeWhile dig).length = i + ((t.takeWhile dig).length + 1) by omega]
      exact hj
    · refine Ev.neg hp ?_
      rw [if_neg hp] at hj
      exact hj
theorem l2_run (L : Bs) (hl : L.length ≤ 8000) (out : List S32) (p : Nat) (a : Int) (b : ByteArray) (g e : Int) (r : List S32 × Int × Int) : ∀ (d i : Nat), L.length = i + d → p ≤ i →
    Ev (fun k => if wrap64 (((i + ((L.drop i).takeWhile wrd).length : Nat) : Int) - (p : Int)) > 16 then some (([] : List S32), 6, (p : Int)) else if 0 ≤ (p : Int) then if (p : Int) ≤ ((i + ((L.drop i).takeWhile wrd).length : Nat) : Int) then if ((i + ((L.drop i).takeWhile wrd).length : Nat) : Int) ≤ ((B L).size : Int) then if out.length < 3518437208883 then (sawmillref06_skip.f k (B L) ((i + ((L.drop i).takeWhile wrd).length : Nat) : Int)).bind fun t => sawmillref06_Scan.l0 k (B L) (out ++ [(⟨1, (B L).extract (p : Int).toNat (((i + ((L.drop i).takeWhile wrd).length : Nat) : Int)).toNat, g, e⟩ : S32)]) t else none else none else none else none) r →
    Ev (fun k => sawmillref06_Scan.l2 k (B L) out (p : Int) (i : Int) a b g e) r := by
  intro d
  induction d with
  | zero =>
    intro i h hp hj
    refine Ev.step (fun k => by simp only [sawmillref06_Scan.l2]; rfl) ?_
    refine Ev.neg (by rw [B_size]; omega) ?_
    rw [List.drop_eq_nil_of_le (by omega)] at hj
    exact hj
  | succ d ih =>
    intro i h hp hj
    obtain ⟨c, t, hc⟩ := drop_some (l := L) (i := i) (by omega)
    refine Ev.step (fun k => by simp only [sawmillref06_Scan.l2]; rfl) ?_
    rw [bt_B hc, w64 (x := (i : Int) + 1) (by omega) (by omega)]
    refine Ev.pos (by rw [B_size]; omega) (Ev.pos (by omega) ?_)
    refine Ev.bindc (letter_r c) ?_
    rw [hc, List.takeWhile_cons] at hj
    by_cases hw : wrd c = true
    · refine Ev.pos hw (ih (i + 1) (by omega) (by omega) ?_)
      rw [if_pos hw, List.length_cons] at hj
      rw [drop_next hc, show i + 1 + (t.takeWhile wrd).length = i + ((t.takeWhile wrd).length + 1) by omega]
      exact hj
    · refine Ev.neg hw ?_
      rw [if_neg hw] at hj
      exact hj
theorem rscan_l0 (L : Bs) (hl : L.length ≤ 8000) : ∀ (f p : Nat) (out : List S32), L.length - p < f → p ≤ L.length → out.length ≤ p →
    Ev (fun k => sawmillref06_Scan.l0 k (B L) out ((p + skipS false (L.drop p) : Nat) : Int)) (withOut out (toks f p (L.drop p))) := by
  intro f
  induction f with
  | zero => intro p out h; omega
  | succ f ih =>
    intro p out h hp ho
    have ho' : out.length < 3518437208883 := room_of ho hp hl
    have hsk := skipS_le (L.drop p) false
    rw [List.length_drop] at hsk
    refine Ev.step (fun k => by simp only [sawmillref06_Scan.l0]; rfl) ?_
    rw [toks.eq_2, List.drop_drop]
    generalize skipS false (L.drop p) = m at hsk ⊢
    by_cases hlt : p + m < L.length
    · obtain ⟨c, t, hc⟩ := drop_some hlt
      have hT : (c :: t).length = L.length - (p + m) := by rw [← hc]; simp
      refine Ev.pos (by rw [B_size]; omega) (Ev.pos (by omega) ?_)
      rw [bt_B hc]
      refine Ev.bindc (digit_r c) ?_
      rw [hc, if_neg (by simp)]
      -- what follows behind a lexeme of kind kd, length ln, number nv
      have follow : ∀ (kd : Int) (ln : Nat) (nv : Int), 0 < ln → ln ≤ (c :: t).length →
          Ev (fun k => (sawmillref06_skip.f k (B L) ((p + m + ln : Nat) : Int)).bind fun t_ => sawmillref06_Scan.l0 k (B L) (out ++ [(⟨kd, (B L).extract (((p + m : Nat) : Int)).toNat (((p + m + ln : Nat) : Int)).toNat, nv, ((p + m : Nat) : Int)⟩ : S32)]) t_)
            (withOut out (if (toks f (p + m + ln) ((c :: t).drop ln)).2.1 = 0 then (⟨kd, B ((c :: t).take ln), nv, ((p + m : Nat) : Int)⟩ :: (toks f (p + m + ln) ((c :: t).drop ln)).1, 0, 0) else ([], (toks f (p + m + ln) ((c :: t).drop ln)).2))) := by
        intro kd ln nv h0 h1
        refine Ev.bind (rskip_f L hl (p + m + ln) (by omega)) ?_
        have e3 : (c :: t).drop ln = L.drop (p + m + ln) := by rw [← hc, List.drop_drop]
        have e4 : (B L).extract (((p + m : Nat) : Int)).toNat (((p + m + ln : Nat) : Int)).toNat = B ((c :: t).take ln) := by
          rw [Int.toNat_natCast, Int.toNat_natCast, B_ext, hc, show p + m + ln - (p + m) = ln by omega]
        rw [e3, e4]
        have hih := ih (p + m + ln) (out ++ [⟨kd, B ((c :: t).take ln), nv, ((p + m : Nat) : Int)⟩]) (by omega) (by omega) (by simp; omega)
        refine Ev.eq hih ?_
        generalize toks f (p + m + ln) (L.drop (p + m + ln)) = R
        obtain ⟨xs, e', o'⟩ := R
        by_cases hr : e' = 0
        · simp [withOut, hr]
        · simp [withOut, hr]
      clear ih
      rw [firstS_cons]
      by_cases hd : dig c = true
      · refine Ev.pos hd ?_
        rw [if_pos hd]
        refine l1_run L hl out (p + m) _ _ _ _ _ (L.length - (p + m)) (p + m) (by omega) ?_
        rw [hc]
        have hle := takeWhile_le dig (c :: t)
        have hpos : 0 < ((c :: t).takeWhile dig).length := by simp [List.takeWhile_cons, hd]
        have hnum := rnumber_f ((c :: t).takeWhile dig) (by omega)
        have htt := take_takeWhile dig (c :: t)
        generalize numberS ((c :: t).takeWhile dig) = N at hnum ⊢
        have e4 : (B L).extract (((p + m : Nat) : Int)).toNat (((p + m + ((c :: t).takeWhile dig).length : Nat) : Int)).toNat = B ((c :: t).takeWhile dig) := by
          rw [Int.toNat_natCast, Int.toNat_natCast, B_ext, hc, show p + m + ((c :: t).takeWhile dig).length - (p + m) = ((c :: t).takeWhile dig).length by omega, htt]
        have hfo := follow 2 ((c :: t).takeWhile dig).length N.1 hpos hle
        refine Ev.step (fun k => by simp only [sawmillref06_Scan.j2]; rfl) ?_
        refine Ev.pos (by omega) (Ev.pos (by omega) (Ev.pos (by rw [B_size]; omega) ?_))
        rw [e4] at hfo ⊢
        refine Ev.bind hnum ?_
        by_cases h2 : N.2 = 0
        · refine Ev.pos h2 (Ev.pos ho' ?_)
          rw [if_pos h2]
          exact hfo
        · refine Ev.neg h2 (Ev.val ?_)
          rw [if_neg h2]
          simp [withOut, h2]
      · refine Ev.neg hd ?_
        rw [if_neg hd]
        refine Ev.bindc (letter_r c) ?_
        by_cases hw : wrd c = true
        · refine Ev.pos hw ?_
          rw [if_pos hw]
          refine l2_run L hl out (p + m) _ _ _ _ _ (L.length - (p + m)) (p + m) (by omega) (by omega) ?_
          rw [hc]
          have hle := takeWhile_le wrd (c :: t)
          have hpos : 0 < ((c :: t).takeWhile wrd).length := by simp [List.takeWhile_cons, hw]
          have hfo := follow 1 ((c :: t).takeWhile wrd).length 0 hpos hle
          rw [w64 (x := ((p + m + ((c :: t).takeWhile wrd).length : Nat) : Int) - ((p + m : Nat) : Int)) (by omega) (by omega)]
          by_cases h3 : ((c :: t).takeWhile wrd).length > 16
          · refine Ev.pos (by omega) (Ev.val ?_)
            rw [if_pos h3]
            simp [withOut]
          · refine Ev.neg (by omega) (Ev.pos (by omega) (Ev.pos (by omega) (Ev.pos (by rw [B_size]; omega) (Ev.pos ho' ?_))))
            rw [if_neg h3]
            exact hfo
        · refine Ev.neg hw ?_
          rw [if_neg hw]
          refine Ev.pos (by rw [B_size]; omega) ?_
          have hx : (B L).extract (((p + m : Nat) : Int).toNat) (B L).size = B (c :: t) := by
            rw [Int.toNat_natCast, B_drop, hc]
          rw [hx]
          refine Ev.bind (rmark_f (c :: t) (by omega)) ?_
          have hml := markS_le c t
          have hfo := follow 3 (markS (c :: t)) 0
          rw [B_list]
          generalize markS (c :: t) = q at hml hfo ⊢
          by_cases h3 : q = 0
          · subst h3
            refine Ev.pos (by simp) (Ev.val ?_)
            simp [withOut]
          · rw [if_neg h3]
            refine Ev.neg (by simp; omega) ?_
            have hsz : ((B ((c :: t).take q)).size : Int) = (q : Int) := by rw [B_size, List.length_take, Nat.min_eq_left hml]
            rw [hsz]
            have e1 : wrap64 (((p + m : Nat) : Int) + (q : Int)) = ((p + m + q : Nat) : Int) := by rw [w64 (by omega) (by omega)]; omega
            rw [e1]
            clear e1
            refine Ev.pos (by omega) (Ev.pos (by rw [B_size]; omega) (Ev.pos ho' ?_))
            exact hfo (by omega) hml
    · have e0 : p + m = L.length := by omega
      refine Ev.neg (by rw [B_size]; omega) (Ev.pos ho' (Ev.val ?_))
      rw [if_pos (List.drop_eq_nil_of_le (by omega)), e0]
      simp [withOut, B]
      rfl
theorem rscan_f (L : Bs) (hl : L.length ≤ 140737488351232) : Ev (fun k => sawmillref06_Scan.f k (B L)) (scanS L) := by
  unfold sawmillref06_Scan.f scanS
  rw [B_size]
  by_cases h : L.length > 8000
  · rw [if_pos h]; exact Ev.pos (by omega) (Ev.val rfl)
  · rw [if_neg h]
    refine Ev.neg (by omega) ?_
    have h0 := rskip_f L (by omega) 0 (by omega)
    simp only [List.drop_zero, Nat.zero_add] at h0
    refine Ev.bind h0 ?_
    have := rscan_l0 L (by omega) (L.length + 1) 0 [] (by omega) (by omega) (by simp)
    simp only [List.drop_zero, Nat.zero_add] at this
    exact Ev.eq this (withOut_nil _ _ _)
end Go.Proofs.Ytkkjbfhlhkpgiaa.Lex
