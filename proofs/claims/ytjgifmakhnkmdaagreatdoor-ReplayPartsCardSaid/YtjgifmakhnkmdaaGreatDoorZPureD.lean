import Derived.Lib.ItoaLen
import Derived.Test.YtjgifmakhnkmdaaGreatDoorZPureC
import Derived.Test.YtjgifmakhnkmdaaGreatDoorZPureA
import Derived.Test.YtjgifmakhnkmdaaGreatDoorZCutC
namespace Go.Proofs.YtjgifmakhnkmdaaGreatDoor.Pure
open Go.RowKit Go.Proofs.YtjgifmakhnkmdaaGreatDoor.XRep Go.Proofs.YtjgifmakhnkmdaaGreatDoorW.PrintWords Go.Proofs.YtjgifmakhnkmdaaGreatDoorW.PrintLast Go.Proofs.YtjgifmakhnkmdaaGreatDoorW.PrintMore
set_option linter.unusedVariables false
set_option linter.unusedSimpArgs false
theorem sz_nums (l : List Int) : (strOfNums l).size = l.length := by simp [strOfNums, ByteArray.size]
theorem sz_app (a b : ByteArray) : (a ++ b).size = a.size + b.size := ByteArray.size_append
theorem itoa_f (x : Int) (h0 : -9223372036854775808 ≤ x) (h1 : x ≤ 9223372036854775807) : ∃ r, Zbr.f x = some r ∧ r.size ≤ 21 := by
 unfold Zbr.f
 rw [if_pos h0, if_pos h1]
 refine ⟨_, rfl, ?_⟩
 show (Lib.itoa x).toArray.size ≤ 21
 rw [List.size_toArray]
 exact Lib.itoa_length_le x h0 h1
theorem two_f (x : Int) : ∃ r, Zct.f x = some r ∧ r.size = 2 := ⟨_, rfl, by rw [sz_nums]; rfl⟩
theorem one_sz (c : UInt8) : (⟨#[c]⟩ : ByteArray).size = 1 := rfl
theorem format_f (t : Int) (h0 : 0 ≤ t) (h1 : t ≤ 10000000) : ∃ r, Zby.f t = some r ∧ r.size ≤ 40 := by
 unfold Zby.f
 have e : Zbz.f t = some true := by
  unfold Zbz.f
  rw [if_pos h0, decide_eq_true h1]
 rw [e, Option.bind_some, if_pos rfl]
 obtain ⟨r1, e1, z1⟩ := itoa_f (wrap64 (Int.tdiv t 1440)) (by unfold wrap64; omega) (by unfold wrap64; omega)
 rw [e1, Option.bind_some]
 obtain ⟨r2, e2, z2⟩ := two_f (wrap64 (Int.tdiv (Int.tmod t 1440) 60))
 obtain ⟨r3, e3, z3⟩ := two_f (Int.tmod t 60)
 rw [e2, e3, Option.bind_some, Option.bind_some]
 simp only [sz_app, one_sz, z2, z3]
 rw [if_pos (by omega), if_pos (by omega), if_pos (by omega), if_pos (by omega), if_pos (by omega)]
 refine ⟨_, rfl, ?_⟩
 simp only [sz_app, one_sz, z2, z3]
 omega
theorem line_l1 (l : List Int) (hn : l.length ≤ 200) (hin : l.all inB = true) : ∀ (d i : Nat) (x : ByteArray), l.length = i + d → x.size ≤ 100 + i * 30 →
  T (d + 1) (fun k => Zcq.l1 k x l (l.length : Int) (i : Int)) (fun r => r.size ≤ 10000) := by
 intro d
 induction d with
 | zero =>
  intro i x h hx
  refine T.step (fun k => by simp only [Zcq.l1]; rfl) ?_
  refine T.neg (by omega) (T.pos (by omega) (T.val ?_))
  show (x ++ (⟨#[10]⟩ : ByteArray)).size ≤ 10000
  rw [sz_app, one_sz]; omega
 | succ d ih =>
  intro i x h hx
  have hi : i < l.length := by omega
  refine T.step (fun k => by simp only [Zcq.l1]; rfl) ?_
  have hb := List.all_eq_true.mp hin _ (List.getElem_mem hi)
  unfold inB at hb
  simp only [Bool.and_eq_true, decide_eq_true_eq] at hb
  rw [next' i (by omega), rdI l i hi]
  obtain ⟨r, e, z⟩ := itoa_f l[i] (by omega) (by omega)
  refine T.pos (by omega) (T.pos (by omega) (T.pos (by omega) (T.bindc e (T.pos (by omega) (T.pos ?_ (ih (i + 1) _ (by omega) ?_))))))
  ·rw [sz_app, one_sz]; omega
  ·rw [sz_app, sz_app, one_sz]; omega
theorem kname_sz (n : Int) : (kindOf n).name.size ≤ 6 := by
 by_cases hn : 1 ≤ n ∧ n ≤ 14
 ·have h : n = 1 ∨ n = 2 ∨ n = 3 ∨ n = 4 ∨ n = 5 ∨ n = 6 ∨ n = 7 ∨ n = 8 ∨ n = 9 ∨ n = 10 ∨ n = 11 ∨ n = 12 ∨ n = 13 ∨ n = 14 := by omega
  rcases h with rfl | rfl | rfl | rfl | rfl | rfl | rfl | rfl | rfl | rfl | rfl | rfl | rfl | rfl <;> decide
 ·have e : kindOf n = ⟨⟨#[]⟩, 0, 0, 130, some 0⟩ := by
   unfold kindOf
   iterate 14 rw [if_neg (by omega)]
  rw [e]
  decide
theorem line_f (e : S34) (hn : e.f4.length ≤ 200) : T 300 (fun k => Zcq.f k e.f0 e.f1 e.f2 e.f3 e.f4 e.f5) (fun r => r.size ≤ 10000) := by
 unfold Zcq.f
 refine T.bindc rfl (T.ite (fun hc => ?_) (fun _ => T.val (Nat.zero_le _)))
 have hev := ev_of e (by unfold okE; rw [decide_eq_true_eq]; exact hc)
 obtain ⟨r, er, zr⟩ := format_f e.f1 hev.t.1 hev.t.2
 have hname := kname_sz e.f0
 have h2 := hev.s2
 have h3 := hev.s3
 generalize hnm : (kindOf e.f0).name = nm at hname
 have hnf : Zcr.f e.f0 = some nm := by rw [← hnm]; rfl
 refine T.bindc er (T.pos (by omega) (T.bindc hnf (T.pos (by rw [sz_app, one_sz]; omega) (T.bindc rfl ?_))))
 generalize hx : (r ++ (⟨#[32]⟩ : ByteArray)) ++ nm = x
 have zx : x.size ≤ 47 := by rw [← hx, sz_app, sz_app, one_sz]; omega
 have fin : ∀ y : ByteArray, y.size ≤ 100 → T 250 (fun k => Zcq.l1 k y e.f4 (e.f4.length : Int) 0) (fun r => r.size ≤ 10000) := fun y hy => (line_l1 e.f4 hn hev.n e.f4.length 0 y (by omega) (by omega)).up (by omega)
 have st2 : ∀ y : ByteArray, y.size ≤ 70 → T 251 (fun k => Zcq.l0 k y [e.f2, e.f3] 2 2 e.f0 e.f1 e.f2 e.f3 e.f4 e.f5) (fun r => r.size ≤ 10000) := by
  intro y hy
  refine T.step (fun k => by simp only [Zcq.l0]; rfl) ?_
  exact T.neg (by decide) (fin y (by omega))
 have st1 : ∀ y : ByteArray, y.size ≤ 60 → T 252 (fun k => Zcq.l0 k y [e.f2, e.f3] 2 1 e.f0 e.f1 e.f2 e.f3 e.f4 e.f5) (fun r => r.size ≤ 10000) := by
  intro y hy
  refine T.step (fun k => by simp only [Zcq.l0]; rfl) ?_
  have er1 : rdOf ByteArray.empty [e.f2, e.f3] 1 = e.f3 := rfl
  rw [er1, show wrap64 (1 + 1) = 2 from w64' (by decide) (by decide)]
  refine T.pos (by decide) (T.pos (by decide) (T.pos (by simp) (T.ite (fun _ => st2 y (by omega)) (fun _ => T.pos (by omega) (T.pos (by rw [sz_app, one_sz]; omega) (st2 _ ?_))))))
  rw [sz_app, sz_app, one_sz]; omega
 refine T.up (n := 253) (T.step (fun k => by simp only [Zcq.l0]; rfl) ?_) (by omega)
 have er0 : rdOf ByteArray.empty [e.f2, e.f3] 0 = e.f2 := rfl
 rw [er0, show wrap64 (0 + 1) = 1 from w64' (by decide) (by decide), show (([e.f2, e.f3].length : Nat) : Int) = 2 from rfl]
 refine T.pos (by simp) (T.pos (by decide) (T.pos (by simp) (T.ite (fun _ => st1 x (by omega)) (fun _ => T.pos (by omega) (T.pos (by rw [sz_app, one_sz]; omega) (st1 _ ?_))))))
 rw [sz_app, sz_app, one_sz]; omega
theorem line_of (e : S34) (hn : e.f4.length ≤ 200) : (lineK e).isSome = true ∧ (lineOf e).size ≤ 10000 ∧ ∀ k, 300 ≤ k → Zcq.f k e.f0 e.f1 e.f2 e.f3 e.f4 e.f5 = some (lineOf e) := by
 obtain ⟨r, h1, h2⟩ := line_f e hn
 have e1 : lineK e = some r := h2 KK (by unfold KK; omega)
 have e2 : lineOf e = r := by unfold lineOf; rw [e1]; rfl
 rw [e1, e2]
 exact ⟨rfl, h1, h2⟩
def prs : List Int → List (Int × Int)
 | a :: b :: r => (a, b) :: prs r
 | _ => []
theorem prs_sub (fam : List Int) : ∀ (l : List Int), (prs (pairsOf fam l)).Sublist (prs l) ∧ (pairsOf fam l).length % 2 = 0
 | [] => ⟨List.Sublist.refl _, rfl⟩
 | [_] => ⟨List.Sublist.refl _, rfl⟩
 | a :: b :: r => by
  obtain ⟨h1, h2⟩ := prs_sub fam r
  unfold pairsOf
  by_cases hb : b ∈ fam
  ·rw [if_pos hb]
   exact ⟨List.Sublist.cons_cons _ h1, by simp only [List.length_cons]; omega⟩
  ·rw [if_neg hb]
   exact ⟨List.Sublist.cons _ h1, h2⟩
theorem pairsOf_len (fam : List Int) : ∀ (l : List Int), (pairsOf fam l).length ≤ l.length
 | [] => Nat.le_refl _
 | [_] => Nat.zero_le _
 | a :: b :: r => by
  have h := pairsOf_len fam r
  unfold pairsOf
  split
  ·simp only [List.length_cons]; omega
  ·simp only [List.length_cons]; omega
theorem prs_drop (l : List Int) (i : Nat) (h : i + 1 < l.length) : prs (l.drop i) = (l[i], l[i + 1]) :: prs (l.drop (i + 2)) := by
 rw [List.drop_eq_getElem_cons (show i < l.length by omega), List.drop_eq_getElem_cons h]
 rfl
theorem prs_end (l : List Int) (i : Nat) (h : ¬ i + 1 < l.length) : prs (l.drop i) = [] := by
 have hl : (l.drop i).length ≤ 1 := by rw [List.length_drop]; omega
 match hx : l.drop i with
 | [] => rfl
 | [_] => rfl
 | a :: b :: r => rw [hx] at hl; simp at hl
theorem sub_tail {A : Type} {a b : A} {xs bs : List A} (h : (a :: xs).Sublist (b :: bs)) : xs.Sublist bs := by
 cases h with
 | cons _ h => exact (List.sublist_cons_self _ _).trans h
 | cons_cons _ h => exact h
theorem sub_skip {A : Type} {a b : A} {xs bs : List A} (h : (a :: xs).Sublist (b :: bs)) (hne : a ≠ b) : (a :: xs).Sublist bs := by
 cases h with
 | cons _ h => exact h
 | cons_cons _ h => exact absurd rfl hne
def WQ (a b : List Int) (k i : Nat) (r : Bool) : Prop := a.length % 2 = 0 → k % 2 = 0 → k ≤ a.length → (prs (a.drop k)).Sublist (prs (b.drop i)) → r = true
theorem within_l0 (a b : List Int) (ha : a.length ≤ 200) (hb : b.length ≤ 200) : ∀ (d i k : Nat), b.length < i + d → i ≤ 202 → k ≤ 202 → T (2 * d + 10) (fun n => Zap.l0 n a b (k : Int) (i : Int)) (WQ a b k i) := by
 intro d
 induction d with
 | zero =>
  intro i k h hi hk
  refine T.step (n := 9) (fun k => by simp only [Zap.l0]; rfl) ?_
  rw [next' i (by omega)]
  refine T.neg (by omega) (T.step (n := 8) (fun k => by simp only [Zap.j1]; rfl) (T.neg (by simp) (T.val ?_)))
  intro h1 h2 h3 h4
  rw [prs_end b i (by omega)] at h4
  have h5 : prs (a.drop k) = [] := List.sublist_nil.mp h4
  rw [beq_iff_eq]
  by_cases hka : k + 1 < a.length
  ·rw [prs_drop a k hka] at h5; cases h5
  ·omega
 | succ d ih =>
  intro i k h hi hk
  refine T.step (n := 2 * d + 11) (fun k => by simp only [Zap.l0]; rfl) ?_
  rw [next' i (by omega), next' k (by omega)]
  have out : ∀ z : Bool, z = false → (¬ k + 1 < a.length ∨ ¬ i + 1 < b.length) → T (2 * d + 11) (fun n => Zap.j1 n a b (k : Int) (i : Int) z) (WQ a b k i) := by
   intro z hz ho
   subst hz
   refine T.step (n := 2 * d + 10) (fun k => by simp only [Zap.j1]; rfl) (T.neg (by simp) (T.val ?_))
   intro h1 h2 h3 h4
   rw [beq_iff_eq]
   by_cases hka : k + 1 < a.length
   ·rcases ho with ho | ho
    ·exact absurd hka ho
    ·rw [prs_end b i ho] at h4
     have h5 : prs (a.drop k) = [] := List.sublist_nil.mp h4
     rw [prs_drop a k hka] at h5; cases h5
   ·omega
  by_cases hib : i + 1 < b.length
  ·refine T.pos (by omega) ?_
   by_cases hka : k + 1 < a.length
   ·rw [decide_eq_true (show ((k + 1 : Nat) : Int) < (a.length : Int) by omega)]
    refine T.step (n := 2 * d + 10) (fun k => by simp only [Zap.j1]; rfl) ?_
    refine T.pos (by simp) ?_
    rw [next' i (by omega), next' k (by omega), rdI a k (by omega), rdI b i (by omega), rdI a (k + 1) hka, rdI b (i + 1) hib,
     show wrap64 ((k : Int) + 2) = ((k + 2 : Nat) : Int) by rw [w64' (by omega) (by omega)]; omega, show wrap64 ((i : Int) + 2) = ((i + 2 : Nat) : Int) by rw [w64' (by omega) (by omega)]; omega]
    have skip : (a[k] = b[i] → a[k + 1] ≠ b[i + 1]) → T (2 * d + 10) (fun n => Zap.l0 n a b (k : Int) ((i + 2 : Nat) : Int)) (WQ a b k i) := by
     intro hne
     refine (ih (i + 2) k (by omega) (by omega) hk).mono (fun r hr h1 h2 h3 h4 => hr h1 h2 h3 ?_)
     rw [prs_drop a k hka] at h4 ⊢
     rw [prs_drop b i hib] at h4
     exact sub_skip h4 (fun he => by injection he with e1 e2; exact hne e1 e2)
    refine T.pos (by omega) (T.pos (by omega) (T.pos (by omega) (T.pos (by omega) (T.ite (fun e1 => ?_) (fun e1 => skip (fun h => absurd h e1))))))
    refine T.pos (by omega) (T.pos (by omega) (T.pos (by omega) (T.pos (by omega) (T.ite (fun e2 => ?_) (fun e2 => skip (fun _ => e2))))))
    refine (ih (i + 2) (k + 2) (by omega) (by omega) (by omega)).mono (fun r hr h1 h2 h3 h4 => hr h1 (by omega) (by omega) ?_)
    rw [prs_drop a k hka, prs_drop b i hib] at h4
    exact sub_tail h4
   ·exact out _ (decide_eq_false (by omega)) (.inl hka)
  ·exact T.neg (by omega) (out _ rfl (.inr hib))
theorem within_f (a b : List Int) (ha : a.length ≤ 200) (hb : b.length ≤ 200) : T 420 (fun n => Zap.f n a b) (fun r => a.length % 2 = 0 → (prs a).Sublist (prs b) → r = true) := by
 refine ((within_l0 a b ha hb 201 0 0 (by omega) (by omega) (by omega)).up (m := 420) (by omega)).mono (fun r hr h1 h2 => hr h1 rfl (Nat.zero_le _) (by simpa using h2))
theorem same5_l0 (a b : List Int) (ha : a.length ≤ 200) (hab : a.length = b.length) : ∀ (d i : Nat), a.length = i + d → T (d + 1) (fun n => Zbj.l0 n a b (i : Int)) (fun r => a = b → r = true) := by
 intro d
 induction d with
 | zero =>
  intro i h
  refine T.step (fun k => by simp only [Zbj.l0]; rfl) ?_
  exact T.neg (by omega) (T.val (fun _ => rfl))
 | succ d ih =>
  intro i h
  refine T.step (fun k => by simp only [Zbj.l0]; rfl) ?_
  rw [next' i (by omega)]
  refine T.pos (by omega) (T.pos (by omega) (T.pos (by omega) (T.ite (fun _ => ih (i + 1) (by omega)) (fun hne => T.val (fun he => ?_)))))
  subst he
  exact absurd rfl hne
theorem same_f (x y : S34) (f4 : List Int) (hx : f4.length ≤ 200) : T 300 (fun n => Zbm.f n x.f0 x.f1 x.f2 x.f3 f4 x.f5 y.f0 y.f1 y.f2 y.f3 y.f4 y.f5) (fun r => x.f0 = y.f0 → x.f1 = y.f1 → x.f2 = y.f2 → x.f3 = y.f3 → f4 = y.f4 → x.f5 = y.f5 → r = true) := by
 unfold Zbm.f
 refine T.ite (fun _ => ?_) (fun h => T.val (fun e _ _ _ _ _ => absurd e h))
 refine T.ite (fun _ => ?_) (fun h => T.val (fun _ e _ _ _ _ => absurd e h))
 refine T.ite (fun _ => ?_) (fun h => T.val (fun _ _ e _ _ _ => absurd (by rw [e]) h))
 refine T.ite (fun _ => ?_) (fun h => T.val (fun _ _ _ e _ _ => absurd (by rw [e]) h))
 refine T.bind (m := 250) (R := fun r => f4 = y.f4 → r = true) ?_ (by omega) (fun r hr => T.ite (fun _ => T.val (fun _ _ _ _ _ e => by rw [e]; simp)) (fun h => T.val (fun _ _ _ _ e _ => absurd (hr e) h)))
 unfold Zbj.f
 exact T.ite (fun h => (same5_l0 f4 y.f4 hx (by omega) f4.length 0 (by omega)).up (by omega)) (fun h => T.val (fun e => absurd (by rw [e]) h))
theorem matches_f (fam : List Int) (x y : S34) (hx : x.f4.length ≤ 200) (hy : y.f4.length ≤ 200) : T 430 (fun n => Zag.f n x.f0 x.f1 x.f2 x.f3 x.f4 x.f5 y.f0 y.f1 y.f2 y.f3 y.f4 y.f5) (fun r => hm fam x y → r = true) := by
 unfold Zag.f
 have plain : (hm fam x y → x = y) → T 430 (fun n => (Zbm.f n x.f0 x.f1 x.f2 x.f3 x.f4 x.f5 y.f0 y.f1 y.f2 y.f3 y.f4 y.f5).bind fun t => some t) (fun r => hm fam x y → r = true) := by
  intro hp
  refine T.bind (same_f x y x.f4 hx) (by omega) (fun r hr => T.val (fun h => ?_))
  have := hp h
  subst this
  exact hr rfl rfl rfl rfl rfl rfl
 have pl9 : ¬ (x.f0 = 9 ∧ y.f0 = 9) → hm fam x y → x = y := by
  intro h9 h
  rcases h with h | ⟨h1, h2⟩
  ·exact h
  ·exact absurd ⟨by rw [h2]; exact h1, h1⟩ h9
 refine T.ite (fun h1 => T.ite (fun h2 => ?_) (fun h2 => plain (pl9 (fun h => h2 h.2)))) (fun h1 => plain (pl9 (fun h => h1 h.1)))
 refine T.bind (within_f x.f4 y.f4 hx hy) (by omega) (fun w hw => T.ite (fun hw1 => ?_) (fun hw1 => ?_))
 ·refine T.bind (same_f x y y.f4 hy) (by omega) (fun r hr => T.val (fun h => ?_))
  rcases h with h | ⟨-, h⟩
  ·subst h; exact hr rfl rfl rfl rfl rfl rfl
  ·rw [h] at hr; exact hr rfl rfl rfl rfl rfl rfl
 ·refine plain (fun h => ?_)
  rcases h with h | ⟨-, h⟩
  ·exact h
  ·refine absurd (hw ?_ ?_) hw1
   ·rw [h]; exact (prs_sub fam y.f4).2
   ·rw [h]; exact (prs_sub fam y.f4).1
theorem story_snoc (h : List S34) (j : Nat) (hj : j < h.length) (x : ByteArray) (hx : x.toList = storyText (h.take j)) : (x ++ lineOf h[j]).toList = storyText (h.take (j + 1)) := by
 rw [storyText_step h j hj, ← hx, ByteArray.toList_eq, ByteArray.toList_eq]
 simp
theorem loop_l0 (fam : List Int) (l h : List S34) (hl : l.length ≤ 40) (hn : ∀ e ∈ l, e.f4.length ≤ 200) (hh : ∀ e ∈ h, e.f4.length ≤ 200) (s : ByteArray) (hs : s.toList = storyText h) :
  ∀ (d i j : Nat) (x : ByteArray) (ps : List (S34 × S34)), l.length = i + d → j ≤ i → j ≤ h.length → x.toList = storyText (h.take j) → x.size ≤ j * 10000 → h.drop j = ps.map Prod.fst → (ps.map Prod.snd).Sublist (l.drop i) → (∀ p ∈ ps, hm fam p.1 p.2) →
  T (2 * d + 600) (fun k => Zaa.l0 k l h s (j : Int) x (i : Int)) (fun r => r = true) := by
 have fin : ∀ (m : Nat) (i j : Nat) (x : ByteArray) (z : Bool), z = false → j = h.length → x.toList = storyText (h.take j) → T (m + 100) (fun k => Zaa.j1 k l h s (j : Int) x (i : Int) z) (fun r => r = true) := by
  intro m i j x z hz hj hx
  subst hz
  refine T.step (n := m + 99) (fun k => by simp only [Zaa.j1]; rfl) (T.neg (by simp) (T.pos (by omega) (T.pos ?_ (T.bindc rfl (T.val rfl)))))
  rw [hx, hs, hj, List.take_length]
 intro d
 induction d with
 | zero =>
  intro i j x ps hd hji hjh hx hxs hp1 hp2 hp3
  refine T.step (n := 599) (fun k => by simp only [Zaa.l0]; rfl) ?_
  refine T.neg (by omega) (fin 499 i j x false rfl ?_ hx)
  rw [List.drop_eq_nil_of_le (show l.length ≤ i by omega)] at hp2
  have h1 : ps = [] := by
   have := List.sublist_nil.mp hp2
   exact List.map_eq_nil_iff.mp this
  rw [h1] at hp1
  have h2 : (h.drop j).length = 0 := by rw [hp1]; rfl
  rw [List.length_drop] at h2
  omega
 | succ d ih =>
  intro i j x ps hd hji hjh hx hxs hp1 hp2 hp3
  refine T.step (n := 2 * d + 601) (fun k => by simp only [Zaa.l0]; rfl) ?_
  refine T.pos (by omega) ?_
  have hi : i < l.length := by omega
  by_cases hj : j < h.length
  ·rw [decide_eq_true (show (j : Int) < (h.length : Int) by omega)]
   refine T.step (n := 2 * d + 600) (fun k => by simp only [Zaa.j1]; rfl) ?_
   refine T.pos (by simp) ?_
   rw [next' i (by omega), next' j (by omega), rd34 h j hj, rd34 l i hi]
   refine T.pos (by omega) (T.pos (by omega) (T.pos (by omega) (T.pos (by omega) ?_)))
   obtain ⟨p, qs, hq⟩ : ∃ p qs, ps = p :: qs := by
    cases ps with
    | nil =>
     rw [List.drop_eq_getElem_cons hj] at hp1
     cases hp1
    | cons p qs => exact ⟨p, qs, rfl⟩
   subst hq
   rw [List.drop_eq_getElem_cons hj, List.map_cons] at hp1
   injection hp1 with e1 e2
   rw [List.drop_eq_getElem_cons hi, List.map_cons] at hp2
   refine T.bind (matches_f fam h[j] l[i] (hh _ (List.getElem_mem hj)) (hn _ (List.getElem_mem hi))) (by omega) (fun r hr => T.ite (fun hr1 => ?_) (fun hr1 => ?_))
   ·obtain ⟨-, z, hline⟩ := line_of h[j] (hh _ (List.getElem_mem hj))
    refine T.bind (m := 300) (R := fun r => r = lineOf h[j]) ⟨_, rfl, hline⟩ (by omega) (fun r hr => ?_)
    subst hr
    refine T.pos (by omega) (ih (i + 1) (j + 1) _ qs (by omega) (by omega) hj (story_snoc h j hj x hx) (by rw [sz_app]; omega) e2 (sub_tail hp2) (fun p hp => hp3 p (List.mem_cons_of_mem _ hp)))
   ·refine ih (i + 1) j x (p :: qs) (by omega) (by omega) hjh hx hxs (by rw [List.drop_eq_getElem_cons hj, List.map_cons, e1, e2]) (sub_skip hp2 (fun he => hr1 (hr ?_))) hp3
    have := hp3 p List.mem_cons_self
    rw [← e1] at this
    rw [← he]
    exact this
  ·exact (fin (2 * d + 501) i j x _ (decide_eq_false (by omega)) (by omega) hx)
theorem emb_len {fam : List Int} {h l : List S34} (he : Emb fam h l) (hn : ∀ e ∈ l, e.f4.length ≤ 200) : h.length ≤ l.length ∧ ∀ e ∈ h, e.f4.length ≤ 200 := by
 obtain ⟨ps, rfl, h2, h3⟩ := he
 refine ⟨by have := h2.length_le; simpa using this, fun e he => ?_⟩
 obtain ⟨p, hp, rfl⟩ := List.mem_map.mp he
 have hm2 := hn p.2 (h2.subset (List.mem_map.mpr ⟨p, hp, rfl⟩))
 rcases h3 p hp with h | ⟨-, h⟩
 ·rw [h]; exact hm2
 ·rw [h]
  exact Nat.le_trans (pairsOf_len fam _) hm2
theorem ReplayParts (l : List S34) (b : ByteArray) : ∃ k, Zaa.f k l b = some true := by
 obtain ⟨k0, r, hr, hk0⟩ := short_f l b
 have hk : ∀ k, k0 ≤ k → Zba.f k l b = some r := hk0
 refine ⟨max k0 1000, ?_⟩
 unfold Zaa.f
 rw [hk _ (by omega), Option.bind_some]
 by_cases hrt : r = true
 ·obtain ⟨hl, hn⟩ := hr hrt
  rw [if_pos hrt]
  obtain ⟨h, er, fam, hh, hnil, hemb⟩ := history_ok l b hl hn
  obtain ⟨hhl, hhn⟩ := emb_len hemb hn
  have hst : storyOk h = true := by
   unfold storyOk
   simp only [Bool.and_eq_true, decide_eq_true_eq, List.all_eq_true]
   refine ⟨by omega, fun e he => ?_⟩
   obtain ⟨a1, a2, -⟩ := line_of e (hhn e he)
   exact ⟨a1, by omega⟩
  have hsty : ∃ s : ByteArray, Zce.f l b = some (s, er) ∧ s.toList = storyText h := by
   unfold Zce.f
   rw [hh, Option.bind_some]
   by_cases h0 : er = 0
   ·subst h0
    rw [if_pos rfl, if_pos hst]
    exact ⟨_, rfl, by rw [ByteArray.toList_eq]⟩
   ·rw [if_neg h0]
    refine ⟨_, rfl, ?_⟩
    rw [hnil h0, ByteArray.toList_eq]
    rfl
  obtain ⟨s, hs1, hs2⟩ := hsty
  rw [hh, Option.bind_some, hs1, Option.bind_some, if_pos rfl]
  obtain ⟨ps, q1, q2, q3⟩ := hemb
  obtain ⟨r', e1, e2⟩ := (loop_l0 fam l h hl hn hhn s hs2 l.length 0 0 ⟨#[]⟩ ps (by omega) (Nat.le_refl _) (Nat.zero_le _) (by rw [ByteArray.toList_eq]; rfl) (Nat.zero_le _) (by rw [List.drop_zero]; exact q1) (by rw [List.drop_zero]; exact q2) q3).at (max k0 1000) (by omega)
  rw [e2] at e1
  exact e1
 ·rw [if_neg hrt]
  rfl
end Go.Proofs.YtjgifmakhnkmdaaGreatDoor.Pure
