import Derived.Test.YtjgifmakhnkmdaaGreatDoorZExtU
namespace Go.Proofs.YtjgifmakhnkmdaaGreatDoor.Pure
open Go.RowKit Go.Proofs.YtjgifmakhnkmdaaGreatDoor.XRep Go.Proofs.YtjgifmakhnkmdaaGreatDoorW.PrintWords Go.Proofs.YtjgifmakhnkmdaaGreatDoorW.PrintLast Go.Proofs.YtjgifmakhnkmdaaGreatDoorW.PrintMore
set_option linter.unusedVariables false
set_option linter.unusedSimpArgs false
def T {α : Type} (n : Nat) (c : Nat → Option α) (Q : α → Prop) : Prop := ∃ r, Q r ∧ ∀ k, n ≤ k → c k = some r
section
variable {α β : Type} {Q : α → Prop} {R : β → Prop} {n m : Nat}
theorem T.val {r : α} (h : Q r) : T n (fun _ => some r) Q := ⟨r, h, fun _ _ => rfl⟩
theorem T.up {c : Nat → Option α} (h : T n c Q) (hm : n ≤ m) : T m c Q := by
 obtain ⟨r, h1, h2⟩ := h
 exact ⟨r, h1, fun k hk => h2 k (Nat.le_trans hm hk)⟩
theorem T.mono {c : Nat → Option α} {Q' : α → Prop} (h : T n c Q) (hq : ∀ r, Q r → Q' r) : T n c Q' := by
 obtain ⟨r, h1, h2⟩ := h
 exact ⟨r, hq r h1, h2⟩
theorem T.ite {p : Prop} [Decidable p] {t e : Nat → Option α} (h1 : p → T n t Q) (h2 : ¬ p → T n e Q) : T n (fun k => if p then t k else e k) Q := by
 by_cases hp : p
 ·simp only [if_pos hp]; exact h1 hp
 ·simp only [if_neg hp]; exact h2 hp
theorem T.pos {p : Prop} [Decidable p] {t e : Nat → Option α} (hp : p) (h1 : T n t Q) : T n (fun k => if p then t k else e k) Q := by
 simp only [if_pos hp]; exact h1
theorem T.neg {p : Prop} [Decidable p] {t e : Nat → Option α} (hp : ¬ p) (h1 : T n e Q) : T n (fun k => if p then t k else e k) Q := by
 simp only [if_neg hp]; exact h1
theorem T.bind {f : Nat → Option β} {g : Nat → β → Option α} (h : T m f R) (hm : m ≤ n) (hg : ∀ a, R a → T n (fun k => g k a) Q) : T n (fun k => (f k).bind (g k)) Q := by
 obtain ⟨a, h1, h2⟩ := h
 obtain ⟨r, h3, h4⟩ := hg a h1
 refine ⟨r, h3, fun k hk => ?_⟩
 show (f k).bind (g k) = some r
 rw [h2 k (Nat.le_trans hm hk)]
 exact h4 k hk
theorem T.bindc {v : Option β} {a : β} {g : Nat → β → Option α} (h : v = some a) (hg : T n (fun k => g k a) Q) : T n (fun k => v.bind (g k)) Q := by
 subst h; exact hg
theorem T.step {f g : Nat → Option α} (h : ∀ k, f (k + 1) = g k) (hg : T n g Q) : T (n + 1) f Q := by
 obtain ⟨r, h1, h2⟩ := hg
 refine ⟨r, h1, fun k hk => ?_⟩
 obtain ⟨j, rfl⟩ : ∃ j, k = j + 1 := ⟨k - 1, by omega⟩
 rw [h]
 exact h2 j (by omega)
theorem T.at {c : Nat → Option α} (h : T n c Q) (k : Nat) (hk : n ≤ k) : ∃ r, c k = some r ∧ Q r := by
 obtain ⟨r, h1, h2⟩ := h
 exact ⟨r, h2 k hk, h1⟩
end
theorem w64' {x : Int} (h0 : -9223372036854775808 ≤ x) (h1 : x ≤ 9223372036854775807) : wrap64 x = x := by unfold wrap64; omega
theorem next' (i : Nat) (h : i ≤ 1000000) : wrap64 ((i : Int) + 1) = ((i + 1 : Nat) : Int) := by rw [w64' (by omega) (by omega)]; omega
theorem rd34 (l : List S34) (i : Nat) (h : i < l.length) : rd_T34 l (i : Int) = l[i] := by simp [rd_T34, List.getD_eq_getElem?_getD, List.getElem?_eq_getElem h]
theorem rdI (l : List Int) (i : Nat) (h : i < l.length) : rd l (i : Int) = l[i] := by simp [rd, List.getD_eq_getElem?_getD, List.getElem?_eq_getElem h]
def okE (e : S34) : Bool := decide (checkOf e.f0 e.f1 e.f2 e.f3 e.f4 e.f5 = 0)
structure EvF (e : S34) : Prop where
 k0 : 1 ≤ e.f0 ∧ e.f0 ≤ 14
 t : 0 ≤ e.f1 ∧ e.f1 ≤ 10000000
 s2 : e.f2.size ≤ 8
 s3 : e.f3.size ≤ 8
 s5 : e.f5.size ≤ 16384
 n : e.f4.all inB = true
 fit : fitB (kindOf e.f0).t (kindOf e.f0).n e.f4 = true
theorem code_size (s : ByteArray) (k : Int) (h : isCodeB s k = true) : s.size ≤ 8 := by
 unfold isCodeB at h
 by_cases hk : k = 0
 ·rw [if_pos hk, List.isEmpty_iff] at h
  rw [ByteArray.toList_eq] at h
  have e : s.size = s.data.toList.length := rfl
  rw [h, List.length_nil] at e
  omega
 ·rw [if_neg hk] at h
  simp only [isB, splitOf, Bool.and_eq_true, beq_iff_eq] at h
  by_cases h8 : s.size ≠ 8
  ·rw [if_pos h8] at h
   exact absurd h.1 (by simp)
  ·omega
theorem kindOf_name (n : Int) (h : (kindOf n).name.toList.isEmpty = false) : 1 ≤ n ∧ n ≤ 14 := by
 by_cases hn : 1 ≤ n ∧ n ≤ 14
 ·exact hn
 ·exfalso
  have e : kindOf n = ⟨⟨#[]⟩, 0, 0, 130, some 0⟩ := by
   unfold kindOf
   iterate 14 rw [if_neg (by omega)]
  rw [e, ByteArray.toList_eq] at h
  simp at h
theorem ev_of (e : S34) (h : okE e = true) : EvF e := by
 unfold okE at h
 rw [decide_eq_true_eq] at h
 unfold checkOf at h
 split at h
 ·exact absurd h (by decide)
 rename_i h1
 split at h
 ·exact absurd h (by decide)
 rename_i h2
 split at h
 ·exact absurd h (by decide)
 rename_i h3
 split at h
 ·exact absurd h (by decide)
 rename_i h4
 split at h
 ·exact absurd h (by decide)
 rename_i h5
 split at h
 ·exact absurd h (by decide)
 rename_i h6
 split at h
 ·exact absurd h (by decide)
 rename_i h7
 split at h
 ·exact absurd h (by decide)
 rename_i h8
 split at h
 ·exact absurd h (by decide)
 rename_i h9
 exact ⟨kindOf_name _ (by simpa using h1), ⟨by omega, by omega⟩, code_size _ _ (by simpa using h4), code_size _ _ (by simpa using h5), by omega, by simpa using h8, by simpa using h9⟩
theorem read_l0 (l : List S34) (hl : l.length ≤ 40) (hn : ∀ e ∈ l, e.f4.length ≤ 200) : ∀ (d i : Nat) (acc : List S34), l.length = i + d → acc.length ≤ i →
  T (d + 1) (fun k => Zcp.l0 k l (l.length : Int) (i : Int) acc) (fun r => r = acc ++ (l.drop i).filter okE) := by
 intro d
 induction d with
 | zero =>
  intro i acc h ha
  refine T.step (fun k => by simp only [Zcp.l0]; rfl) ?_
  refine T.neg (by omega) (T.val ?_)
  rw [List.drop_eq_nil_of_le (by omega)]; simp
 | succ d ih =>
  intro i acc h ha
  have hi : i < l.length := by omega
  refine T.step (fun k => by simp only [Zcp.l0]; rfl) ?_
  refine T.pos (by omega) (T.pos (by omega) (T.pos (by omega) ?_))
  rw [rd34 l i hi, next' i (by omega), List.drop_eq_getElem_cons hi, List.filter_cons]
  have hm : l[i] ∈ l := List.getElem_mem hi
  refine T.bindc rfl (T.ite (fun hc => ?_) (fun hc => ?_))
  ·have hok : okE l[i] = true := by unfold okE; rw [decide_eq_true_eq]; exact hc
   refine T.bindc (by unfold Zai.f; exact if_pos (by have := hn _ hm; omega)) (T.pos (by omega) ?_)
   rw [if_pos hok]
   refine (ih (i + 1) _ (by omega) (by rw [List.length_append, List.length_singleton]; omega)).mono (fun r hr => ?_)
   rw [hr, List.append_assoc]
   rfl
  ·have hok : ¬ okE l[i] = true := by unfold okE; rw [decide_eq_true_eq]; exact hc
   rw [if_neg hok]
   exact ih (i + 1) acc (by omega) (by omega)
theorem read_f (l : List S34) (hl : l.length ≤ 40) (hn : ∀ e ∈ l, e.f4.length ≤ 200) : T 41 (fun k => Zcp.f k l) (fun r => r = l.filter okE) := by
 have := (read_l0 l hl hn l.length 0 [] (by omega) (Nat.le_refl _)).up (m := 41) (by omega)
 refine T.mono this (fun r hr => ?_)
 rw [hr, List.drop_zero, List.nil_append]
structure Evs (s : List S34) : Prop where
 len : s.length ≤ 40
 ev : ∀ e ∈ s, EvF e
 n : ∀ e ∈ s, e.f4.length ≤ 200
theorem Evs.at {s : List S34} (h : Evs s) (i : Nat) (hi : i < s.length) : EvF s[i] ∧ s[i].f4.length ≤ 200 := ⟨h.ev _ (List.getElem_mem hi), h.n _ (List.getElem_mem hi)⟩
def mk (e : S34) : Int × Int × Bool :=
 if e.f0 = 4 then (rd e.f4 1, 1099511627776, true) else if e.f0 = 13 then (rd e.f4 0, wrap64 ((e.f4.length : Int) / 2), true) else if e.f0 = 14 then (rd e.f4 0, wrap64 ((e.f4.length : Int) - 1), true) else (0, 0, false)
theorem fit4 {e : S34} (h : EvF e) (h4 : e.f0 = 4) : 2 ≤ e.f4.length := by
 have hf := h.fit
 rw [h4] at hf
 simp [kindOf, fitB] at hf
 omega
theorem fit13 {e : S34} (h : EvF e) (h4 : e.f0 = 13) : 1 ≤ e.f4.length := by
 have hf := h.fit
 rw [h4] at hf
 simp [kindOf, fitB] at hf
 omega
theorem fit14 {e : S34} (h : EvF e) (h4 : e.f0 = 14) : 1 ≤ e.f4.length := by
 have hf := h.fit
 rw [h4] at hf
 simp [kindOf, fitB] at hf
 omega
theorem fit6 {e : S34} (h : EvF e) (h4 : e.f0 = 6) : 2 ≤ e.f4.length ∧ 0 ≤ rd e.f4 1 ∧ rd e.f4 1 ≤ (e.f4.length : Int) - 2 := by
 have hf := h.fit
 rw [h4] at hf
 simp only [kindOf, fitB] at hf
 have hd : dryB e.f4 = true := hf
 unfold dryB at hd
 split at hd
 ·cases hd
 ·simp only [Bool.and_eq_true, decide_eq_true_eq] at hd
  exact ⟨by omega, hd.1.1, hd.1.2⟩
theorem made_f {e : S34} (h : EvF e) : Zcn.f e.f0 e.f1 e.f2 e.f3 e.f4 e.f5 = some (mk e) := by
 unfold Zcn.f mk
 by_cases h4 : e.f0 = 4
 ·rw [if_pos h4, if_pos h4, if_pos (by have := fit4 h h4; omega)]
 rw [if_neg h4, if_neg h4]
 by_cases h13 : e.f0 = 13
 ·rw [if_pos h13, if_pos h13, if_pos (by have := fit13 h h13; omega)]
 rw [if_neg h13, if_neg h13]
 by_cases h14 : e.f0 = 14
 ·rw [if_pos h14, if_pos h14, if_pos (by have := fit14 h h14; omega)]
 rw [if_neg h14, if_neg h14]
def MQ (s : List S34) (x : Int) (r : Int × Int × ByteArray × ByteArray × List Int × ByteArray × Bool) : Prop :=
 r.2.2.2.2.2.2 = true → ∃ e ∈ s, (mk e).2.2 = true ∧ (mk e).1 ≤ x ∧ r = (e.f0, e.f1, e.f2, e.f3, e.f4, e.f5, true)
theorem maker_l0 {s : List S34} (hs : Evs s) (x : Int) : ∀ (i : Nat), i ≤ s.length → T (i + 2) (fun k => Zax.l0 k x ((i : Int) - 1) s) (MQ s x) := by
 intro i
 induction i with
 | zero =>
  intro _
  refine T.up (n := 1) (T.step (fun k => by simp only [Zax.l0]; rfl) ?_) (by omega)
  exact T.neg (by omega) (T.val (fun h => by cases h))
 | succ i ih =>
  intro hi
  have e1 : ((i + 1 : Nat) : Int) - 1 = (i : Int) := by omega
  rw [e1]
  refine T.step (fun k => by simp only [Zax.l0]; rfl) ?_
  have hi' : i < s.length := by omega
  have e2 : wrap64 ((i : Int) - 1) = (i : Int) - 1 := w64' (by have := hs.len; omega) (by have := hs.len; omega)
  rw [rd34 s i hi', e2]
  refine T.pos (by omega) (T.pos (by omega) (T.pos (by omega) (T.bindc (made_f (hs.at i hi').1) ?_)))
  have nx := (ih (by omega)).up (m := i + 1 + 1) (by omega)
  refine T.ite (fun hm => T.ite (fun hx => T.val (fun _ => ?_)) (fun _ => nx)) (fun _ => nx)
  exact ⟨s[i], List.getElem_mem hi', hm, hx, rfl⟩
theorem maker_f {s : List S34} (hs : Evs s) (x : Int) : T 42 (fun k => Zax.f k s x) (MQ s x) := by
 unfold Zax.f
 rw [w64' (by have := hs.len; omega) (by have := hs.len; omega)]
 exact (maker_l0 hs x s.length (Nat.le_refl _)).up (by have := hs.len; omega)
def cnt (s : List S34) (x : Int) : Nat := (s.filter (fun e => (mk e).2.2 && decide ((mk e).1 ≤ x))).length
theorem filter_lt {A : Type} (p q : A → Bool) (s : List A) (h : ∀ a, p a = true → q a = true) (a : A) (ha : a ∈ s) (hq : q a = true) (hp : p a = false) : (s.filter p).length < (s.filter q).length := by
 induction s with
 | nil => cases ha
 | cons b t ih =>
  have le : (t.filter p).length ≤ (t.filter q).length := by
   clear ih ha
   induction t with
   | nil => simp
   | cons c t ih =>
    rw [List.filter_cons, List.filter_cons]
    cases hc : p c with
    | true => rw [h c hc]; simpa using ih
    | false =>
     cases hqc : q c with
     | true => simp; omega
     | false => simpa using ih
  rw [List.filter_cons, List.filter_cons]
  rcases List.mem_cons.mp ha with rfl | ha
  ·rw [hp, hq]; simp; omega
  ·have := ih ha
   cases hc : p b with
   | true => rw [h b hc]; simpa using this
   | false =>
    cases hqc : q b with
    | true => simp; omega
    | false => simpa using this
theorem cnt_lt {s : List S34} {x y : Int} {e : S34} (he : e ∈ s) (h1 : (mk e).2.2 = true) (h2 : (mk e).1 ≤ x) (h3 : y < (mk e).1) : cnt s y < cnt s x := by
 refine filter_lt _ _ s (fun a ha => ?_) e he (by simp [h1, h2]) (by simp [h1]; omega)
 simp only [Bool.and_eq_true, decide_eq_true_eq] at ha ⊢
 exact ⟨ha.1, by omega⟩
theorem log_l0 {s : List S34} (hs : Evs s) : ∀ (n : Nat) (x : Int), cnt s x ≤ n → T (n + 60) (fun k => Zbn.l0 k x s) (fun r => r.1.size ≤ 8) := by
 intro n
 induction n with
 | zero =>
  intro x hx
  refine T.step (n := 59) (fun k => by simp only [Zbn.l0]; rfl) ?_
  refine T.bind (maker_f hs x) (by omega) (fun r hr => T.ite (fun hf => ?_) (fun _ => T.val (Nat.zero_le _)))
  obtain ⟨e, he, h1, h2, rfl⟩ := hr hf
  exact absurd (cnt_lt he h1 h2 (y := (mk e).1 - 1) (by omega)) (by omega)
 | succ n ih =>
  intro x hx
  refine T.step (n := n + 60) (fun k => by simp only [Zbn.l0]; rfl) ?_
  refine T.bind (maker_f hs x) (by omega) (fun r hr => T.ite (fun hf => ?_) (fun _ => T.val (Nat.zero_le _)))
  obtain ⟨e, he, h1, h2, rfl⟩ := hr hf
  have hev := hs.ev e he
  refine T.ite (fun _ => T.val hev.s2) (fun _ => ?_)
  refine T.bindc (made_f hev) (T.bindc rfl ?_)
  refine T.ite (fun _ => T.val (Nat.zero_le _)) (fun _ => T.ite (fun _ => T.val (Nat.zero_le _)) (fun h4 => ?_))
  refine ih _ ?_
  have h5 : (splitOf e.f2).2.1 < (mk e).1 := Int.not_le.mp h4
  have := cnt_lt he h1 h2 h5
  show cnt s (splitOf e.f2).2.1 ≤ n
  omega
theorem cnt_le (s : List S34) (x : Int) : cnt s x ≤ s.length := List.length_filter_le _ _
theorem log_f {s : List S34} (hs : Evs s) (x : Int) : T 100 (fun k => Zbn.f k s x) (fun r => r.1.size ≤ 8) :=
 (log_l0 hs (cnt s x) x (Nat.le_refl _)).up (by have := cnt_le s x; have := hs.len; omega)
theorem packed_l0 {s : List S34} (hs : Evs s) (x : Int) : ∀ (d i : Nat), s.length = i + d → T (d + 1) (fun k => Zam.l0 k x s (s.length : Int) (i : Int)) (fun r => r = [] ∨ ∃ e ∈ s, r = e.f4) := by
 intro d
 induction d with
 | zero =>
  intro i h
  refine T.step (fun k => by simp only [Zam.l0]; rfl) ?_
  exact T.neg (by omega) (T.val (.inl rfl))
 | succ d ih =>
  intro i h
  have hi : i < s.length := by omega
  refine T.step (fun k => by simp only [Zam.l0]; rfl) ?_
  rw [rd34 s i hi, next' i (by have := hs.len; omega)]
  refine T.pos (by omega) (T.pos (by omega) (T.pos (by omega) ?_))
  have nx := ih (i + 1) (by omega)
  exact T.ite (fun _ => T.bindc rfl (T.ite (fun _ => T.val (.inr ⟨_, List.getElem_mem hi, rfl⟩)) (fun _ => nx))) (fun _ => nx)
theorem packed_f {s : List S34} (hs : Evs s) (x : Int) : T 41 (fun k => Zam.f k s x) (fun r => r = [] ∨ ∃ e ∈ s, r = e.f4) :=
 (packed_l0 hs x s.length 0 (by omega)).up (by have := hs.len; omega)
def GU (s : List S34) (g : List Int) : Prop := ∀ x ∈ g, ∃ e ∈ s, x ∈ e.f4
theorem GU.app {s : List S34} {g h : List Int} (h1 : GU s g) (h2 : GU s h) : GU s (g ++ h) := fun x hx => (List.mem_append.mp hx).elim (h1 x) (h2 x)
theorem GU.nil {s : List S34} : GU s [] := fun x hx => by cases hx
theorem GU.ev {s : List S34} {e : S34} (he : e ∈ s) : GU s e.f4 := fun x hx => ⟨e, he, hx⟩
theorem dried_l0 {s : List S34} (hs : Evs s) (zs : List Int) (hz : zs.length ≤ 200) : ∀ (d i : Nat) (acc : List Int), zs.length = i + d → GU s acc → acc.length ≤ i * 200 →
  T (d + 50) (fun k => Zaw.l0 k acc zs (zs.length : Int) (i : Int) s) (fun r => GU s r ∧ r.length ≤ zs.length * 200) := by
 intro d
 induction d with
 | zero =>
  intro i acc h hg ha
  refine T.step (n := 49) (fun k => by simp only [Zaw.l0]; rfl) ?_
  exact T.neg (by omega) (T.val ⟨hg, by rw [h]; omega⟩)
 | succ d ih =>
  intro i acc h hg ha
  have hi : i < zs.length := by omega
  refine T.step (n := d + 50) (fun k => by simp only [Zaw.l0]; rfl) ?_
  rw [next' i (by omega)]
  refine T.pos (by omega) (T.pos (by omega) (T.pos (by omega) ?_))
  refine T.bind (packed_f hs _) (by omega) (fun a haa => ?_)
  have hq : GU s a ∧ a.length ≤ 200 := by
   rcases haa with rfl | ⟨e, he, rfl⟩
   ·exact ⟨GU.nil, Nat.zero_le _⟩
   ·exact ⟨GU.ev he, hs.n e he⟩
  refine T.pos (by have := hq.2; omega) (ih (i + 1) _ (by omega) (hg.app hq.1) ?_)
  rw [List.length_append]
  have := hq.2
  omega
def GQ (s : List S34) (g : List Int) : Prop := GU s g ∧ g.length < 50000
theorem dried_f {s : List S34} (hs : Evs s) {e : S34} (he : e ∈ s) (h6 : e.f0 = 6) : T 300 (fun k => Zaw.f k s e.f0 e.f1 e.f2 e.f3 e.f4 e.f5) (GQ s) := by
 have hf := fit6 (hs.ev e he) h6
 have hl := hs.n e he
 unfold Zaw.f
 rw [w64' (x := 2 + rd e.f4 1) (by omega) (by omega)]
 refine T.pos (by omega) (T.pos (by omega) (T.pos (by omega) ?_))
 generalize hz : (e.f4.take (2 + rd e.f4 1).toNat).drop 2 = zs
 have hzl : zs.length ≤ 198 := by rw [← hz, List.length_drop, List.length_take]; omega
 refine ((dried_l0 hs zs (by omega) zs.length 0 [] (by omega) GU.nil (Nat.zero_le _)).up (by omega)).mono (fun r hr => ⟨hr.1, ?_⟩)
 have := hr.2
 omega
theorem shipped_l1 {s : List S34} (hs : Evs s) (x : Int) (i : Nat) (hi : i < s.length) : ∀ (d j : Nat) (acc : List Int), s[i].f4.length < j + d → j ≤ 202 → GU s acc → acc.length ≤ j →
  T (d + 1) (fun k => Zaf.l1 k x (i : Int) acc (j : Int) s) (GQ s) := by
 intro d
 induction d with
 | zero =>
  intro j acc h hj hg ha
  refine T.step (fun k => by simp only [Zaf.l1]; rfl) ?_
  rw [rd34 s i hi, next' j (by omega)]
  exact T.pos (by omega) (T.pos (by omega) (T.neg (by omega) (T.val ⟨hg, by omega⟩)))
 | succ d ih =>
  intro j acc h hj hg ha
  have hn := (hs.at i hi).2
  refine T.step (fun k => by simp only [Zaf.l1]; rfl) ?_
  rw [rd34 s i hi, next' j (by omega)]
  refine T.pos (by omega) (T.pos (by omega) (T.ite (fun hl => ?_) (fun _ => T.val ⟨hg, by omega⟩)))
  have hj1 : j + 1 < s[i].f4.length := by omega
  rw [show wrap64 ((j : Int) + 2) = ((j + 2 : Nat) : Int) by rw [w64' (by omega) (by omega)]; omega, rdI _ (j + 1) hj1]
  refine T.pos (by omega) (T.pos (by omega) (T.ite (fun _ => T.pos (by omega) (T.pos (by omega) ?_)) (fun _ => ih (j + 2) acc (by omega) (by omega) hg (by omega))))
  refine ih (j + 2) _ (by omega) (by omega) (hg.app (fun y hy => ?_)) (by rw [List.length_append, List.length_singleton]; omega)
  rw [List.mem_singleton.mp hy]
  exact ⟨s[i], List.getElem_mem hi, List.getElem_mem hj1⟩
theorem shipped_l0 {s : List S34} (hs : Evs s) (x : Int) : ∀ (i : Nat), i ≤ s.length → T (i + 300) (fun k => Zaf.l0 k x ((i : Int) - 1) s) (GQ s) := by
 intro i
 induction i with
 | zero =>
  intro _
  refine T.step (n := 299) (fun k => by simp only [Zaf.l0]; rfl) ?_
  exact T.neg (by omega) (T.val ⟨GU.nil, by simp⟩)
 | succ i ih =>
  intro hi
  have hi' : i < s.length := by omega
  rw [show ((i + 1 : Nat) : Int) - 1 = (i : Int) by omega]
  refine T.step (n := i + 300) (fun k => by simp only [Zaf.l0]; rfl) ?_
  rw [rd34 s i hi', show wrap64 ((i : Int) - 1) = (i : Int) - 1 from w64' (by have := hs.len; omega) (by have := hs.len; omega)]
  refine T.pos (by omega) (T.pos (by omega) (T.pos (by omega) (T.ite (fun _ => ?_) (fun _ => ih (by omega)))))
  exact (shipped_l1 hs x i hi' 201 0 [] (by have := (hs.at i hi').2; omega) (by omega) GU.nil (Nat.zero_le _)).up (by omega)
theorem shipped_f {s : List S34} (hs : Evs s) (i : Nat) (hi : i < s.length) : T 400 (fun k => Zaf.f k s (i : Int)) (GQ s) := by
 unfold Zaf.f
 refine T.pos (by omega) (T.pos (by omega) (T.bindc rfl ?_))
 rw [show wrap64 ((i : Int) - 1) = (i : Int) - 1 from w64' (by have := hs.len; omega) (by have := hs.len; omega)]
 exact (shipped_l0 hs _ i (by omega)).up (by have := hs.len; omega)
theorem groups_l0 {s : List S34} (hs : Evs s) : ∀ (d i : Nat) (gs : List (List Int)), s.length = i + d → gs.length = s.length → (∀ g ∈ gs, GQ s g) →
  T (d + 500) (fun k => Zal.l0 k gs s (s.length : Int) (i : Int) s) (fun r => r.length = s.length ∧ ∀ g ∈ r, GQ s g) := by
 intro d
 induction d with
 | zero =>
  intro i gs h hl hg
  refine T.step (n := 499) (fun k => by simp only [Zal.l0]; rfl) ?_
  exact T.neg (by omega) (T.val ⟨hl, hg⟩)
 | succ d ih =>
  intro i gs h hl hg
  have hi : i < s.length := by omega
  have hm : s[i] ∈ s := List.getElem_mem hi
  refine T.step (n := d + 500) (fun k => by simp only [Zal.l0]; rfl) ?_
  rw [rd34 s i hi, next' i (by have := hs.len; omega)]
  have nx : ∀ g, GQ s g → T (d + 500) (fun k => Zal.l0 k (gs.set ((i : Int)).toNat g) s (s.length : Int) ((i + 1 : Nat) : Int) s) (fun r => r.length = s.length ∧ ∀ g ∈ r, GQ s g) := by
   intro g hgq
   refine ih (i + 1) _ (by omega) (by rw [List.length_set]; exact hl) (fun g' hg' => ?_)
   rcases List.mem_or_eq_of_mem_set hg' with h' | h'
   ·exact hg _ h'
   ·rw [h']; exact hgq
  refine T.pos (by omega) (T.pos (by omega) (T.pos (by omega) (T.ite (fun _ => T.pos (by omega) (nx _ ⟨GU.ev hm, by have := hs.n _ hm; omega⟩)) (fun _ => ?_))))
  refine T.ite (fun h6 => T.bind (dried_f hs hm h6) (by omega) (fun g hgq => T.pos (by omega) (nx g hgq))) (fun _ => ?_)
  exact T.ite (fun h6 => T.bind (shipped_f hs i hi) (by omega) (fun g hgq => T.pos (by omega) (nx g hgq))) (fun _ => ih (i + 1) gs (by omega) hl hg)
theorem groups_f {s : List S34} (hs : Evs s) : T 600 (fun k => Zal.f k s) (fun r => r.length = s.length ∧ ∀ g ∈ r, GQ s g) := by
 unfold Zal.f
 refine T.pos (by omega) (T.pos (by have := hs.len; omega) ?_)
 refine (groups_l0 hs s.length 0 _ (by omega) (by simp) (fun g hg => ?_)).up (by have := hs.len; omega)
 rw [(List.mem_replicate.mp hg).2]
 exact ⟨GU.nil, by simp⟩
theorem parent_f {s : List S34} (hs : Evs s) (x : Int) : T 42 (fun k => Zan.f k s x) (fun r => r.2 = true → ∃ e ∈ s, r.1 = numOfCode e.f2) := by
 unfold Zan.f
 refine T.bind (maker_f hs x) (by omega) (fun r hr => T.ite (fun hf => ?_) (fun _ => T.val (fun h => by cases h)))
 obtain ⟨e, he, h1, h2, rfl⟩ := hr hf
 refine T.ite (fun _ => T.val (fun h => by cases h)) (fun _ => T.bindc rfl (T.val (fun _ => ⟨e, he, rfl⟩)))
end Go.Proofs.YtjgifmakhnkmdaaGreatDoor.Pure

namespace Go.Proofs.YtjgifmakhnkmdaaGreatDoor.Pure
open Go.RowKit Go.Proofs.YtjgifmakhnkmdaaGreatDoor.XRep Go.Proofs.YtjgifmakhnkmdaaGreatDoorW.PrintWords Go.Proofs.YtjgifmakhnkmdaaGreatDoorW.PrintLast Go.Proofs.YtjgifmakhnkmdaaGreatDoorW.PrintMore
set_option linter.unusedVariables false
set_option linter.unusedSimpArgs false
theorem nodup_le {A : Type} : ∀ (l u : List A), l.Nodup → (∀ x ∈ l, x ∈ u) → l.length ≤ u.length
 | [], _, _, _ => Nat.zero_le _
 | a :: l, u, hn, hs => by
  rw [List.nodup_cons] at hn
  obtain ⟨u1, u2, rfl⟩ := List.append_of_mem (hs a List.mem_cons_self)
  have := nodup_le l (u1 ++ u2) hn.2 (fun x hx => by
   have := hs x (List.mem_cons_of_mem _ hx)
   rcases List.mem_append.mp this with h | h
   ·exact List.mem_append.mpr (.inl h)
   ·rcases List.mem_cons.mp h with rfl | h
    ·exact absurd hx hn.1
    ·exact List.mem_append.mpr (.inr h))
  simp only [List.length_append, List.length_cons] at this ⊢
  omega
theorem growL_spec (b : Int) (U : List Int) (m : Nat) : ∀ (gs : List (List Int)) (op : List Int), (∀ g ∈ gs, g.length ≤ m ∧ ∀ x ∈ g, x ∈ U) → (∀ x ∈ op, x ∈ U) →
  (∀ x ∈ growL b op gs, x ∈ U) ∧ (growL b op gs).length ≤ op.length + gs.length * m
 | [], op, _, h => ⟨h, by simp [growL]⟩
 | g :: gs, op, hg, h => by
  have h1 := hg g List.mem_cons_self
  have h2 := growL_spec b U m gs (if b ∈ g then op ++ g else op) (fun g' h' => hg g' (List.mem_cons_of_mem _ h')) (by
   intro x hx
   by_cases hb : b ∈ g
   ·rw [if_pos hb] at hx
    exact (List.mem_append.mp hx).elim (h x) (h1.2 x)
   ·rw [if_neg hb] at hx; exact h x hx)
  refine ⟨h2.1, Nat.le_trans h2.2 ?_⟩
  have : (if b ∈ g then op ++ g else op).length ≤ op.length + m := by
   split
   ·rw [List.length_append]; have := h1.1; omega
   ·omega
  rw [List.length_cons, Nat.succ_mul]
  omega
theorem take_mem {A : Type} {l : List A} {n : Nat} {x : A} (h : x ∈ l.take n) : x ∈ l := List.mem_of_mem_take h
theorem ar1 (m o L c : Nat) (h1 : m + 1 ≤ 1 + o * c) (h2 : L + 2 ≤ m + 1 + c) : L ≤ 1 + (o + 1) * c := by rw [Nat.add_mul, Nat.one_mul]; omega
theorem ar2 (m o L k c n : Nat) (ho : o + 1 ≤ n) (h : (n - o) * c + (m + 1) < k + 1) (h2 : L + 2 ≤ m + 1 + c) : (n - (o + 1)) * c + L < k := by
 obtain ⟨d, hd⟩ : ∃ d, n - o = d + 1 := ⟨n - o - 1, by omega⟩
 have e : n - (o + 1) = d := by omega
 rw [hd, Nat.add_mul, Nat.one_mul] at h
 rw [e]
 omega
theorem fam_ok {s : List S34} (hs : Evs s) (gs : List (List Int)) (hgl : gs.length ≤ 40) (U : List Int) (hg : ∀ g ∈ gs, g.length ≤ 50000 ∧ ∀ x ∈ g, x ∈ U) (hpar : ∀ e ∈ s, numOfCode e.f2 ∈ U)
  (hU : ∀ y ∈ U, okI y = true) (hUl : U.length ≤ 8041) : ∀ (k : Nat) (out op : List Int), out.Nodup → (∀ y ∈ out, y ∈ U) → (∀ y ∈ op, y ∈ U) → op.length ≤ 1 + out.length * 2000002 →
  (8041 - out.length) * 2000002 + op.length < k → ∃ fam, famGo s gs k out op = some fam ∧ fam.length ≤ 8041 := by
 intro k
 induction k with
 | zero => intro out op _ _ _ _ h; omega
 | succ k ih =>
  intro out op hnd hout hop hlen hk
  unfold famGo
  have hol := nodup_le out U hnd hout
  by_cases h0 : op.length = 0
  ·rw [if_pos h0]
   exact ⟨out, rfl, by omega⟩
  rw [if_neg h0]
  obtain ⟨m, hm⟩ : ∃ m, op.length = m + 1 := ⟨op.length - 1, by omega⟩
  have hml : m < op.length := by omega
  have e1 : (op.length : Int) - 1 = (m : Int) := by omega
  have e2 : op.length - 1 = m := by omega
  rw [e1, e2, rdI op m hml]
  have hbU : op[m] ∈ U := hop _ (List.getElem_mem hml)
  rw [if_pos (hU _ hbU)]
  have htk : ∀ y ∈ op.take m, y ∈ U := fun y hy => hop y (take_mem hy)
  have htl : (op.take m).length = m := by rw [List.length_take]; omega
  by_cases hb : op[m] ∈ out
  ·rw [if_pos hb]
   exact ih out (op.take m) hnd hout htk (by omega) (by omega)
  rw [if_neg hb, if_pos (by omega)]
  have hnd2 : (out ++ [op[m]]).Nodup := by
   rw [List.nodup_append]
   refine ⟨hnd, by simp, ?_⟩
   intro a ha b hb'
   rw [List.mem_singleton] at hb'
   subst hb'
   intro hab
   subst hab
   exact hb ha
  have hout2 : ∀ y ∈ out ++ [op[m]], y ∈ U := fun y hy => (List.mem_append.mp hy).elim (hout y) (fun h => by rw [List.mem_singleton.mp h]; exact hbU)
  have hol2 := nodup_le _ U hnd2 hout2
  rw [List.length_append, List.length_singleton] at hol2
  obtain ⟨lg, hlg, -⟩ := (log_f hs op[m]).at KK (by unfold KK; omega)
  rw [hlg, Option.bind_some]
  have fin : ∀ op1 : List Int, (∀ y ∈ op1, y ∈ U) → op1.length ≤ m + 1 →
    ∃ fam, (if (growL op[m] op1 gs).length ≤ 1000000000000 then famGo s gs k (out ++ [op[m]]) (growL op[m] op1 gs) else none) = some fam ∧ fam.length ≤ 8041 := by
   intro op1 h1 h2
   obtain ⟨g1, g2⟩ := growL_spec op[m] U 50000 gs op1 hg h1
   have : gs.length * 50000 ≤ 2000000 := by omega
   rw [if_pos (by omega)]
   have g3 : (growL op[m] op1 gs).length + 2 ≤ m + 1 + 2000002 := by omega
   refine ih _ _ hnd2 hout2 g1 ?_ ?_
   ·rw [List.length_append, List.length_singleton]
    exact ar1 m _ _ _ (by rw [← hm]; exact hlen) g3
   ·rw [List.length_append, List.length_singleton]
    exact ar2 m _ _ _ _ _ (Nat.le_trans hol2 hUl) (by rw [← hm]; exact hk) g3
  by_cases hf : lg.2 = true
  ·rw [if_pos hf]
   obtain ⟨up, hup, hq⟩ := (parent_f hs op[m]).at KK (by unfold KK; omega)
   rw [hup, Option.bind_some, Option.bind_some]
   by_cases hu : up.2 = true
   ·rw [if_pos hu]
    obtain ⟨e, he, hx⟩ := hq hu
    refine fin _ (fun y hy => (List.mem_append.mp hy).elim (htk y) (fun h => ?_)) (by rw [List.length_append, List.length_singleton]; omega)
    rw [List.mem_singleton.mp h, hx]
    exact hpar e he
   ·rw [if_neg hu]
    exact fin _ htk (by omega)
  ·rw [if_neg hf, Option.bind_some]
   exact fin _ htk (by omega)
theorem num_ok (s : ByteArray) : okI (numOfCode s) = true := by
 have h : -10000000 ≤ numOfCode s ∧ numOfCode s ≤ 100000000 := by
  unfold numOfCode splitOf
  repeat' split
  all_goals first | (show -10000000 ≤ (0 : Int) ∧ (0 : Int) ≤ 100000000; omega) | skip
  show -10000000 ≤ numOf s ∧ numOf s ≤ 100000000
  unfold numOf
  have h1 := bt_range s 1
  have h2 := bt_range s 2
  have h3 := bt_range s 3
  have h4 := bt_range s 4
  have h5 := bt_range s 5
  have h6 := bt_range s 6
  omega
 unfold okI
 simp only [Bool.and_eq_true, decide_eq_true_eq]
 omega
def UL (s : List S34) (x : Int) : List Int := x :: (s.map (fun e => numOfCode e.f2) ++ s.flatMap (fun e => e.f4))
theorem flat_len (s : List S34) (h : ∀ e ∈ s, e.f4.length ≤ 200) : (s.flatMap (fun e => e.f4)).length ≤ s.length * 200 := by
 induction s with
 | nil => simp
 | cons e t ih =>
  have h1 := ih (fun e he => h e (List.mem_cons_of_mem _ he))
  have h2 := h e List.mem_cons_self
  rw [List.flatMap_cons, List.length_append, List.length_cons, Nat.succ_mul]
  omega
theorem in_ok {x : Int} (h : inB x = true) : okI x = true := by
 unfold inB at h
 unfold okI
 simp only [Bool.and_eq_true, decide_eq_true_eq] at h ⊢
 omega
theorem UL_ok {s : List S34} (hs : Evs s) (x : Int) (hx : okI x = true) : ∀ y ∈ UL s x, okI y = true := by
 intro y hy
 unfold UL at hy
 rcases List.mem_cons.mp hy with rfl | hy
 ·exact hx
 rcases List.mem_append.mp hy with hy | hy
 ·obtain ⟨e, he, rfl⟩ := List.mem_map.mp hy
  exact num_ok _
 ·obtain ⟨e, he, h⟩ := List.mem_flatMap.mp hy
  exact in_ok (List.all_eq_true.mp (hs.ev e he).n y h)
theorem UL_len {s : List S34} (hs : Evs s) (x : Int) : (UL s x).length ≤ 8041 := by
 unfold UL
 have := flat_len s hs.n
 have := hs.len
 rw [List.length_cons, List.length_append, List.length_map]
 omega
theorem evok {s : List S34} (hs : Evs s) : s.all (fun e => evOk e && okI (numOfCode e.f2)) = true := by
 rw [List.all_eq_true]
 intro e he
 have h := hs.ev e he
 have hn := hs.n e he
 have h4 : e.f4.all okI = true := by
  rw [List.all_eq_true]
  exact fun x hx => in_ok (List.all_eq_true.mp h.n x hx)
 have h2 := h.s2
 have h3 := h.s3
 unfold evOk okS
 rw [num_ok, h4]
 simp only [Bool.and_eq_true, decide_eq_true_eq, and_true, true_and]
 omega
def hm (fam : List Int) (e' e : S34) : Prop := e' = e ∨ (e.f0 = 9 ∧ e' = ⟨e.f0, e.f1, e.f2, e.f3, pairsOf fam e.f4, e.f5⟩)
theorem partP_hm (gs : List (List Int)) (fam : List Int) (LG PM : List ByteArray) (OR : List Int) (bg : Bool) (i : Nat) (e : S34) : hm fam (partP gs fam LG PM OR bg i e).1 e := by
 unfold partP
 repeat' split
 all_goals first | exact .inl rfl | (exact .inr ⟨by assumption, rfl⟩)
def Emb (fam : List Int) (h s : List S34) : Prop := ∃ ps : List (S34 × S34), h = ps.map Prod.fst ∧ (ps.map Prod.snd).Sublist s ∧ ∀ p ∈ ps, hm fam p.1 p.2
theorem histGo_emb (s : List S34) (gs : List (List Int)) (fam : List Int) (LG PM : List ByteArray) (OR : List Int) : ∀ n, n ≤ s.length → Emb fam (histGo s gs fam LG PM OR n).1 (s.take n) := by
 intro n
 induction n with
 | zero => intro _; exact ⟨[], rfl, by simp, fun p hp => by cases hp⟩
 | succ n ih =>
  intro hn
  obtain ⟨ps, h1, h2, h3⟩ := ih (by omega)
  have hn' : n < s.length := by omega
  have et : s.take (n + 1) = s.take n ++ [s[n]] := by rw [List.take_add_one, List.getElem?_eq_getElem hn']; rfl
  rw [et]
  unfold histGo
  rw [rd34 s n hn']
  dsimp only
  split
  ·refine ⟨ps ++ [((partP gs fam LG PM OR (histGo s gs fam LG PM OR n).2 n s[n]).1, s[n])], by rw [List.map_append, h1]; rfl, ?_, ?_⟩
   ·rw [List.map_append]
    exact List.Sublist.append h2 (List.Sublist.refl _)
   ·intro p hp
    rcases List.mem_append.mp hp with hp | hp
    ·exact h3 p hp
    ·rw [List.mem_singleton.mp hp]
     exact partP_hm _ _ _ _ _ _ _ _
  ·exact ⟨ps, h1, h2.trans (List.sublist_append_left _ _), h3⟩
theorem histOf_emb (s : List S34) (gs : List (List Int)) (fam : List Int) : Emb fam (histOf s gs fam) s := by
 have := histGo_emb s gs fam (logsOf (lgOf s) fam) (s.foldl (scanEv (logsOf (lgOf s) fam) fam) ([], [], [])).2.1 (s.foldl (scanEv (logsOf (lgOf s) fam) fam) ([], [], [])).2.2 s.length (Nat.le_refl _)
 rw [List.take_length] at this
 exact this
theorem evs_of (l : List S34) (hl : l.length ≤ 40) (hn : ∀ e ∈ l, e.f4.length ≤ 200) : Evs (l.filter okE) :=
 ⟨Nat.le_trans (List.length_filter_le _ _) hl, fun e he => ev_of e (List.mem_filter.mp he).2, fun e he => hn e (List.mem_filter.mp he).1⟩
theorem known_f (l : List S34) (b : ByteArray) (hl : l.length ≤ 40) (hn : ∀ e ∈ l, e.f4.length ≤ 200) : T 200 (fun k => Zch.f k l b) (fun r => r.2.2 = 0 → r.1 = l.filter okE ∧ okI r.2.1 = true) := by
 unfold Zch.f
 refine T.bindc rfl (T.ite (fun _ => ?_) (fun _ => T.val (fun h => absurd h (by decide))))
 refine T.bind (read_f l hl hn) (by omega) (fun s hs => T.bindc rfl ?_)
 subst hs
 refine T.bind (log_f (evs_of l hl hn) _) (by omega) (fun r _ => T.ite (fun _ => T.val (fun _ => ⟨rfl, num_ok b⟩)) (fun _ => T.val (fun h => absurd h (by decide))))
theorem history_ok (l : List S34) (b : ByteArray) (hl : l.length ≤ 40) (hn : ∀ e ∈ l, e.f4.length ≤ 200) :
  ∃ h er fam, Zbs.f l b = some (h, er) ∧ (er ≠ 0 → h = []) ∧ Emb fam h l := by
 have hs := evs_of l hl hn
 obtain ⟨kn, hkn, hq⟩ := (known_f l b hl hn).at KK (by unfold KK; omega)
 unfold Zbs.f
 rw [hkn, Option.bind_some]
 by_cases h0 : kn.2.2 = 0
 ·rw [if_pos h0]
  obtain ⟨e1, e2⟩ := hq h0
  rw [e1]
  obtain ⟨gs, hgs, hgl, hgq⟩ := (groups_f hs).at KK (by unfold KK; omega)
  rw [hgs, Option.bind_some]
  have hmemU : ∀ e ∈ l.filter okE, ∀ x ∈ e.f4, x ∈ UL (l.filter okE) kn.2.1 := fun e he x hx => List.mem_cons_of_mem _ (List.mem_append.mpr (.inr (List.mem_flatMap.mpr ⟨e, he, hx⟩)))
  obtain ⟨fam, hfam, hfl⟩ := fam_ok hs gs (by rw [hgl]; exact hs.len) (UL (l.filter okE) kn.2.1) (fun g hg => ⟨by have := (hgq g hg).2; omega, fun x hx => by obtain ⟨e, he, hxe⟩ := (hgq g hg).1 x hx; exact hmemU e he x hxe⟩)
   (fun e he => List.mem_cons_of_mem _ (List.mem_append.mpr (.inl (List.mem_map.mpr ⟨e, he, rfl⟩)))) (UL_ok hs _ e2) (UL_len hs _) KK [] [kn.2.1] List.nodup_nil (fun y hy => by cases hy)
   (fun y hy => by rw [List.mem_singleton.mp hy]; exact List.mem_cons_self) (by simp) (by unfold KK; simp)
  rw [hfam, Option.bind_some]
  have hok : histOk (l.filter okE) gs fam = true := by
   unfold histOk
   rw [evok hs]
   have h1 : gs.all (fun g => decide (g.length < 50000) && g.all okI) = true := by
    rw [List.all_eq_true]
    intro g hg
    have hx : g.all okI = true := by
     rw [List.all_eq_true]
     intro x hx
     obtain ⟨e, he, hxe⟩ := (hgq g hg).1 x hx
     exact UL_ok hs _ e2 x (hmemU e he x hxe)
    rw [hx]
    simp only [Bool.and_true, decide_eq_true_eq]
    exact (hgq g hg).2
   have h2 : fam.all (fun x => (Zbn.f KK (l.filter okE) x).isSome && okS (lgOf (l.filter okE) x).1) = true := by
    rw [List.all_eq_true]
    intro x hx
    obtain ⟨lg, hlg, hsz⟩ := (log_f hs x).at KK (by unfold KK; omega)
    unfold lgOf okS
    rw [hlg]
    simp only [Option.isSome_some, Option.getD_some, Bool.true_and, decide_eq_true_eq]
    omega
   rw [h1, h2]
   have := hs.len
   simp only [Bool.and_true, Bool.true_and, Bool.and_eq_true, decide_eq_true_eq]
   exact ⟨⟨by omega, by omega⟩, hgl⟩
  rw [if_pos hok]
  obtain ⟨ps, p1, p2, p3⟩ := histOf_emb (l.filter okE) gs fam
  exact ⟨_, _, fam, rfl, fun h => absurd rfl h, ps, p1, p2.trans List.filter_sublist, p3⟩
 ·rw [if_neg h0]
  exact ⟨_, _, [], rfl, fun _ => rfl, [], rfl, by simp, fun p hp => by cases hp⟩
end Go.Proofs.YtjgifmakhnkmdaaGreatDoor.Pure
