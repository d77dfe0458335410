import Derived.Test.YtjgifmakhnkmdaaGreatDoorZCutS
namespace Go.Proofs.YtjgifmakhnkmdaaGreatDoor.Pure
open Go.RowKit Go.Proofs.YtjgifmakhnkmdaaGreatDoor.XRep Go.Proofs.YtjgifmakhnkmdaaGreatDoorW.PrintWords Go.Proofs.YtjgifmakhnkmdaaGreatDoorW.PrintLast Go.Proofs.YtjgifmakhnkmdaaGreatDoorW.PrintMore
set_option linter.unusedVariables false
set_option linter.unusedSimpArgs false
def Tot {α : Type} (c : Nat → Option α) (Q : α → Prop) : Prop := ∃ k0 r, Q r ∧ ∀ k, k0 ≤ k → c k = some r
section
variable {α β : Type} {Q : α → Prop} {R : β → Prop}
theorem Tot.val {r : α} (h : Q r) : Tot (fun _ => some r) Q := ⟨0, r, h, fun _ _ => rfl⟩
theorem Tot.mono {c : Nat → Option α} {Q' : α → Prop} (h : Tot c Q) (hq : ∀ r, Q r → Q' r) : Tot c Q' := by
 obtain ⟨k, r, h1, h2⟩ := h
 exact ⟨k, r, hq r h1, h2⟩
theorem Tot.ite {p : Prop} [Decidable p] {t e : Nat → Option α} (h1 : p → Tot t Q) (h2 : ¬ p → Tot e Q) : Tot (fun k => if p then t k else e k) Q := by
 by_cases hp : p
 ·simp only [if_pos hp]; exact h1 hp
 ·simp only [if_neg hp]; exact h2 hp
theorem Tot.pos {p : Prop} [Decidable p] {t e : Nat → Option α} (hp : p) (h1 : Tot t Q) : Tot (fun k => if p then t k else e k) Q := by
 simp only [if_pos hp]; exact h1
theorem Tot.neg {p : Prop} [Decidable p] {t e : Nat → Option α} (hp : ¬ p) (h1 : Tot e Q) : Tot (fun k => if p then t k else e k) Q := by
 simp only [if_neg hp]; exact h1
theorem Tot.bind {f : Nat → Option β} {g : Nat → β → Option α} (h : Tot f R) (hg : ∀ a, R a → Tot (fun k => g k a) Q) : Tot (fun k => (f k).bind (g k)) Q := by
 obtain ⟨k0, a, h1, h2⟩ := h
 obtain ⟨k1, r, h3, h4⟩ := hg a h1
 refine ⟨max k0 k1, r, h3, fun k hk => ?_⟩
 show (f k).bind (g k) = some r
 rw [h2 k (by omega)]
 exact h4 k (by omega)
theorem Tot.bindc {v : Option β} {a : β} {g : Nat → β → Option α} (h : v = some a) (hg : Tot (fun k => g k a) Q) : Tot (fun k => v.bind (g k)) Q := by
 subst h; exact hg
theorem Tot.step {f g : Nat → Option α} (h : ∀ k, f (k + 1) = g k) (hg : Tot g Q) : Tot f Q := by
 obtain ⟨k0, r, h1, h2⟩ := hg
 refine ⟨k0 + 1, r, h1, fun k hk => ?_⟩
 obtain ⟨j, rfl⟩ : ∃ j, k = j + 1 := ⟨k - 1, by omega⟩
 rw [h]
 exact h2 j (by omega)
end
theorem w64 {x : Int} (h0 : -9223372036854775808 ≤ x) (h1 : x ≤ 9223372036854775807) : wrap64 x = x := by unfold wrap64; omega
theorem u64n (n : Nat) (h : n < 18446744073709551616) : IntKind.u64.wrap (n : Int) = (n : Int) := by
 have : (n : Int) % 18446744073709551616 = (n : Int) := by omega
 simpa [IntKind.wrap, IntKind.bits, IntKind.signed] using this
theorem rd106 (P : S106 → Prop) (xs : List S106) (h : ∀ x ∈ xs, P x) (hz : P z106) (i : Int) : P (rd_T106 xs i) := by
 unfold rd_T106
 rw [List.getD_eq_getElem?_getD]
 cases hx : xs[i.toNat]? with
 | none => exact hz
 | some v => exact h v (List.mem_of_getElem? hx)
theorem number_l0 (b : ByteArray) (hb : b.size ≤ 8000) (x1 : Int) (h0 : 0 ≤ x1) (h1 : x1 ≤ b.size) : ∀ (d : Nat) (x7 x8 x9 : Int), 0 ≤ x9 → x9 + d = 10 →
  Tot (fun k => Zar.l0 k b x1 x7 x8 x9) (fun r => 0 ≤ r.2.1 ∧ r.2.1 ≤ (b.size : Int)) := by
 intro d
 induction d with
 | zero =>
  intro x7 x8 x9 h9 hd
  refine Tot.step (fun k => by simp only [Zar.l0]; rfl) ?_
  exact Tot.neg (by omega) (Tot.val ⟨h0, h1⟩)
 | succ d ih =>
  intro x7 x8 x9 h9 hd
  refine Tot.step (fun k => by simp only [Zar.l0]; rfl) ?_
  rw [w64 (x := x1 + x9) (by omega) (by omega)]
  refine Tot.pos (by omega) (Tot.ite (fun h => Tot.val ⟨h0, h1⟩) (fun h => Tot.pos (by omega) (Tot.pos (by omega) ?_)))
  have go : ∀ y z, Tot (fun k => Zar.j1 k b x1 x7 x8 x9 y z) (fun r => 0 ≤ r.2.1 ∧ r.2.1 ≤ (b.size : Int)) := by
   intro y z
   refine Tot.step (fun k => by simp only [Zar.j1]; rfl) ?_
   rw [w64 (x := x1 + x9) (by omega) (by omega), w64 (x := x1 + x9 + 1) (by omega) (by omega), w64 (x := x9 + 1) (by omega) (by omega)]
   refine Tot.ite (fun _ => Tot.val ⟨h0, h1⟩) (fun _ => Tot.ite (fun _ => Tot.ite (fun _ => Tot.ite (fun _ => Tot.val ⟨h0, h1⟩) (fun _ => Tot.val ?_)) (fun _ => Tot.val ?_)) (fun _ => ih _ _ _ (by omega) (by omega)))
   ·show 0 ≤ x1 + x9 + 1 ∧ x1 + x9 + 1 ≤ (b.size : Int); omega
   ·show 0 ≤ x1 + x9 + 1 ∧ x1 + x9 + 1 ≤ (b.size : Int); omega
  exact Tot.ite (fun _ => go _ _) (fun _ => go _ _)
theorem number_f (b : ByteArray) (hb : b.size ≤ 8000) (x1 : Int) (h0 : 0 ≤ x1) (h1 : x1 ≤ b.size) : Tot (fun k => Zar.f k b x1) (fun r => 0 ≤ r.2.1 ∧ r.2.1 ≤ (b.size : Int)) :=
 number_l0 b hb x1 h0 h1 10 0 1 0 (by omega) (by omega)
theorem signed_f (b : ByteArray) (hb : b.size ≤ 8000) (x1 : Int) (h0 : 0 ≤ x1) (h1 : x1 ≤ b.size) (a2 a3 : Int) : Tot (fun k => Zas.f k b x1 a2 a3) (fun r => 0 ≤ r.2.1 ∧ r.2.1 ≤ (b.size : Int)) := by
 unfold Zas.f
 refine Tot.bind (number_f b hb x1 h0 h1) (fun a ha => ?_)
 repeat' (first | refine Tot.ite (fun _ => ?_) (fun _ => ?_) | exact Tot.val ⟨h0, h1⟩ | exact Tot.val ha)
def RQ (b : ByteArray) (r : ByteArray × Int × Int × List Int) : Prop := r.1 = b ∧ 0 ≤ r.2.1 ∧ r.2.1 ≤ (b.size : Int) ∧ r.2.2.2.length ≤ 448
theorem ReadInts_l0 (b : ByteArray) (hb : b.size ≤ 8000) (y1 y2 : Int) (g0 : 0 ≤ y1) (g1 : y1 ≤ b.size) (x2 x3 x10 : Int) (h10 : x10 ≤ 448) : ∀ (d : Nat) (xs : List Int) (x11 : Int), 0 ≤ x11 → x11 ≤ b.size → xs.length + d = 449 → xs.length ≤ 448 →
  Tot (fun k => Zad.l0 k x2 x3 x10 x11 xs b y1 y2) (RQ b) := by
 intro d
 induction d with
 | zero => intro xs x11 _ _ h h'; omega
 | succ d ih =>
  intro xs x11 h0 h1 hd hx
  refine Tot.step (fun k => by simp only [Zad.l0]; rfl) ?_
  rw [u64n _ (by omega)]
  refine Tot.ite (fun hl => ?_) (fun _ => Tot.val ⟨rfl, h0, h1, hx⟩)
  refine Tot.bind (signed_f b hb x11 h0 h1 x2 x3) (fun a ha => ?_)
  refine Tot.ite (fun _ => Tot.pos (by omega) (ih _ _ ha.1 ha.2 (by rw [List.length_append, List.length_singleton]; omega) (by rw [List.length_append, List.length_singleton]; omega))) (fun _ => ?_)
  exact Tot.val ⟨rfl, g0, g1, Nat.zero_le _⟩
theorem ReadInts_f (b : ByteArray) (hb : b.size ≤ 8000) (y1 y2 : Int) (g0 : 0 ≤ y1) (g1 : y1 ≤ b.size) (m : Nat) (hm : m ≤ 448) (x2 x3 : Int) :
  Tot (fun k => Zad.f k b y1 y2 (m : Int) x2 x3) (RQ b) := by
 unfold Zad.f
 refine Tot.ite (fun _ => ?_) (fun _ => Tot.val ⟨rfl, g0, g1, Nat.zero_le _⟩)
 refine Tot.bind (number_f b hb y1 g0 g1) (fun a ha => ?_)
 refine Tot.ite (fun _ => Tot.neg (by omega) ?_) (fun _ => Tot.val ⟨rfl, g0, g1, Nat.zero_le _⟩)
 refine Tot.step (fun k => by simp only [Zad.j0]; rfl) ?_
 refine Tot.ite (fun _ => Tot.val ⟨rfl, g0, g1, Nat.zero_le _⟩) (fun h => ?_)
 rw [u64n _ (by omega), decide_eq_true_eq] at h
 exact ReadInts_l0 b hb y1 y2 g0 g1 x2 x3 a.1 (by omega) 449 [] a.2.1 ha.1 ha.2 (by simp) (by simp)
theorem readings_l0 (xs : List Int) (hx : xs.length ≤ 448) : ∀ (d : Nat) (ys : List S110) (i : Nat), xs.length - i < d → ys.length ≤ i → ys.length ≤ 448 →
  Tot (fun k => Zae.l0 k xs ys (i : Int)) (fun r => r.1.length ≤ 448) := by
 intro d
 induction d with
 | zero => intro ys i h; omega
 | succ d ih =>
  intro ys i hd hi hy
  refine Tot.step (fun k => by simp only [Zae.l0]; rfl) ?_
  refine Tot.ite (fun hl => Tot.pos (by omega) ?_) (fun _ => Tot.val hy)
  have e1 : wrap64 ((i : Int) + 1) = ((i + 1 : Nat) : Int) := by rw [w64 (by omega) (by omega)]; omega
  have e2 : wrap64 ((i : Int) + 2) = ((i + 2 : Nat) : Int) := by rw [w64 (by omega) (by omega)]; omega
  have e3 : wrap64 ((i : Int) + 3) = ((i + 3 : Nat) : Int) := by rw [w64 (by omega) (by omega)]; omega
  rw [e1, e2, e3]
  clear e1 e2 e3
  refine Tot.ite (fun _ => Tot.pos (by omega) (ih _ _ (by omega) ?_ ?_)) (fun _ => Tot.ite (fun _ => Tot.ite (fun _ => Tot.val (Nat.zero_le _)) (fun h => ?_)) (fun _ => Tot.val (Nat.zero_le _)))
  ·rw [List.length_append, List.length_singleton]; omega
  ·rw [List.length_append, List.length_singleton]; omega
  ·refine Tot.pos (by omega) (Tot.pos (by omega) (Tot.pos (by omega) (Tot.pos (by omega) (Tot.pos (by omega) (ih _ _ (by omega) ?_ ?_)))))
   ·rw [List.length_append, List.length_singleton]; omega
   ·rw [List.length_append, List.length_singleton]; omega
theorem readings_f (xs : List Int) (hx : xs.length ≤ 448) : Tot (fun k => Zae.f k xs) (fun r => r.1.length ≤ 448) :=
 readings_l0 xs hx 449 [] 0 (by omega) (Nat.zero_le _) (Nat.zero_le _)
def FQ {A : Type} (r : List S106 × List S165 × A) : Prop := r.1.length ≤ 448 ∧ (∀ x ∈ r.1, x.f1.length ≤ 448) ∧ r.2.1.length ≤ 448
theorem form_l1 (ns : List Int) (hn : ns.length ≤ 448) (h7 : ns.length % 7 = 0) (rs : List S106) (hr : rs.length ≤ 448) (hr2 : ∀ x ∈ rs, x.f1.length ≤ 448) : ∀ (d : Nat) (ds : List S165) (i : Nat), ns.length - i < d → i % 7 = 0 → ds.length ≤ i → ds.length ≤ 448 →
  Tot (fun k => Zbl.l1 k ns (i : Int) rs ds) FQ := by
 intro d
 induction d with
 | zero => intro ys i h; omega
 | succ d ih =>
  intro ds i hd hi hy hy2
  refine Tot.step (fun k => by simp only [Zbl.l1]; rfl) ?_
  refine Tot.ite (fun hl => ?_) (fun _ => Tot.val ⟨hr, hr2, hy2⟩)
  have e : ∀ j : Nat, j ≤ 7 → wrap64 ((i : Int) + (j : Int)) = ((i + j : Nat) : Int) := by intro j hj; rw [w64 (by omega) (by omega)]; omega
  have e1 := e 1 (by omega)
  have e2 := e 2 (by omega)
  have e3 := e 3 (by omega)
  have e4 := e 4 (by omega)
  have e5 := e 5 (by omega)
  have e6 := e 6 (by omega)
  have e7 := e 7 (by omega)
  simp only [Int.cast_ofNat_Int] at e1 e2 e3 e4 e5 e6 e7
  rw [e1, e2, e3, e4, e5, e6, e7]
  clear e e1 e2 e3 e4 e5 e6 e7
  iterate 13 refine Tot.pos (by omega) ?_
  refine Tot.pos (by omega) (ih _ _ (by omega) (by omega) ?_ ?_)
  ·rw [List.length_append, List.length_singleton]; omega
  ·rw [List.length_append, List.length_singleton]; omega
theorem form_l0 (b : ByteArray) (hb : b.size ≤ 8000) (zs : List Int) (hz : zs.length ≤ 448) : ∀ (d : Nat) (rs : List S106) (i : Nat) (y1 y2 : Int), zs.length - i < d → 0 ≤ y1 → y1 ≤ b.size → rs.length ≤ i → i ≤ zs.length → (∀ x ∈ rs, x.f1.length ≤ 448) →
  Tot (fun k => Zbl.l0 k zs (i : Int) rs b y1 y2) FQ := by
 intro d
 induction d with
 | zero => intro ys i y1 y2 h; omega
 | succ d ih =>
  intro rs i y1 y2 hd g0 g1 hr hi hr2
  refine Tot.step (fun k => by simp only [Zbl.l0]; rfl) ?_
  refine Tot.ite (fun hl => ?_) (fun _ => ?_)
  ·refine Tot.bind (ReadInts_f b hb y1 y2 g0 g1 96 (by omega) _ _) (fun a ha => ?_)
   refine Tot.bind (readings_f a.2.2.2 ha.2.2.2) (fun c hc => ?_)
   refine Tot.ite (fun _ => Tot.pos (by omega) (Tot.pos (by omega) ?_)) (fun _ => Tot.val ⟨Nat.zero_le _, by simp, Nat.zero_le _⟩)
   rw [show wrap64 ((i : Int) + 1) = ((i + 1 : Nat) : Int) by rw [w64 (by omega) (by omega)]; omega, ha.1]
   refine ih _ _ _ _ (by omega) ha.2.1 ha.2.2.1 ?_ (by omega) ?_
   ·rw [List.length_append, List.length_singleton]; omega
   ·intro x hx
    rcases List.mem_append.mp hx with h | h
    ·exact hr2 x h
    ·rw [List.mem_singleton.mp h]; exact hc
  ·refine Tot.bind (ReadInts_f b hb y1 y2 g0 g1 448 (by omega) _ _) (fun a ha => ?_)
   have ee : ∃ t, Zbo.f a.1 a.2.1 a.2.2.1 = some t := by
    unfold Zbo.f Zbi.f
    simp only [Option.bind_some]
    split
    ·split <;> exact ⟨_, rfl⟩
    ·exact ⟨_, rfl⟩
   obtain ⟨t, ht⟩ := ee
   refine Tot.bindc ht ?_
   have go : ∀ z : Bool, (z = false → a.2.2.2.length % 7 = 0) → Tot (fun k => Zbl.j1 k a.2.2.2 z rs) FQ := by
    intro z hz
    refine Tot.step (fun k => by simp only [Zbl.j1]; rfl) ?_
    refine Tot.ite (fun _ => Tot.val ⟨Nat.zero_le _, by simp, Nat.zero_le _⟩) (fun h => ?_)
    exact form_l1 a.2.2.2 ha.2.2.2 (hz (by simpa using h)) rs (by omega) hr2 449 [] 0 (by have := ha.2.2.2; omega) rfl (Nat.zero_le _) (Nat.zero_le _)
   refine Tot.ite (fun _ => go _ (fun h => ?_)) (fun _ => go _ (fun h => by cases h))
   have h' : (a.2.2.2.length : Int) % 7 = 0 := by simpa using h
   omega
theorem form_f (b : ByteArray) (hb : b.size ≤ 8000) : Tot (fun k => Zbl.f k b) FQ := by
 unfold Zbl.f Zac.f
 refine Tot.bindc rfl ?_
 refine Tot.bind (ReadInts_f b hb 0 0 (by omega) (by omega) 24 (by omega) _ _) (fun a ha => ?_)
 rw [ha.1]
 exact form_l0 b hb a.2.2.2 ha.2.2.2 449 [] 0 _ _ (by have := ha.2.2.2; omega) ha.2.1 ha.2.2.1 (Nat.zero_le _) (Nat.zero_le _) (by simp)
theorem next (i : Nat) (h : i ≤ 1000000) : wrap64 ((i : Int) + 1) = ((i + 1 : Nat) : Int) := by rw [w64 (by omega) (by omega)]; omega
theorem Ranged9_l0 (xs : List S108) (hx : xs.length ≤ 448) : ∀ (d i : Nat), xs.length - i < d → Tot (fun k => Zat.l0 k xs (i : Int)) (fun _ => True) := by
 intro d
 induction d with
 | zero => intro i h; omega
 | succ d ih =>
  intro i hd
  refine Tot.step (fun k => by simp only [Zat.l0]; rfl) ?_
  refine Tot.ite (fun hl => Tot.pos (by omega) ?_) (fun _ => Tot.val trivial)
  rw [next i (by omega)]
  repeat' (first | refine Tot.ite (fun _ => ?_) (fun _ => ?_) | exact Tot.val trivial | exact ih _ (by omega))
theorem Check12_l0 (y : Int) (xs : List S110) (hx : xs.length ≤ 448) : ∀ (d i : Nat), xs.length - i < d → Tot (fun k => Zbb.l0 k (i : Int) y xs) (fun _ => True) := by
 intro d
 induction d with
 | zero => intro i h; omega
 | succ d ih =>
  intro i hd
  refine Tot.step (fun k => by simp only [Zbb.l0]; rfl) ?_
  refine Tot.ite (fun hl => Tot.pos (by omega) ?_) (fun _ => Tot.val trivial)
  have go : ∀ a b c e, Tot (fun k => Zbb.j1 k (i : Int) a y xs b c e) (fun _ => True) := by
   intro a b c e
   refine Tot.step (fun k => by simp only [Zbb.j1]; rfl) ?_
   rw [next i (by omega)]
   repeat' (first | refine Tot.ite (fun _ => ?_) (fun _ => ?_) | exact Tot.val trivial | exact ih _ (by omega))
  refine Tot.ite (fun _ => ?_) (fun _ => go _ _ _ _)
  exact Tot.bind (Ranged9_l0 [_] (by simp) 2 0 (by simp)) (fun a _ => go _ _ _ _)
theorem Check12_f (y : Int) (xs : List S110) (hx : xs.length ≤ 448) : Tot (fun k => Zbb.f k y xs) (fun _ => True) := by
 unfold Zbb.f
 repeat' (first | refine Tot.ite (fun _ => ?_) (fun _ => ?_) | exact Tot.val trivial | exact Check12_l0 y xs hx 449 0 (by omega))
theorem Empty13 (a b c d e f : Int) : ∃ r, Zbd.f a b c d e f = some r := by
 unfold Zbd.f
 repeat' split
 all_goals exact ⟨_, rfl⟩
theorem Ranged13 (a b c d e f : Int) : ∃ r, Zau.f a b c d e f = some r := by
 have h : ∀ p q r s, ∃ z, Zbq.f p q r s = some z := by
  intro p q r s
  unfold Zbq.f
  split <;> exact ⟨_, rfl⟩
 unfold Zau.f
 obtain ⟨z1, h1⟩ := h a b (-600) 600
 obtain ⟨z2, h2⟩ := h c d (-600) 600
 obtain ⟨z3, h3⟩ := h e f 0 20000
 rw [h1, h2, h3]
 simp only [Option.bind_some]
 repeat' split
 all_goals exact ⟨_, rfl⟩
theorem Check13_l0 (xs : List S165) (hx : xs.length ≤ 448) : ∀ (d i : Nat), xs.length - i < d → Tot (fun k => Zbc.l0 k xs (i : Int)) (fun _ => True) := by
 intro d
 induction d with
 | zero => intro i h; omega
 | succ d ih =>
  intro i hd
  refine Tot.step (fun k => by simp only [Zbc.l0]; rfl) ?_
  refine Tot.ite (fun hl => Tot.pos (by omega) ?_) (fun _ => Tot.val trivial)
  have go : ∀ z, Tot (fun k => Zbc.j1 k xs (i : Int) z) (fun _ => True) := by
   intro z
   refine Tot.step (fun k => by simp only [Zbc.j1]; rfl) ?_
   rw [next i (by omega)]
   refine Tot.ite (fun _ => Tot.val trivial) (fun _ => Tot.pos (by omega) (Tot.pos (by omega) ?_))
   obtain ⟨r1, h1⟩ := Empty13 (rd_T165 xs (i : Int)).f1.f0.f0 (rd_T165 xs (i : Int)).f1.f0.f1 (rd_T165 xs (i : Int)).f1.f1.f0 (rd_T165 xs (i : Int)).f1.f1.f1 (rd_T165 xs (i : Int)).f1.f2.f0 (rd_T165 xs (i : Int)).f1.f2.f1
   obtain ⟨r2, h2⟩ := Ranged13 (rd_T165 xs (i : Int)).f1.f0.f0 (rd_T165 xs (i : Int)).f1.f0.f1 (rd_T165 xs (i : Int)).f1.f1.f0 (rd_T165 xs (i : Int)).f1.f1.f1 (rd_T165 xs (i : Int)).f1.f2.f0 (rd_T165 xs (i : Int)).f1.f2.f1
   refine Tot.bindc h1 (Tot.ite (fun _ => Tot.val trivial) (fun _ => ?_))
   exact Tot.bindc h2 (Tot.ite (fun _ => ih _ (by omega)) (fun _ => Tot.val trivial))
  exact Tot.ite (fun _ => go _) (fun _ => go _)
theorem Check13_f (xs : List S165) (hx : xs.length ≤ 448) : Tot (fun k => Zbc.f k xs) (fun _ => True) := by
 unfold Zbc.f
 exact Tot.ite (fun _ => Tot.val trivial) (fun _ => Check13_l0 xs hx 449 0 (by omega))
theorem Check15_l1 (x3 : Int) (rs : List S106) (xs : List S165) (hx : xs.length ≤ 448) : ∀ (d i : Nat), xs.length - i < d → Tot (fun k => Zbe.l1 k x3 (i : Int) rs xs) (fun _ => True) := by
 intro d
 induction d with
 | zero => intro i h; omega
 | succ d ih =>
  intro i hd
  refine Tot.step (fun k => by simp only [Zbe.l1]; rfl) ?_
  refine Tot.ite (fun hl => Tot.pos (by omega) ?_) (fun _ => Tot.val trivial)
  rw [next i (by omega)]
  exact Tot.ite (fun _ => Tot.val trivial) (fun _ => ih _ (by omega))
theorem Check15_l0 (rs : List S106) (hr : rs.length ≤ 448) (hr2 : ∀ x ∈ rs, x.f1.length ≤ 448) (xs : List S165) (hx : xs.length ≤ 448) : ∀ (d i : Nat) (x3 : Int), rs.length - i < d → Tot (fun k => Zbe.l0 k x3 (i : Int) rs xs) (fun _ => True) := by
 intro d
 induction d with
 | zero => intro i x3 h; omega
 | succ d ih =>
  intro i x3 hd
  refine Tot.step (fun k => by simp only [Zbe.l0]; rfl) ?_
  refine Tot.ite (fun hl => Tot.pos (by omega) ?_) (fun _ => ?_)
  ·have go : ∀ z a c, Tot (fun k => Zbe.j1 k (i : Int) z rs xs a c) (fun _ => True) := by
    intro z a c
    refine Tot.step (fun k => by simp only [Zbe.j1]; rfl) ?_
    rw [next i (by omega)]
    exact Tot.ite (fun _ => Tot.val trivial) (fun _ => Tot.pos (by omega) (Tot.ite (fun _ => ih _ _ (by omega)) (fun _ => Tot.val trivial)))
   refine Tot.bind (Check12_f _ _ (rd106 (fun x => x.f1.length ≤ 448) rs hr2 (Nat.zero_le _) _)) (fun a _ => ?_)
   repeat' (first | refine Tot.ite (fun _ => ?_) (fun _ => ?_) | exact Tot.val trivial | exact go _ _ _)
  ·refine Tot.bind (Check13_f xs hx) (fun a _ => ?_)
   exact Tot.ite (fun _ => Check15_l1 _ _ _ hx 449 0 (by omega)) (fun _ => Tot.val trivial)
theorem Decode_f (b : ByteArray) (hb : b.size ≤ 8000) : Tot (fun k => Zav.f k b) FQ := by
 unfold Zav.f Zbe.f
 refine Tot.bind (form_f b hb) (fun a ha => ?_)
 have nil : ∀ t : Int, FQ (([] : List S106), ([] : List S165), t) := fun t => ⟨Nat.zero_le _, by simp, Nat.zero_le _⟩
 refine Tot.ite (fun _ => ?_) (fun _ => Tot.val (nil _))
 refine Tot.bind (R := fun _ => True) ?_ (fun t _ => Tot.ite (fun _ => Tot.val ⟨ha.1, ha.2.1, ha.2.2⟩) (fun _ => Tot.val (nil _)))
 exact Tot.ite (fun _ => Tot.val trivial) (fun _ => Tot.ite (fun _ => Tot.val trivial) (fun _ => Check15_l0 _ ha.1 ha.2.1 _ ha.2.2 449 0 0 (by have := ha.1; omega)))
theorem slim_l0 (rs : List S106) (hr : rs.length ≤ 448) (hr2 : ∀ x ∈ rs, x.f1.length ≤ 448) (xs : List S165) : ∀ (d i : Nat), rs.length - i < d → Tot (fun k => Zbf.l0 k (i : Int) rs xs) (fun _ => True) := by
 intro d
 induction d with
 | zero => intro i h; omega
 | succ d ih =>
  intro i hd
  refine Tot.step (fun k => by simp only [Zbf.l0]; rfl) ?_
  refine Tot.ite (fun hl => ?_) (fun _ => Tot.val trivial)
  have hlen := rd106 (fun x => x.f1.length ≤ 448) rs hr2 (Nat.zero_le _) (i : Int)
  have in1 : ∀ (e j : Nat), (rd_T106 rs (i : Int)).f1.length - j < e → Tot (fun k => Zbf.l1 k (i : Int) (j : Int) rs xs) (fun _ => True) := by
   intro e
   induction e with
   | zero => intro j h; omega
   | succ e ihe =>
    intro j he
    refine Tot.step (fun k => by simp only [Zbf.l1]; rfl) ?_
    refine Tot.pos (by omega) (Tot.pos (by omega) (Tot.ite (fun hj => Tot.pos (by omega) ?_) (fun _ => ?_)))
    ·rw [next j (by omega)]
     repeat' (first | refine Tot.ite (fun _ => ?_) (fun _ => ?_) | exact Tot.val trivial | exact ihe _ (by omega))
    ·rw [next i (by omega)]
     exact ih _ (by omega)
  have go : ∀ z, Tot (fun k => Zbf.j1 k (i : Int) z rs xs) (fun _ => True) := by
   intro z
   refine Tot.step (fun k => by simp only [Zbf.j1]; rfl) ?_
   exact Tot.ite (fun _ => Tot.val trivial) (fun _ => in1 449 0 (by omega))
  exact Tot.ite (fun _ => go _) (fun _ => Tot.pos (by omega) (go _))
theorem slim_f (b : ByteArray) (hb : b.size ≤ 8000) : Tot (fun k => Zbf.f k b) (fun _ => True) := by
 unfold Zbf.f
 refine Tot.bind (Decode_f b hb) (fun a ha => ?_)
 exact Tot.ite (fun _ => slim_l0 _ ha.1 ha.2.1 _ 449 0 (by have := ha.1; omega)) (fun _ => Tot.val trivial)
theorem rdT34_get (l : List S34) (i : Nat) (h : i < l.length) : rd_T34 l (i : Int) = l[i] := by simp [rd_T34, List.getD_eq_getElem?_getD, List.getElem?_eq_getElem h]
theorem Short_l0 (l : List S34) (hl : l.length ≤ 40) : ∀ (d i : Nat), l.length - i < d → (∀ j, (h : j < l.length) → j < i → l[j].f4.length ≤ 200) →
  Tot (fun k => Zay.l0 k l (i : Int)) (fun r => r = true → ∀ e ∈ l, e.f4.length ≤ 200) := by
 intro d
 induction d with
 | zero => intro i h; omega
 | succ d ih =>
  intro i hd hs
  refine Tot.step (fun k => by simp only [Zay.l0]; rfl) ?_
  have F : ∀ r : Bool, r = false → (r = true → ∀ e ∈ l, e.f4.length ≤ 200) := by intro r h h'; rw [h] at h'; cases h'
  refine Tot.ite (fun hi => Tot.pos (by omega) ?_) (fun hn => Tot.val (fun _ e he => ?_))
  ·have hi' : i < l.length := by omega
   rw [next i (by omega)]
   refine Tot.ite (fun _ => Tot.val (F _ rfl)) (fun h4 => Tot.ite (fun _ => Tot.val (F _ rfl)) (fun h5 => Tot.ite (fun _ => Tot.val (F _ rfl)) (fun _ => ?_)))
   have nx : Tot (fun k => Zay.l0 k l ((i + 1 : Nat) : Int)) (fun r => r = true → ∀ e ∈ l, e.f4.length ≤ 200) := by
    refine ih (i + 1) (by omega) (fun j hj hji => ?_)
    by_cases hlt : j < i
    ·exact hs j hj hlt
    ·have : j = i := by omega
     subst this
     rw [rdT34_get l j hj] at h4
     omega
   have sl : Tot (fun k => (Zbf.f k ((rd_T34 l (i : Int)).f5)).bind fun t => if t = true then Zay.l0 k l ((i + 1 : Nat) : Int) else some false) (fun r => r = true → ∀ e ∈ l, e.f4.length ≤ 200) :=
    Tot.bind (slim_f _ (by omega)) (fun a _ => Tot.ite (fun _ => nx) (fun _ => Tot.val (F _ rfl)))
   refine Tot.ite (fun _ => Tot.ite (fun _ => Tot.pos (by omega) (Tot.ite (fun _ => Tot.val (F _ rfl)) (fun _ => Tot.ite (fun _ => sl) (fun _ => nx)))) (fun _ => Tot.ite (fun _ => sl) (fun _ => nx))) (fun _ => Tot.ite (fun _ => sl) (fun _ => nx))
  ·obtain ⟨j, hj, rfl⟩ := List.getElem_of_mem he
   exact hs j hj (by omega)
theorem Short_f (l : List S34) : Tot (fun k => Zay.f k l 40) (fun r => r = true → l.length ≤ 40 ∧ ∀ e ∈ l, e.f4.length ≤ 200) := by
 unfold Zay.f
 refine Tot.ite (fun _ => Tot.val (fun h => by cases h)) (fun h => ?_)
 exact (Short_l0 l (by omega) 41 0 (by omega) (fun j _ h => absurd h (Nat.not_lt_zero _))).mono (fun r hr h => ⟨by omega, hr h⟩)
theorem short_l0 (l : List S34) (hl : l.length ≤ 40) : ∀ (d i : Nat) (x : Int), l.length - i < d → Tot (fun k => Zba.l0 k l x (i : Int)) (fun _ => True) := by
 intro d
 induction d with
 | zero => intro i x h; omega
 | succ d ih =>
  intro i x hd
  refine Tot.step (fun k => by simp only [Zba.l0]; rfl) ?_
  refine Tot.ite (fun hi => Tot.pos (by omega) ?_) (fun _ => Tot.val trivial)
  rw [next i (by omega)]
  exact ih _ _ (by omega)
theorem short_f (l : List S34) (b : ByteArray) : Tot (fun k => Zba.f k l b) (fun r => r = true → l.length ≤ 40 ∧ ∀ e ∈ l, e.f4.length ≤ 200) := by
 unfold Zba.f
 refine Tot.bind (Short_f l) (fun a ha => ?_)
 have go : ∀ z : Bool, (z = false → a = true) → Tot (fun k => Zba.j0 k l z) (fun r => r = true → l.length ≤ 40 ∧ ∀ e ∈ l, e.f4.length ≤ 200) := by
  intro z hz
  refine Tot.step (fun k => by simp only [Zba.j0]; rfl) ?_
  refine Tot.ite (fun _ => Tot.val (fun h => by cases h)) (fun h => ?_)
  have hq := ha (hz (by simpa using h))
  exact (short_l0 l hq.1 41 0 0 (by omega)).mono (fun _ _ _ => hq)
 exact Tot.ite (fun h => go _ (fun _ => h)) (fun _ => go _ (fun h => by cases h))
end Go.Proofs.YtjgifmakhnkmdaaGreatDoor.Pure
