import Derived.Test.YtjgifmakhnkmdaaGreatDoorZExtG
namespace Go.Proofs.YtjgifmakhnkmdaaGreatDoor.XRep
set_option maxHeartbeats 8000000
set_option maxRecDepth 100000
open Go.RowKit Go.Proofs.YtjgifmakhnkmdaaGreatDoorW.PrintWords Go.Proofs.YtjgifmakhnkmdaaGreatDoorW.PrintLast Go.Proofs.YtjgifmakhnkmdaaGreatDoorW.PrintMore
set_option linter.unusedVariables false
set_option linter.unusedSimpArgs false
def dryB (l : List Int) : Bool :=
 if (l.length : Int) < 2 then false else decide (0 ≤ rd l 1) && decide (rd l 1 ≤ (l.length : Int) - 2) && ((l.length : Int) - 2 - rd l 1) % 3 == 0
def fitB (t : Nat) (m : Option Int) (l : List Int) : Bool :=
 match m with
 | none => dryB l
 | some m => if t = 130 then (l.length : Int) == m else if t = 131 then decide (m ≤ (l.length : Int)) else decide (m ≤ (l.length : Int)) && ((l.length : Int) - m) % 2 == 0
def inB (n : Int) : Bool := decide (-1099511627776 ≤ n) && decide (n ≤ 1099511627776)
def checkOf (a0_0 a0_1 : Int) (a0_2 a0_3 : ByteArray) (l : List Int) (a0_5 : ByteArray) : Int :=
 if (kindOf a0_0).name.toList.isEmpty = true then 10
 else if a0_1 < 0 then 15 else if a0_1 > 10000000 then 15
 else if isCodeB a0_2 (kindOf a0_0).item = false then 6
 else if isCodeB a0_3 (kindOf a0_0).of = false then 6
 else if (l.length : Int) > 600 then 4 else if (a0_5.size : Int) > 16384 then 4
 else if l.all inB = false then 9
 else if fitB (kindOf a0_0).t (kindOf a0_0).n l = false then 19 else 0
theorem Zca.calls (A : Option Addr) (c : Nat) (l : List Int) (hl : l.length ≤ 600) (w : World) (hr : Kd.C (Kd.int .i64) w A l.length l) (hc : l.length ≤ c) (hin : ∀ n ∈ l, inB n = true) :
  Calls Tryz.prog 166 #[.agg #[], .slice A l.length c] w fun e w' => e = .returned (.bool (dryB l)) ∧ Below w.heap.size w w' := by
 unfold dryB
 by_cases c1 : (l.length : Int) < 2
 ·rw [if_pos c1]
  go_enter Tryz.func166, Tryz.ntmps166
  go_wp2
  go_ret
  exact ⟨rfl, below_alloc (Below.refl _ _) _⟩
 rw [if_neg c1]
 obtain ⟨ad, eA, hx⟩ := Kd.at_int hr 1 (by omega) (by omega)
 subst eA
 have hb1 : inB (rd l 1) = true := by
  have e : rd l 1 = l[1] := by simp [rd, List.getD_eq_getElem?_getD, List.getElem?_eq_getElem (show 1 < l.length by omega)]
  rw [e]; exact hin _ (List.getElem_mem _)
 have hb2 : -1099511627776 ≤ rd l 1 ∧ rd l 1 ≤ 1099511627776 := by simpa [inB] using hb1
 obtain ⟨h1, h2⟩ := hb2
 replace hx : w.cell? ⟨ad.block, ad.off + 1, none⟩ = some (.int .i64 (rd l 1)) := hx
 generalize rd l 1 = x at hx h1 h2 ⊢
 clear hb1 hr hin
 have hx' : (w.alloc (.cells #[] 133)).cell? ⟨ad.block, ad.off + 1, none⟩ = some (.int .i64 x) := by
  rw [World.cell?_alloc_some _ _ _ (by rw [hx]; rfl)]; exact hx
 clear hx
 by_cases d1 : 0 ≤ x
 ·by_cases d2 : x ≤ (l.length : Int) - 2
  ·go_enter Tryz.func166, Tryz.ntmps166
   go_wp2
   go_ret
   exact ⟨by simp [d1, d2], below_alloc (Below.refl _ _) _⟩
  ·go_enter Tryz.func166, Tryz.ntmps166
   go_wp2
   go_ret
   exact ⟨by simp; intros; omega, below_alloc (Below.refl _ _) _⟩
 ·go_enter Tryz.func166, Tryz.ntmps166
  go_wp2
  go_ret
  exact ⟨by simp; intros; omega, below_alloc (Below.refl _ _) _⟩
theorem all_false {l : List Int} {k : Nat} (_ : ∀ j : Nat, j < k → inB (rd l j) = true) (hk : k < l.length) (h : inB (rd l k) = false) : l.all inB = false := by
 rw [List.all_eq_false]
 refine ⟨l[k], List.getElem_mem hk, ?_⟩
 have : rd l k = l[k] := by simp [rd, List.getD_eq_getElem?_getD, List.getElem?_eq_getElem hk]
 rw [← this, h]; decide
theorem all_true {l : List Int} (h : ∀ j : Nat, j < l.length → inB (rd l j) = true) : l.all inB = true := by
 rw [List.all_eq_true]
 intro x hx
 obtain ⟨j, hj, rfl⟩ := List.getElem_of_mem hx
 have : rd l j = l[j] := by simp [rd, List.getD_eq_getElem?_getD, List.getElem?_eq_getElem hj]
 rw [← this]; exact h j hj
def ShapeIs (t : Nat) (n : Option Int) (v : Value) : Prop :=
 (t = 130 ∧ ∃ m, n = some m ∧ v = .int .i64 m) ∨ (t = 131 ∧ ∃ m, n = some m ∧ v = .int .i64 m) ∨ (t = 133 ∧ n = none ∧ v = .agg #[]) ∨ (t = 134 ∧ ∃ m, n = some m ∧ 0 ≤ m ∧ m ≤ 1 ∧ v = .int .i64 m)
theorem kindOf_shape (n : Int) : ShapeIs (kindOf n).t (kindOf n).n (kindOf n).shape := by
 unfold kindOf
 by_cases h1 : n = 1
 ·rw [if_pos h1]; first | exact .inl ⟨rfl, _, rfl, rfl⟩ | exact .inr (.inl ⟨rfl, _, rfl, rfl⟩) | exact .inr (.inr (.inl ⟨rfl, rfl, rfl⟩)) | exact .inr (.inr (.inr ⟨rfl, _, rfl, by decide, by decide, rfl⟩))
 rw [if_neg h1]
 by_cases h2 : n = 2
 ·rw [if_pos h2]; first | exact .inl ⟨rfl, _, rfl, rfl⟩ | exact .inr (.inl ⟨rfl, _, rfl, rfl⟩) | exact .inr (.inr (.inl ⟨rfl, rfl, rfl⟩)) | exact .inr (.inr (.inr ⟨rfl, _, rfl, by decide, by decide, rfl⟩))
 rw [if_neg h2]
 by_cases h3 : n = 3
 ·rw [if_pos h3]; first | exact .inl ⟨rfl, _, rfl, rfl⟩ | exact .inr (.inl ⟨rfl, _, rfl, rfl⟩) | exact .inr (.inr (.inl ⟨rfl, rfl, rfl⟩)) | exact .inr (.inr (.inr ⟨rfl, _, rfl, by decide, by decide, rfl⟩))
 rw [if_neg h3]
 by_cases h4 : n = 4
 ·rw [if_pos h4]; first | exact .inl ⟨rfl, _, rfl, rfl⟩ | exact .inr (.inl ⟨rfl, _, rfl, rfl⟩) | exact .inr (.inr (.inl ⟨rfl, rfl, rfl⟩)) | exact .inr (.inr (.inr ⟨rfl, _, rfl, by decide, by decide, rfl⟩))
 rw [if_neg h4]
 by_cases h5 : n = 5
 ·rw [if_pos h5]; first | exact .inl ⟨rfl, _, rfl, rfl⟩ | exact .inr (.inl ⟨rfl, _, rfl, rfl⟩) | exact .inr (.inr (.inl ⟨rfl, rfl, rfl⟩)) | exact .inr (.inr (.inr ⟨rfl, _, rfl, by decide, by decide, rfl⟩))
 rw [if_neg h5]
 by_cases h6 : n = 6
 ·rw [if_pos h6]; first | exact .inl ⟨rfl, _, rfl, rfl⟩ | exact .inr (.inl ⟨rfl, _, rfl, rfl⟩) | exact .inr (.inr (.inl ⟨rfl, rfl, rfl⟩)) | exact .inr (.inr (.inr ⟨rfl, _, rfl, by decide, by decide, rfl⟩))
 rw [if_neg h6]
 by_cases h7 : n = 7
 ·rw [if_pos h7]; first | exact .inl ⟨rfl, _, rfl, rfl⟩ | exact .inr (.inl ⟨rfl, _, rfl, rfl⟩) | exact .inr (.inr (.inl ⟨rfl, rfl, rfl⟩)) | exact .inr (.inr (.inr ⟨rfl, _, rfl, by decide, by decide, rfl⟩))
 rw [if_neg h7]
 by_cases h8 : n = 8
 ·rw [if_pos h8]; first | exact .inl ⟨rfl, _, rfl, rfl⟩ | exact .inr (.inl ⟨rfl, _, rfl, rfl⟩) | exact .inr (.inr (.inl ⟨rfl, rfl, rfl⟩)) | exact .inr (.inr (.inr ⟨rfl, _, rfl, by decide, by decide, rfl⟩))
 rw [if_neg h8]
 by_cases h9 : n = 9
 ·rw [if_pos h9]; first | exact .inl ⟨rfl, _, rfl, rfl⟩ | exact .inr (.inl ⟨rfl, _, rfl, rfl⟩) | exact .inr (.inr (.inl ⟨rfl, rfl, rfl⟩)) | exact .inr (.inr (.inr ⟨rfl, _, rfl, by decide, by decide, rfl⟩))
 rw [if_neg h9]
 by_cases h10 : n = 10
 ·rw [if_pos h10]; first | exact .inl ⟨rfl, _, rfl, rfl⟩ | exact .inr (.inl ⟨rfl, _, rfl, rfl⟩) | exact .inr (.inr (.inl ⟨rfl, rfl, rfl⟩)) | exact .inr (.inr (.inr ⟨rfl, _, rfl, by decide, by decide, rfl⟩))
 rw [if_neg h10]
 by_cases h11 : n = 11
 ·rw [if_pos h11]; first | exact .inl ⟨rfl, _, rfl, rfl⟩ | exact .inr (.inl ⟨rfl, _, rfl, rfl⟩) | exact .inr (.inr (.inl ⟨rfl, rfl, rfl⟩)) | exact .inr (.inr (.inr ⟨rfl, _, rfl, by decide, by decide, rfl⟩))
 rw [if_neg h11]
 by_cases h12 : n = 12
 ·rw [if_pos h12]; first | exact .inl ⟨rfl, _, rfl, rfl⟩ | exact .inr (.inl ⟨rfl, _, rfl, rfl⟩) | exact .inr (.inr (.inl ⟨rfl, rfl, rfl⟩)) | exact .inr (.inr (.inr ⟨rfl, _, rfl, by decide, by decide, rfl⟩))
 rw [if_neg h12]
 by_cases h13 : n = 13
 ·rw [if_pos h13]; first | exact .inl ⟨rfl, _, rfl, rfl⟩ | exact .inr (.inl ⟨rfl, _, rfl, rfl⟩) | exact .inr (.inr (.inl ⟨rfl, rfl, rfl⟩)) | exact .inr (.inr (.inr ⟨rfl, _, rfl, by decide, by decide, rfl⟩))
 rw [if_neg h13]
 by_cases h14 : n = 14
 ·rw [if_pos h14]; first | exact .inl ⟨rfl, _, rfl, rfl⟩ | exact .inr (.inl ⟨rfl, _, rfl, rfl⟩) | exact .inr (.inr (.inl ⟨rfl, rfl, rfl⟩)) | exact .inr (.inr (.inr ⟨rfl, _, rfl, by decide, by decide, rfl⟩))
 rw [if_neg h14]
 exact .inl ⟨rfl, _, rfl, rfl⟩
theorem met130 (x : Value) (w : World) : (method 318 130 x "sawmill/event.fits").run Tryz.prog w = .ok (164, x) w := by kernel_rfl
theorem met131 (x : Value) (w : World) : (method 318 131 x "sawmill/event.fits").run Tryz.prog w = .ok (165, x) w := by kernel_rfl
theorem met133 (x : Value) (w : World) : (method 318 133 x "sawmill/event.fits").run Tryz.prog w = .ok (166, x) w := by kernel_rfl
theorem met134 (x : Value) (w : World) : (method 318 134 x "sawmill/event.fits").run Tryz.prog w = .ok (167, x) w := by kernel_rfl
attribute [local go_sem] met130 met131 met133 met134
theorem Zcj.hand (a0 a1 : Int) (a2 a3 : ByteArray) (A : Option Addr) (c : Nat) (l : List Int) (a5 : ByteArray) (w : World) (hr : Kd.C (Kd.int .i64) w A l.length l) (hc : l.length ≤ c) :
  Calls Tryz.prog 36 #[.agg #[.int .i64 a0, .int .i64 a1, .string a2, .string a3, .slice A l.length c, .string a5]] w fun e w' => e = .returned (.int .i64 (checkOf a0 a1 a2 a3 l a5)) ∧ Below w.heap.size w w' := by
 unfold checkOf
 have hk := Zcc.calls a0
 have hsh := kindOf_shape a0
 obtain ⟨K, hK⟩ : ∃ K, K = kindOf a0 := ⟨_, rfl⟩
 rw [← hK] at hk hsh ⊢
 simp only [Kind.v] at hk
 obtain ⟨shv, hv⟩ : ∃ v, v = K.shape := ⟨_, rfl⟩
 rw [← hv] at hk hsh
 clear hv hK
 obtain ⟨nm, it, of, t, sh⟩ := K
 have HR := Aside0.mk hr
 have HC := Aside0.mk hc
 have HS := Aside0.mk hsh
 clear hr hc hsh
 have hu34 := Tryz.underlying34
 have hu94 := Tryz.underlying94
 have hu92 := Tryz.underlying92
 by_cases c1 : nm.toList.isEmpty = true
 ·rw [if_pos c1]
  go_enter Tryz.func36, Tryz.ntmps36
  go_wp2_with (first | (go_at_call 68; refine (hk _).mono ?_; rintro e w1 ⟨rfl, hb1⟩; have HB1 := Aside0.mk (below_step (below_alloc (Below.refl _ _) _) hb1); have HE1 := Aside0.mk (blk_alloc (blk_below (heap_new w _) hb1) (.cells #[.string nm, .int .u8 it, .int .u8 of, .iface t shv] 94)); clear hb1; have z1 : (w1.alloc (.cells #[.string nm, .int .u8 it, .int .u8 of, .iface t shv] 94)).cell? ⟨w.heap.size, 1, none⟩ = some (.int .i64 a1) := cell_of HE1.out 1 rfl; have z2 : (w1.alloc (.cells #[.string nm, .int .u8 it, .int .u8 of, .iface t shv] 94)).cell? ⟨w.heap.size, 2, none⟩ = some (.string a2) := cell_of HE1.out 2 rfl))
  go_ret
  exact ⟨rfl, below_alloc HB1.out _⟩
 rw [if_neg c1]
 have b1 : nm.toList.isEmpty = false := by simpa using c1
 clear c1
 by_cases c2 : a1 < 0
 ·rw [if_pos c2]
  go_enter Tryz.func36, Tryz.ntmps36
  go_wp2_with (first | (go_at_call 68; refine (hk _).mono ?_; rintro e w1 ⟨rfl, hb1⟩; have HB1 := Aside0.mk (below_step (below_alloc (Below.refl _ _) _) hb1); have HE1 := Aside0.mk (blk_alloc (blk_below (heap_new w _) hb1) (.cells #[.string nm, .int .u8 it, .int .u8 of, .iface t shv] 94)); clear hb1; have z1 : (w1.alloc (.cells #[.string nm, .int .u8 it, .int .u8 of, .iface t shv] 94)).cell? ⟨w.heap.size, 1, none⟩ = some (.int .i64 a1) := cell_of HE1.out 1 rfl; have z2 : (w1.alloc (.cells #[.string nm, .int .u8 it, .int .u8 of, .iface t shv] 94)).cell? ⟨w.heap.size, 2, none⟩ = some (.string a2) := cell_of HE1.out 2 rfl))
  go_ret
  exact ⟨rfl, below_alloc HB1.out _⟩
 rw [if_neg c2]
 by_cases c3 : a1 > 10000000
 ·rw [if_pos c3]
  go_enter Tryz.func36, Tryz.ntmps36
  go_wp2_with (first | (go_at_call 68; refine (hk _).mono ?_; rintro e w1 ⟨rfl, hb1⟩; have HB1 := Aside0.mk (below_step (below_alloc (Below.refl _ _) _) hb1); have HE1 := Aside0.mk (blk_alloc (blk_below (heap_new w _) hb1) (.cells #[.string nm, .int .u8 it, .int .u8 of, .iface t shv] 94)); clear hb1; have z1 : (w1.alloc (.cells #[.string nm, .int .u8 it, .int .u8 of, .iface t shv] 94)).cell? ⟨w.heap.size, 1, none⟩ = some (.int .i64 a1) := cell_of HE1.out 1 rfl; have z2 : (w1.alloc (.cells #[.string nm, .int .u8 it, .int .u8 of, .iface t shv] 94)).cell? ⟨w.heap.size, 2, none⟩ = some (.string a2) := cell_of HE1.out 2 rfl))
  go_ret
  exact ⟨rfl, below_alloc HB1.out _⟩
 rw [if_neg c3]
 cases c4 : isCodeB a2 it
 ·rw [if_pos rfl]
  go_enter Tryz.func36, Tryz.ntmps36
  go_wp2_with (first | (go_at_call 68; refine (hk _).mono ?_; rintro e w1 ⟨rfl, hb1⟩; have HB1 := Aside0.mk (below_step (below_alloc (Below.refl _ _) _) hb1); have HE1 := Aside0.mk (blk_alloc (blk_below (heap_new w _) hb1) (.cells #[.string nm, .int .u8 it, .int .u8 of, .iface t shv] 94)); clear hb1; have z1 : (w1.alloc (.cells #[.string nm, .int .u8 it, .int .u8 of, .iface t shv] 94)).cell? ⟨w.heap.size, 1, none⟩ = some (.int .i64 a1) := cell_of HE1.out 1 rfl; have z2 : (w1.alloc (.cells #[.string nm, .int .u8 it, .int .u8 of, .iface t shv] 94)).cell? ⟨w.heap.size, 2, none⟩ = some (.string a2) := cell_of HE1.out 2 rfl) | (go_at_call 69; refine (Zcb.calls _ _ _).mono ?_; rintro e w2 ⟨rfl, hb2⟩; have HB2 := Aside0.mk (below_step (below_alloc HB1.out _) hb2); have HE2 := Aside0.mk (blk_below HE1.out hb2); have HK2 := Aside0.mk (blk_below (heap_new w1 _) hb2); clear hb2; clear z1 z2; have z3 : (w2).cell? ⟨w.heap.size, 3, none⟩ = some (.string a3) := cell_of HE2.out 3 rfl; have y2 : (w2).cell? ⟨w1.heap.size, 2, none⟩ = some (.int .u8 of) := cell_of HK2.out 2 rfl))
  go_ret
  exact ⟨rfl, HB2.out⟩
 rw [if_neg (by decide)]
 cases c5 : isCodeB a3 of
 ·rw [if_pos rfl]
  go_enter Tryz.func36, Tryz.ntmps36
  go_wp2_with (first | (go_at_call 68; refine (hk _).mono ?_; rintro e w1 ⟨rfl, hb1⟩; have HB1 := Aside0.mk (below_step (below_alloc (Below.refl _ _) _) hb1); have HE1 := Aside0.mk (blk_alloc (blk_below (heap_new w _) hb1) (.cells #[.string nm, .int .u8 it, .int .u8 of, .iface t shv] 94)); clear hb1; have z1 : (w1.alloc (.cells #[.string nm, .int .u8 it, .int .u8 of, .iface t shv] 94)).cell? ⟨w.heap.size, 1, none⟩ = some (.int .i64 a1) := cell_of HE1.out 1 rfl; have z2 : (w1.alloc (.cells #[.string nm, .int .u8 it, .int .u8 of, .iface t shv] 94)).cell? ⟨w.heap.size, 2, none⟩ = some (.string a2) := cell_of HE1.out 2 rfl) | (go_at_call 69; have HB2_ := HB2; clear HB2_; refine (Zcb.calls _ _ _).mono ?_; rintro e w3 ⟨rfl, hb3⟩; have HB3 := Aside0.mk (below_step HB2.out hb3); have HE3 := Aside0.mk (blk_below HE2.out hb3); have HK3 := Aside0.mk (blk_below HK2.out hb3); clear hb3; clear z3 y2; have z4 : (w3).cell? ⟨w.heap.size, 4, none⟩ = some (.slice A l.length c) := cell_of HE3.out 4 rfl; have z5 : (w3).cell? ⟨w.heap.size, 5, none⟩ = some (.string a5) := cell_of HE3.out 5 rfl; have y3 : (w3).cell? ⟨w1.heap.size, 3, none⟩ = some (.iface t shv) := cell_of HK3.out 3 rfl) | (go_at_call 69; refine (Zcb.calls _ _ _).mono ?_; rintro e w2 ⟨rfl, hb2⟩; have HB2 := Aside0.mk (below_step (below_alloc HB1.out _) hb2); have HE2 := Aside0.mk (blk_below HE1.out hb2); have HK2 := Aside0.mk (blk_below (heap_new w1 _) hb2); clear hb2; clear z1 z2; have z3 : (w2).cell? ⟨w.heap.size, 3, none⟩ = some (.string a3) := cell_of HE2.out 3 rfl; have y2 : (w2).cell? ⟨w1.heap.size, 2, none⟩ = some (.int .u8 of) := cell_of HK2.out 2 rfl))
  go_ret
  exact ⟨rfl, HB3.out⟩
 rw [if_neg (by decide)]
 by_cases c6 : (l.length : Int) > 600
 ·rw [if_pos c6]
  go_enter Tryz.func36, Tryz.ntmps36
  go_wp2_with (first | (go_at_call 68; refine (hk _).mono ?_; rintro e w1 ⟨rfl, hb1⟩; have HB1 := Aside0.mk (below_step (below_alloc (Below.refl _ _) _) hb1); have HE1 := Aside0.mk (blk_alloc (blk_below (heap_new w _) hb1) (.cells #[.string nm, .int .u8 it, .int .u8 of, .iface t shv] 94)); clear hb1; have z1 : (w1.alloc (.cells #[.string nm, .int .u8 it, .int .u8 of, .iface t shv] 94)).cell? ⟨w.heap.size, 1, none⟩ = some (.int .i64 a1) := cell_of HE1.out 1 rfl; have z2 : (w1.alloc (.cells #[.string nm, .int .u8 it, .int .u8 of, .iface t shv] 94)).cell? ⟨w.heap.size, 2, none⟩ = some (.string a2) := cell_of HE1.out 2 rfl) | (go_at_call 69; have HB2_ := HB2; clear HB2_; refine (Zcb.calls _ _ _).mono ?_; rintro e w3 ⟨rfl, hb3⟩; have HB3 := Aside0.mk (below_step HB2.out hb3); have HE3 := Aside0.mk (blk_below HE2.out hb3); have HK3 := Aside0.mk (blk_below HK2.out hb3); clear hb3; clear z3 y2; have z4 : (w3).cell? ⟨w.heap.size, 4, none⟩ = some (.slice A l.length c) := cell_of HE3.out 4 rfl; have z5 : (w3).cell? ⟨w.heap.size, 5, none⟩ = some (.string a5) := cell_of HE3.out 5 rfl; have y3 : (w3).cell? ⟨w1.heap.size, 3, none⟩ = some (.iface t shv) := cell_of HK3.out 3 rfl) | (go_at_call 69; refine (Zcb.calls _ _ _).mono ?_; rintro e w2 ⟨rfl, hb2⟩; have HB2 := Aside0.mk (below_step (below_alloc HB1.out _) hb2); have HE2 := Aside0.mk (blk_below HE1.out hb2); have HK2 := Aside0.mk (blk_below (heap_new w1 _) hb2); clear hb2; clear z1 z2; have z3 : (w2).cell? ⟨w.heap.size, 3, none⟩ = some (.string a3) := cell_of HE2.out 3 rfl; have y2 : (w2).cell? ⟨w1.heap.size, 2, none⟩ = some (.int .u8 of) := cell_of HK2.out 2 rfl))
  go_ret
  exact ⟨rfl, HB3.out⟩
 rw [if_neg c6]
 by_cases c7 : (a5.size : Int) > 16384
 ·rw [if_pos c7]
  go_enter Tryz.func36, Tryz.ntmps36
  go_wp2_with (first | (go_at_call 68; refine (hk _).mono ?_; rintro e w1 ⟨rfl, hb1⟩; have HB1 := Aside0.mk (below_step (below_alloc (Below.refl _ _) _) hb1); have HE1 := Aside0.mk (blk_alloc (blk_below (heap_new w _) hb1) (.cells #[.string nm, .int .u8 it, .int .u8 of, .iface t shv] 94)); clear hb1; have z1 : (w1.alloc (.cells #[.string nm, .int .u8 it, .int .u8 of, .iface t shv] 94)).cell? ⟨w.heap.size, 1, none⟩ = some (.int .i64 a1) := cell_of HE1.out 1 rfl; have z2 : (w1.alloc (.cells #[.string nm, .int .u8 it, .int .u8 of, .iface t shv] 94)).cell? ⟨w.heap.size, 2, none⟩ = some (.string a2) := cell_of HE1.out 2 rfl) | (go_at_call 69; have HB2_ := HB2; clear HB2_; refine (Zcb.calls _ _ _).mono ?_; rintro e w3 ⟨rfl, hb3⟩; have HB3 := Aside0.mk (below_step HB2.out hb3); have HE3 := Aside0.mk (blk_below HE2.out hb3); have HK3 := Aside0.mk (blk_below HK2.out hb3); clear hb3; clear z3 y2; have z4 : (w3).cell? ⟨w.heap.size, 4, none⟩ = some (.slice A l.length c) := cell_of HE3.out 4 rfl; have z5 : (w3).cell? ⟨w.heap.size, 5, none⟩ = some (.string a5) := cell_of HE3.out 5 rfl; have y3 : (w3).cell? ⟨w1.heap.size, 3, none⟩ = some (.iface t shv) := cell_of HK3.out 3 rfl) | (go_at_call 69; refine (Zcb.calls _ _ _).mono ?_; rintro e w2 ⟨rfl, hb2⟩; have HB2 := Aside0.mk (below_step (below_alloc HB1.out _) hb2); have HE2 := Aside0.mk (blk_below HE1.out hb2); have HK2 := Aside0.mk (blk_below (heap_new w1 _) hb2); clear hb2; clear z1 z2; have z3 : (w2).cell? ⟨w.heap.size, 3, none⟩ = some (.string a3) := cell_of HE2.out 3 rfl; have y2 : (w2).cell? ⟨w1.heap.size, 2, none⟩ = some (.int .u8 of) := cell_of HK2.out 2 rfl))
  go_ret
  exact ⟨rfl, HB3.out⟩
 rw [if_neg c7]
 obtain ⟨R, hR⟩ : ∃ R, R = (if l.all inB = false then (9 : Int) else if fitB t sh l = false then 19 else 0) := ⟨_, rfl⟩
 rw [← hR]
 have RR := Aside0.mk hR
 clear hR
 go_enter Tryz.func36, Tryz.ntmps36
 go_wp2_with (first | (go_at_call 68; refine (hk _).mono ?_; rintro e w1 ⟨rfl, hb1⟩; have HB1 := Aside0.mk (below_step (below_alloc (Below.refl _ _) _) hb1); have HE1 := Aside0.mk (blk_alloc (blk_below (heap_new w _) hb1) (.cells #[.string nm, .int .u8 it, .int .u8 of, .iface t shv] 94)); clear hb1; have z1 : (w1.alloc (.cells #[.string nm, .int .u8 it, .int .u8 of, .iface t shv] 94)).cell? ⟨w.heap.size, 1, none⟩ = some (.int .i64 a1) := cell_of HE1.out 1 rfl; have z2 : (w1.alloc (.cells #[.string nm, .int .u8 it, .int .u8 of, .iface t shv] 94)).cell? ⟨w.heap.size, 2, none⟩ = some (.string a2) := cell_of HE1.out 2 rfl) | (go_at_call 69; have HB2_ := HB2; clear HB2_; refine (Zcb.calls _ _ _).mono ?_; rintro e w3 ⟨rfl, hb3⟩; have HB3 := Aside0.mk (below_step HB2.out hb3); have HE3 := Aside0.mk (blk_below HE2.out hb3); have HK3 := Aside0.mk (blk_below HK2.out hb3); clear hb3; clear z3 y2; have z4 : (w3).cell? ⟨w.heap.size, 4, none⟩ = some (.slice A l.length c) := cell_of HE3.out 4 rfl; have z5 : (w3).cell? ⟨w.heap.size, 5, none⟩ = some (.string a5) := cell_of HE3.out 5 rfl; have y3 : (w3).cell? ⟨w1.heap.size, 3, none⟩ = some (.iface t shv) := cell_of HK3.out 3 rfl) | (go_at_call 69; refine (Zcb.calls _ _ _).mono ?_; rintro e w2 ⟨rfl, hb2⟩; have HB2 := Aside0.mk (below_step (below_alloc HB1.out _) hb2); have HE2 := Aside0.mk (blk_below HE1.out hb2); have HK2 := Aside0.mk (blk_below (heap_new w1 _) hb2); clear hb2; clear z1 z2; have z3 : (w2).cell? ⟨w.heap.size, 3, none⟩ = some (.string a3) := cell_of HE2.out 3 rfl; have y2 : (w2).cell? ⟨w1.heap.size, 2, none⟩ = some (.int .u8 of) := cell_of HK2.out 2 rfl))
 have HR3 := Aside0.mk (Kd.C_below HR.out HB3.out)
 clear z5
 go_loop [51] (fun v51 => ∃ k : Nat, k ≤ l.length ∧ v51 = .int .i64 k ∧ Hid (∀ j : Nat, j < k → inB (rd l j) = true)) (fun v51 => l.length - (intOf v51).toNat)
 case atStart => exact ⟨0, Nat.zero_le _, rfl, fun j hj => absurd hj (by omega)⟩
 case round =>
  obtain ⟨k, hk1, rfl, HI⟩ := hrel
  by_cases hkl : k < l.length
  ·obtain ⟨ad, eA, hx⟩ := Kd.at_int HR3.out k (by omega) (by omega)
   subst eA
   simp only [Int.toNat_natCast] at hx
   by_cases d1 : rd l k < -1099511627776
   ·have e : l.all inB = false := all_false HI.out hkl (by simp [inB]; omega)
    go_wp2
    go_ret
    exact ⟨by rw [RR.out, e, if_pos rfl]; rfl, HB3.out⟩
   by_cases d2 : rd l k > 1099511627776
   ·have e : l.all inB = false := all_false HI.out hkl (by simp [inB]; omega)
    go_wp2
    go_ret
    exact ⟨by rw [RR.out, e, if_pos rfl]; rfl, HB3.out⟩
   go_wp2
   go_round
   case rel => exact ⟨k + 1, by omega, by go_num, fun j hj => by
    rcases Nat.lt_or_ge j k with h | h
    ·exact HI.out j h
    ·have : j = k := by omega
     subst this; simp [inB]; omega⟩
   case measure => simp [intOf]; omega
  ·have hkn : k = l.length := by omega
   subst hkn
   have HA : Hid (l.all inB = true) := all_true HI.out
   rcases HS.out with ⟨rfl, m, rfl, rfl⟩ | ⟨rfl, m, rfl, rfl⟩ | ⟨rfl, rfl, rfl⟩ | ⟨rfl, m, rfl, h0, h1, rfl⟩
   ·skip
    cases hf : ((l.length : Int) == m)
    ·have e : fitB 130 (some m) l = false := by simpa [fitB] using hf
     have E := Aside0.mk e
     have HF := fun w (hr : Kd.C (Kd.int .i64) w A l.length l) => Zbu.calls m A l.length c w
     simp only [hf] at HF
     clear e hf
     go_wp2_with (first | (go_at_call 164; refine (HF _ HR3.out).mono ?_; rintro e4 w4 ⟨rfl, hb4⟩))
     go_ret
     exact ⟨by (rw [RR.out, HA.out, if_neg (by decide), E.out, if_pos rfl]; rfl), by subst hb4; exact HB3.out⟩
    ·have e : fitB 130 (some m) l = true := by simpa [fitB] using hf
     have E := Aside0.mk e
     have HF := fun w (hr : Kd.C (Kd.int .i64) w A l.length l) => Zbu.calls m A l.length c w
     simp only [hf] at HF
     clear e hf
     go_wp2_with (first | (go_at_call 164; refine (HF _ HR3.out).mono ?_; rintro e4 w4 ⟨rfl, hb4⟩))
     go_ret
     exact ⟨by (rw [RR.out, HA.out, if_neg (by decide), E.out, if_neg (by decide)]; rfl), by subst hb4; exact HB3.out⟩
   ·skip
    cases hf : decide (m ≤ (l.length : Int))
    ·have e : fitB 131 (some m) l = false := by simpa [fitB] using hf
     have E := Aside0.mk e
     have HF := fun w (hr : Kd.C (Kd.int .i64) w A l.length l) => Zbt.calls m A l.length c w
     simp only [hf] at HF
     clear e hf
     go_wp2_with (first | (go_at_call 165; refine (HF _ HR3.out).mono ?_; rintro e4 w4 ⟨rfl, hb4⟩))
     go_ret
     exact ⟨by (rw [RR.out, HA.out, if_neg (by decide), E.out, if_pos rfl]; rfl), by subst hb4; exact HB3.out⟩
    ·have e : fitB 131 (some m) l = true := by simpa [fitB] using hf
     have E := Aside0.mk e
     have HF := fun w (hr : Kd.C (Kd.int .i64) w A l.length l) => Zbt.calls m A l.length c w
     simp only [hf] at HF
     clear e hf
     go_wp2_with (first | (go_at_call 165; refine (HF _ HR3.out).mono ?_; rintro e4 w4 ⟨rfl, hb4⟩))
     go_ret
     exact ⟨by (rw [RR.out, HA.out, if_neg (by decide), E.out, if_neg (by decide)]; rfl), by subst hb4; exact HB3.out⟩
   ·skip
    cases hf : dryB l
    ·have e : fitB 133 none l = false := hf
     have E := Aside0.mk e
     have HF := fun w (hr : Kd.C (Kd.int .i64) w A l.length l) => Zca.calls A c l (by omega) w hr HC.out (List.all_eq_true.mp HA.out)
     simp only [hf] at HF
     clear e hf
     go_wp2_with (first | (go_at_call 166; refine (HF _ HR3.out).mono ?_; rintro e4 w4 ⟨rfl, hb4⟩))
     go_ret
     exact ⟨by (rw [RR.out, HA.out, if_neg (by decide), E.out, if_pos rfl]; rfl), below_step HB3.out hb4⟩
    ·have e : fitB 133 none l = true := hf
     have E := Aside0.mk e
     have HF := fun w (hr : Kd.C (Kd.int .i64) w A l.length l) => Zca.calls A c l (by omega) w hr HC.out (List.all_eq_true.mp HA.out)
     simp only [hf] at HF
     clear e hf
     go_wp2_with (first | (go_at_call 166; refine (HF _ HR3.out).mono ?_; rintro e4 w4 ⟨rfl, hb4⟩))
     go_ret
     exact ⟨by (rw [RR.out, HA.out, if_neg (by decide), E.out, if_neg (by decide)]; rfl), below_step HB3.out hb4⟩
   ·skip
    cases hf : (decide (m ≤ (l.length : Int)) && ((l.length : Int) - m) % 2 == 0)
    ·have e : fitB 134 (some m) l = false := by simpa [fitB] using hf
     have E := Aside0.mk e
     have HF := fun w (hr : Kd.C (Kd.int .i64) w A l.length l) => Zck.calls m A l.length c (by omega) h0 h1 w
     simp only [hf] at HF
     clear e hf
     go_wp2_with (first | (go_at_call 167; refine (HF _ HR3.out).mono ?_; rintro e4 w4 ⟨rfl, hb4⟩))
     go_ret
     exact ⟨by (rw [RR.out, HA.out, if_neg (by decide), E.out, if_pos rfl]; rfl), by subst hb4; exact HB3.out⟩
    ·have e : fitB 134 (some m) l = true := by simpa [fitB] using hf
     have E := Aside0.mk e
     have HF := fun w (hr : Kd.C (Kd.int .i64) w A l.length l) => Zck.calls m A l.length c (by omega) h0 h1 w
     simp only [hf] at HF
     clear e hf
     go_wp2_with (first | (go_at_call 167; refine (HF _ HR3.out).mono ?_; rintro e4 w4 ⟨rfl, hb4⟩))
     go_ret
     exact ⟨by (rw [RR.out, HA.out, if_neg (by decide), E.out, if_neg (by decide)]; rfl), by subst hb4; exact HB3.out⟩
def Zcj.f (a0_0 a0_1 : Int) (a0_2 a0_3 : ByteArray) (l0_4 : List Int) (a0_5 : ByteArray) : Option Int := some (checkOf a0_0 a0_1 a0_2 a0_3 l0_4 a0_5)
theorem Zcj.calls (a0_0 a0_1 : Int) (a0_2 a0_3 : ByteArray) (A0_4 : Option Addr) (c0_4 : Nat) (l0_4 : List Int) (a0_5 : ByteArray) (r : Int) (w : World) (hr0_4 : Kd.C (Kd.int .i64) w A0_4 l0_4.length l0_4) (hc0_4 : l0_4.length ≤ c0_4) (h : Zcj.f a0_0 a0_1 a0_2 a0_3 l0_4 a0_5 = some r) :
  Calls Tryz.prog 36 #[.agg #[.int .i64 a0_0, .int .i64 a0_1, .string a0_2, .string a0_3, .slice A0_4 l0_4.length c0_4, .string a0_5]] w fun e w' => e = .returned (.int .i64 r) ∧ Below w.heap.size w w' := by
 obtain rfl := Option.some.inj h
 exact Zcj.hand a0_0 a0_1 a0_2 a0_3 A0_4 c0_4 l0_4 a0_5 w hr0_4 hc0_4
end Go.Proofs.YtjgifmakhnkmdaaGreatDoor.XRep
