import Derived.Test.YtjgifmakhnkmdaaGreatDoorZXRepx8
import Derived.Test.YtjgifmakhnkmdaaGreatDoorZCmp
namespace Go.Proofs.YtjgifmakhnkmdaaGreatDoor.XRep
set_option maxHeartbeats 8000000
set_option maxRecDepth 100000
open Go.RowKit Go.Proofs.YtjgifmakhnkmdaaGreatDoorW.PrintWords Go.Proofs.YtjgifmakhnkmdaaGreatDoorW.PrintLast Go.Proofs.YtjgifmakhnkmdaaGreatDoorW.PrintMore Go.Proofs.YtjgifmakhnkmdaaGreatDoor.Cmp
set_option linter.unusedVariables false
set_option linter.unusedSimpArgs false
def Zay.l0 : Nat → List (S34) → Int → Option (Bool)
 | 0, _, _ => none
 | k + 1, x0, x5 => if x5 < (x0.length : Int) then (if 0 ≤ x5 then (if (((rd_T34 x0 x5).f4).length : Int) > 200 then (some false) else (if (((rd_T34 x0 x5).f5).size : Int) > 8000 then (some false) else (if (wrap64 ((((rd_T34 x0 x5).f2).size : Int) + (((rd_T34 x0 x5).f3).size : Int))) > 100 then (some false) else (if ((rd_T34 x0 x5).f0) = 6 then (if (((rd_T34 x0 x5).f4).length : Int) > 0 then (if 0 < (((rd_T34 x0 x5).f4).length : Int) then (if (rd ((rd_T34 x0 x5).f4) 0) > 1000 then (some false) else (if ((rd_T34 x0 x5).f0) = 3 then ((Zbf.f k ((rd_T34 x0 x5).f5)).bind fun t244 => (if t244 = true then (Zay.l0 k x0 (wrap64 (x5 + 1))) else (some false))) else (Zay.l0 k x0 (wrap64 (x5 + 1))))) else (none)) else (if ((rd_T34 x0 x5).f0) = 3 then ((Zbf.f k ((rd_T34 x0 x5).f5)).bind fun t245 => (if t245 = true then (Zay.l0 k x0 (wrap64 (x5 + 1))) else (some false))) else (Zay.l0 k x0 (wrap64 (x5 + 1))))) else (if ((rd_T34 x0 x5).f0) = 3 then ((Zbf.f k ((rd_T34 x0 x5).f5)).bind fun t246 => (if t246 = true then (Zay.l0 k x0 (wrap64 (x5 + 1))) else (some false))) else (Zay.l0 k x0 (wrap64 (x5 + 1)))))))) else (none)) else (some true)
def Zay.f (k : Nat) (l0 : List (S34)) (a1 : Int) : Option (Bool) := if (l0.length : Int) > a1 then (some false) else (Zay.l0 k l0 0)
theorem Zay.calls (k : Nat) (A0 : Option Addr) (c0 : Nat) (l0 : List (S34)) (a1 : Int) (r : Bool) (w : World) (hr0 : Kd.C k34 w A0 l0.length l0) (hc0 : l0.length ≤ c0) (h : Zay.f k l0 a1 = some r) :
  Calls Tryz.prog 17 #[.slice A0 l0.length c0, .int .i64 a1] w fun e w' => e = .returned (.bool r) ∧ Below w.heap.size w w' := by
 have hu34 := Tryz.underlying34
 have HR0 := am hr0
 have HC0 := am hc0
 clear hr0 hc0
 have HB := am (Below.refl w.heap.size w)
 have H : (if (l0.length : Int) > a1 then (some false) else (Zay.l0 k l0 0)) = some r := h
 clear h
 by_cases c3 : (l0.length : Int) > a1
 ·rw [if_pos c3] at H
  have c3b0 : decide (a1 < (l0.length : Int)) = true := de c3
  clear c3
  obtain rfl := Option.some.inj H
  go_enter Tryz.func17, Tryz.ntmps17
  go_wp2
  go_ret
  exact ⟨by rfl, vb HB.out⟩
 rw [if_neg c3] at H
 have c3b0 : decide (a1 < (l0.length : Int)) = false := df c3
 clear c3
 have H' := am H
 clear H
 go_enter Tryz.func17, Tryz.ntmps17
 go_wp2
 go_loopg [5] k (fun kq v5 w' => ∃ (x5_1 : Int), v5 = .int .i64 x5_1 ∧ Aside0 (Zay.l0 kq l0 x5_1 = some r) ∧ Aside0 (kq ≤ k) ∧ Aside0 (Below w.heap.size w w'))
 case atStart => exact ⟨(0), (by first | rfl | (simp; done) | simp [*]), H', ⟨Nat.le_refl _⟩, ⟨vb HB.out⟩⟩
 case round =>
  clear H'
  (try clear c1); (try clear p2); (try clear c3); (try clear c3b0)
  obtain ⟨x5_1, rfl, HA, HK1, HB⟩ := hrel
  cases gk with
  | zero => exact absurd HA.out (by simp [Zay.l0])
  | succ k1 =>
   have H := HA.out
   clear HA
   simp only [Zay.l0] at H
   by_cases c4 : x5_1 < (l0.length : Int)
   rotate_left
   ·rw [if_neg c4] at H
    have c4b0 : decide (x5_1 < (l0.length : Int)) = false := df c4
    clear c4
    obtain rfl := Option.some.inj H
    go_wp2
    go_ret
    exact ⟨by rfl, vb HB.out⟩
   rw [if_pos c4] at H
   have c4b0 : decide (x5_1 < (l0.length : Int)) = true := de c4
   clear c4
   by_cases c5 : 0 ≤ x5_1
   rotate_left
   ·rw [if_neg c5] at H
    exact absurd H (by simp)
   rw [if_pos c5] at H
   have c5b0 : decide (0 ≤ x5_1) = true := de c5
   clear c5
   by_cases c6 : (((rd_T34 l0 x5_1).f4).length : Int) > 200
   ·rw [if_pos c6] at H
    have c6b0 : decide (200 < (((rd_T34 l0 x5_1).f4).length : Int)) = true := de c6
    have c6b1 : decide (200 < ((rd_T34 l0 x5_1).f4).length) = true := decide_eq_true (by omega)
    clear c6
    obtain rfl := Option.some.inj H
    have p241 : 0 ≤ (x5_1 : Int) := od (by with_reducible assumption)
    have q241 : x5_1 < (l0.length : Int) := od (by with_reducible assumption)
    obtain ⟨ad241, A241_4, c241_4, e241, hx241_0, hx241_1, hx241_2, hx241_3, hx241_4, hx241_5, hl241_4, hi241_4⟩ := at_T34 HR0.out x5_1 p241 q241
    cases e241
    replace hx241_0 := cb HB.out hx241_0
    replace hx241_1 := cb HB.out hx241_1
    replace hx241_2 := cb HB.out hx241_2
    replace hx241_3 := cb HB.out hx241_3
    replace hx241_4 := cb HB.out hx241_4
    replace hx241_5 := cb HB.out hx241_5
    have HR241_4 := am hi241_4
    have HC241_4 := am hl241_4
    clear hi241_4 hl241_4
    replace p241 := eq_true p241
    replace q241 := eq_true q241
    go_wp2_with (first | ((with_reducible refine gate_dst (N := 6) rfl ?_); (try (refine gate_guard (by rfl) ?_; dsimp only)); refine box_event ?hg (N := 6) ?hd (cs := #[.int .i64 0, .int .i64 0, .string (⟨#[]⟩ : ByteArray), .string (⟨#[]⟩ : ByteArray), .slice none 0 0, .string (⟨#[]⟩ : ByteArray)]) (t := 34) ?hr ?_; (case hd => rfl); (case hg => rfl); (case hr => go_simp <;> rfl); intro gb242 hg w7 hbox hb; have BK242 := am hbox; have GW242 := gef hg HB.out; have GE242 := gef hg HB.out; replace HB := bs HB.out hb; clear hb hbox hg; obtain ⟨hcz8_0, hcz8_1, hcz8_2, hcz8_3, hcz8_4, hcz8_5, hfz8_0, hfz8_1, hfz8_2, hfz8_3, hfz8_4, hfz8_5⟩ := bk6 BK242.out))
    go_ret
    exact ⟨by rfl, vb HB.out⟩
   rw [if_neg c6] at H
   have c6b0 : decide (200 < (((rd_T34 l0 x5_1).f4).length : Int)) = false := df c6
   have c6b1 : decide (200 < ((rd_T34 l0 x5_1).f4).length) = false := decide_eq_false (by omega)
   clear c6
   by_cases c9 : (((rd_T34 l0 x5_1).f5).size : Int) > 8000
   ·rw [if_pos c9] at H
    have c9b0 : decide (8000 < (((rd_T34 l0 x5_1).f5).size : Int)) = true := de c9
    have c9b1 : decide (8000 < ((rd_T34 l0 x5_1).f5).size) = true := decide_eq_true (by omega)
    clear c9
    obtain rfl := Option.some.inj H
    have p241 : 0 ≤ (x5_1 : Int) := od (by with_reducible assumption)
    have q241 : x5_1 < (l0.length : Int) := od (by with_reducible assumption)
    obtain ⟨ad241, A241_4, c241_4, e241, hx241_0, hx241_1, hx241_2, hx241_3, hx241_4, hx241_5, hl241_4, hi241_4⟩ := at_T34 HR0.out x5_1 p241 q241
    cases e241
    replace hx241_0 := cb HB.out hx241_0
    replace hx241_1 := cb HB.out hx241_1
    replace hx241_2 := cb HB.out hx241_2
    replace hx241_3 := cb HB.out hx241_3
    replace hx241_4 := cb HB.out hx241_4
    replace hx241_5 := cb HB.out hx241_5
    have HR241_4 := am hi241_4
    have HC241_4 := am hl241_4
    clear hi241_4 hl241_4
    replace p241 := eq_true p241
    replace q241 := eq_true q241
    go_wp2_with (first | ((with_reducible refine gate_dst (N := 6) rfl ?_); (try (refine gate_guard (by rfl) ?_; dsimp only)); refine box_event ?hg (N := 6) ?hd (cs := #[.int .i64 0, .int .i64 0, .string (⟨#[]⟩ : ByteArray), .string (⟨#[]⟩ : ByteArray), .slice none 0 0, .string (⟨#[]⟩ : ByteArray)]) (t := 34) ?hr ?_; (case hd => rfl); (case hg => rfl); (case hr => go_simp <;> rfl); intro gb242 hg w10 hbox hb; have BK242 := am hbox; have GW242 := gef hg HB.out; have GE242 := gef hg HB.out; replace HB := bs HB.out hb; clear hb hbox hg; obtain ⟨hcz11_0, hcz11_1, hcz11_2, hcz11_3, hcz11_4, hcz11_5, hfz11_0, hfz11_1, hfz11_2, hfz11_3, hfz11_4, hfz11_5⟩ := bk6 BK242.out))
    go_ret
    exact ⟨by rfl, vb HB.out⟩
   rw [if_neg c9] at H
   have c9b0 : decide (8000 < (((rd_T34 l0 x5_1).f5).size : Int)) = false := df c9
   have c9b1 : decide (8000 < ((rd_T34 l0 x5_1).f5).size) = false := decide_eq_false (by omega)
   clear c9
   by_cases c12 : (wrap64 ((((rd_T34 l0 x5_1).f2).size : Int) + (((rd_T34 l0 x5_1).f3).size : Int))) > 100
   ·rw [if_pos c12] at H
    have c12b0 : decide (100 < (wrap64 ((((rd_T34 l0 x5_1).f2).size : Int) + (((rd_T34 l0 x5_1).f3).size : Int)))) = true := de c12
    clear c12
    obtain rfl := Option.some.inj H
    have p241 : 0 ≤ (x5_1 : Int) := od (by with_reducible assumption)
    have q241 : x5_1 < (l0.length : Int) := od (by with_reducible assumption)
    obtain ⟨ad241, A241_4, c241_4, e241, hx241_0, hx241_1, hx241_2, hx241_3, hx241_4, hx241_5, hl241_4, hi241_4⟩ := at_T34 HR0.out x5_1 p241 q241
    cases e241
    replace hx241_0 := cb HB.out hx241_0
    replace hx241_1 := cb HB.out hx241_1
    replace hx241_2 := cb HB.out hx241_2
    replace hx241_3 := cb HB.out hx241_3
    replace hx241_4 := cb HB.out hx241_4
    replace hx241_5 := cb HB.out hx241_5
    have HR241_4 := am hi241_4
    have HC241_4 := am hl241_4
    clear hi241_4 hl241_4
    replace p241 := eq_true p241
    replace q241 := eq_true q241
    go_wp2_with (first | ((with_reducible refine gate_dst (N := 6) rfl ?_); (try (refine gate_guard (by rfl) ?_; dsimp only)); refine box_event ?hg (N := 6) ?hd (cs := #[.int .i64 0, .int .i64 0, .string (⟨#[]⟩ : ByteArray), .string (⟨#[]⟩ : ByteArray), .slice none 0 0, .string (⟨#[]⟩ : ByteArray)]) (t := 34) ?hr ?_; (case hd => rfl); (case hg => rfl); (case hr => go_simp <;> rfl); intro gb242 hg w13 hbox hb; have BK242 := am hbox; have GW242 := gef hg HB.out; have GE242 := gef hg HB.out; replace HB := bs HB.out hb; clear hb hbox hg; obtain ⟨hcz14_0, hcz14_1, hcz14_2, hcz14_3, hcz14_4, hcz14_5, hfz14_0, hfz14_1, hfz14_2, hfz14_3, hfz14_4, hfz14_5⟩ := bk6 BK242.out))
    go_ret
    exact ⟨by rfl, vb HB.out⟩
   rw [if_neg c12] at H
   have c12b0 : decide (100 < (wrap64 ((((rd_T34 l0 x5_1).f2).size : Int) + (((rd_T34 l0 x5_1).f3).size : Int)))) = false := df c12
   clear c12
   by_cases c15 : ((rd_T34 l0 x5_1).f0) = 6
   rotate_left
   ·rw [if_neg c15] at H
    have c15b0 : (((rd_T34 l0 x5_1).f0) == 6) = false := beq_eq_false_iff_ne.mpr c15
    have c15b1 : (((rd_T34 l0 x5_1).f0) != 6) = true := bne_iff_ne.mpr c15
    by_cases c43 : ((rd_T34 l0 x5_1).f0) = 3
    rotate_left
    ·rw [if_neg c43] at H
     have c43b0 : (((rd_T34 l0 x5_1).f0) == 3) = false := beq_eq_false_iff_ne.mpr c43
     have c43b1 : (((rd_T34 l0 x5_1).f0) != 3) = true := bne_iff_ne.mpr c43
     have H' := am H
     clear H
     have p241 : 0 ≤ (x5_1 : Int) := od (by with_reducible assumption)
     have q241 : x5_1 < (l0.length : Int) := od (by with_reducible assumption)
     obtain ⟨ad241, A241_4, c241_4, e241, hx241_0, hx241_1, hx241_2, hx241_3, hx241_4, hx241_5, hl241_4, hi241_4⟩ := at_T34 HR0.out x5_1 p241 q241
     cases e241
     replace hx241_0 := cb HB.out hx241_0
     replace hx241_1 := cb HB.out hx241_1
     replace hx241_2 := cb HB.out hx241_2
     replace hx241_3 := cb HB.out hx241_3
     replace hx241_4 := cb HB.out hx241_4
     replace hx241_5 := cb HB.out hx241_5
     have HR241_4 := am hi241_4
     have HC241_4 := am hl241_4
     clear hi241_4 hl241_4
     replace p241 := eq_true p241
     replace q241 := eq_true q241
     go_wp2_with (first | ((with_reducible refine gate_dst (N := 6) rfl ?_); (try (refine gate_guard (by rfl) ?_; dsimp only)); refine box_event ?hg (N := 6) ?hd (cs := #[.int .i64 0, .int .i64 0, .string (⟨#[]⟩ : ByteArray), .string (⟨#[]⟩ : ByteArray), .slice none 0 0, .string (⟨#[]⟩ : ByteArray)]) (t := 34) ?hr ?_; (case hd => rfl); (case hg => rfl); (case hr => go_simp <;> rfl); intro gb242 hg w52 hbox hb; have BK242 := am hbox; have GW242 := gef hg HB.out; have GE242 := gef hg HB.out; replace HB := bs HB.out hb; clear hb hbox hg; obtain ⟨hcz53_0, hcz53_1, hcz53_2, hcz53_3, hcz53_4, hcz53_5, hfz53_0, hfz53_1, hfz53_2, hfz53_3, hfz53_4, hfz53_5⟩ := bk6 BK242.out))
     go_roundg k1
     case measure => have := HK1.out; omega
     case rel => exact ⟨(wrap64 (x5_1 + 1)), (by first | rfl | (simp; done) | simp [*]), H', ⟨by have := HK1.out; omega⟩, ⟨vb HB.out⟩⟩
    rw [if_pos c43] at H
    have c43b0 : (((rd_T34 l0 x5_1).f0) == 3) = true := beq_iff_eq.mpr c43
    have c43b1 : (((rd_T34 l0 x5_1).f0) != 3) = false := bne_eq_false_iff_eq.mpr c43
    clear c43
    replace H := be H
    obtain ⟨t246, A440, H⟩ := H
    try dsimp only at H
    have A44 := am A440
    clear A440
    by_cases c45 : t246 = true
    rotate_left
    ·replace c45 := Bool.eq_false_iff.mpr c45
     subst c45
     rw [if_neg (show ¬ (false = true) by decide)] at H
     obtain rfl := Option.some.inj H
     have p241 : 0 ≤ (x5_1 : Int) := od (by with_reducible assumption)
     have q241 : x5_1 < (l0.length : Int) := od (by with_reducible assumption)
     obtain ⟨ad241, A241_4, c241_4, e241, hx241_0, hx241_1, hx241_2, hx241_3, hx241_4, hx241_5, hl241_4, hi241_4⟩ := at_T34 HR0.out x5_1 p241 q241
     cases e241
     replace hx241_0 := cb HB.out hx241_0
     replace hx241_1 := cb HB.out hx241_1
     replace hx241_2 := cb HB.out hx241_2
     replace hx241_3 := cb HB.out hx241_3
     replace hx241_4 := cb HB.out hx241_4
     replace hx241_5 := cb HB.out hx241_5
     have HR241_4 := am hi241_4
     have HC241_4 := am hl241_4
     clear hi241_4 hl241_4
     replace p241 := eq_true p241
     replace q241 := eq_true q241
     go_wp2_with (first | ((with_reducible refine gate_dst (N := 6) rfl ?_); (try (refine gate_guard (by rfl) ?_; dsimp only)); refine box_event ?hg (N := 6) ?hd (cs := #[.int .i64 0, .int .i64 0, .string (⟨#[]⟩ : ByteArray), .string (⟨#[]⟩ : ByteArray), .slice none 0 0, .string (⟨#[]⟩ : ByteArray)]) (t := 34) ?hr ?_; (case hd => rfl); (case hg => rfl); (case hr => go_simp <;> rfl); intro gb242 hg w49 hbox hb; have BK242 := am hbox; have GW242 := gef hg HB.out; have GE242 := gef hg HB.out; replace HB := bs HB.out hb; clear hb hbox hg; obtain ⟨hcz50_0, hcz50_1, hcz50_2, hcz50_3, hcz50_4, hcz50_5, hfz50_0, hfz50_1, hfz50_2, hfz50_3, hfz50_4, hfz50_5⟩ := bk6 BK242.out) | (go_at_call 40; (with_reducible refine (Zbf.calls k1 ((rd_T34 l0 x5_1).f5) false _ A44.out).mono ?_); rintro e w51 ⟨rfl, hb⟩; replace BK242 := am (blk_below (g := gb242) (o := .cells #[.int .i64 ((rd_T34 l0 x5_1).f0), .int .i64 ((rd_T34 l0 x5_1).f1), .string ((rd_T34 l0 x5_1).f2), .string ((rd_T34 l0 x5_1).f3), .slice A241_4 ((rd_T34 l0 x5_1).f4).length c241_4, .string ((rd_T34 l0 x5_1).f5)] 34 (0, 0)) (by exact (vt (bp (vt (bp (vt (bp (vt (bp (vt (bp (vt (bp (vt BK242.out) 0)) 1)) 2)) 3)) 4)) 5)).trans rfl) hb); replace HB := bs HB.out hb; (try clear hb)))
     go_ret
     exact ⟨by rfl, vb HB.out⟩
    subst c45
    rw [if_pos rfl] at H
    have H' := am H
    clear H
    have p241 : 0 ≤ (x5_1 : Int) := od (by with_reducible assumption)
    have q241 : x5_1 < (l0.length : Int) := od (by with_reducible assumption)
    obtain ⟨ad241, A241_4, c241_4, e241, hx241_0, hx241_1, hx241_2, hx241_3, hx241_4, hx241_5, hl241_4, hi241_4⟩ := at_T34 HR0.out x5_1 p241 q241
    cases e241
    replace hx241_0 := cb HB.out hx241_0
    replace hx241_1 := cb HB.out hx241_1
    replace hx241_2 := cb HB.out hx241_2
    replace hx241_3 := cb HB.out hx241_3
    replace hx241_4 := cb HB.out hx241_4
    replace hx241_5 := cb HB.out hx241_5
    have HR241_4 := am hi241_4
    have HC241_4 := am hl241_4
    clear hi241_4 hl241_4
    replace p241 := eq_true p241
    replace q241 := eq_true q241
    go_wp2_with (first | ((with_reducible refine gate_dst (N := 6) rfl ?_); (try (refine gate_guard (by rfl) ?_; dsimp only)); refine box_event ?hg (N := 6) ?hd (cs := #[.int .i64 0, .int .i64 0, .string (⟨#[]⟩ : ByteArray), .string (⟨#[]⟩ : ByteArray), .slice none 0 0, .string (⟨#[]⟩ : ByteArray)]) (t := 34) ?hr ?_; (case hd => rfl); (case hg => rfl); (case hr => go_simp <;> rfl); intro gb242 hg w46 hbox hb; have BK242 := am hbox; have GW242 := gef hg HB.out; have GE242 := gef hg HB.out; replace HB := bs HB.out hb; clear hb hbox hg; obtain ⟨hcz47_0, hcz47_1, hcz47_2, hcz47_3, hcz47_4, hcz47_5, hfz47_0, hfz47_1, hfz47_2, hfz47_3, hfz47_4, hfz47_5⟩ := bk6 BK242.out) | (go_at_call 40; (with_reducible refine (Zbf.calls k1 ((rd_T34 l0 x5_1).f5) true _ A44.out).mono ?_); rintro e w48 ⟨rfl, hb⟩; replace BK242 := am (blk_below (g := gb242) (o := .cells #[.int .i64 ((rd_T34 l0 x5_1).f0), .int .i64 ((rd_T34 l0 x5_1).f1), .string ((rd_T34 l0 x5_1).f2), .string ((rd_T34 l0 x5_1).f3), .slice A241_4 ((rd_T34 l0 x5_1).f4).length c241_4, .string ((rd_T34 l0 x5_1).f5)] 34 (0, 0)) (by exact (vt (bp (vt (bp (vt (bp (vt (bp (vt (bp (vt (bp (vt BK242.out) 0)) 1)) 2)) 3)) 4)) 5)).trans rfl) hb); replace HB := bs HB.out hb; (try clear hb)))
    go_roundg k1
    case measure => have := HK1.out; omega
    case rel => exact ⟨(wrap64 (x5_1 + 1)), (by first | rfl | (simp; done) | simp [*]), H', ⟨by have := HK1.out; omega⟩, ⟨vb HB.out⟩⟩
   rw [if_pos c15] at H
   have c15b0 : (((rd_T34 l0 x5_1).f0) == 6) = true := beq_iff_eq.mpr c15
   have c15b1 : (((rd_T34 l0 x5_1).f0) != 6) = false := bne_eq_false_iff_eq.mpr c15
   clear c15
   by_cases c16 : (((rd_T34 l0 x5_1).f4).length : Int) > 0
   rotate_left
   ·rw [if_neg c16] at H
    have c16b0 : decide (0 < (((rd_T34 l0 x5_1).f4).length : Int)) = false := df c16
    have c16b1 : decide (0 < ((rd_T34 l0 x5_1).f4).length) = false := decide_eq_false (by omega)
    clear c16
    by_cases c32 : ((rd_T34 l0 x5_1).f0) = 3
    rotate_left
    ·rw [if_neg c32] at H
     have c32b0 : (((rd_T34 l0 x5_1).f0) == 3) = false := beq_eq_false_iff_ne.mpr c32
     have c32b1 : (((rd_T34 l0 x5_1).f0) != 3) = true := bne_iff_ne.mpr c32
     have H' := am H
     clear H
     have p241 : 0 ≤ (x5_1 : Int) := od (by with_reducible assumption)
     have q241 : x5_1 < (l0.length : Int) := od (by with_reducible assumption)
     obtain ⟨ad241, A241_4, c241_4, e241, hx241_0, hx241_1, hx241_2, hx241_3, hx241_4, hx241_5, hl241_4, hi241_4⟩ := at_T34 HR0.out x5_1 p241 q241
     cases e241
     replace hx241_0 := cb HB.out hx241_0
     replace hx241_1 := cb HB.out hx241_1
     replace hx241_2 := cb HB.out hx241_2
     replace hx241_3 := cb HB.out hx241_3
     replace hx241_4 := cb HB.out hx241_4
     replace hx241_5 := cb HB.out hx241_5
     have HR241_4 := am hi241_4
     have HC241_4 := am hl241_4
     clear hi241_4 hl241_4
     replace p241 := eq_true p241
     replace q241 := eq_true q241
     go_wp2_with (first | ((with_reducible refine gate_dst (N := 6) rfl ?_); (try (refine gate_guard (by rfl) ?_; dsimp only)); refine box_event ?hg (N := 6) ?hd (cs := #[.int .i64 0, .int .i64 0, .string (⟨#[]⟩ : ByteArray), .string (⟨#[]⟩ : ByteArray), .slice none 0 0, .string (⟨#[]⟩ : ByteArray)]) (t := 34) ?hr ?_; (case hd => rfl); (case hg => rfl); (case hr => go_simp <;> rfl); intro gb242 hg w41 hbox hb; have BK242 := am hbox; have GW242 := gef hg HB.out; have GE242 := gef hg HB.out; replace HB := bs HB.out hb; clear hb hbox hg; obtain ⟨hcz42_0, hcz42_1, hcz42_2, hcz42_3, hcz42_4, hcz42_5, hfz42_0, hfz42_1, hfz42_2, hfz42_3, hfz42_4, hfz42_5⟩ := bk6 BK242.out))
     go_roundg k1
     case measure => have := HK1.out; omega
     case rel => exact ⟨(wrap64 (x5_1 + 1)), (by first | rfl | (simp; done) | simp [*]), H', ⟨by have := HK1.out; omega⟩, ⟨vb HB.out⟩⟩
    rw [if_pos c32] at H
    have c32b0 : (((rd_T34 l0 x5_1).f0) == 3) = true := beq_iff_eq.mpr c32
    have c32b1 : (((rd_T34 l0 x5_1).f0) != 3) = false := bne_eq_false_iff_eq.mpr c32
    clear c32
    replace H := be H
    obtain ⟨t245, A330, H⟩ := H
    try dsimp only at H
    have A33 := am A330
    clear A330
    by_cases c34 : t245 = true
    rotate_left
    ·replace c34 := Bool.eq_false_iff.mpr c34
     subst c34
     rw [if_neg (show ¬ (false = true) by decide)] at H
     obtain rfl := Option.some.inj H
     have p241 : 0 ≤ (x5_1 : Int) := od (by with_reducible assumption)
     have q241 : x5_1 < (l0.length : Int) := od (by with_reducible assumption)
     obtain ⟨ad241, A241_4, c241_4, e241, hx241_0, hx241_1, hx241_2, hx241_3, hx241_4, hx241_5, hl241_4, hi241_4⟩ := at_T34 HR0.out x5_1 p241 q241
     cases e241
     replace hx241_0 := cb HB.out hx241_0
     replace hx241_1 := cb HB.out hx241_1
     replace hx241_2 := cb HB.out hx241_2
     replace hx241_3 := cb HB.out hx241_3
     replace hx241_4 := cb HB.out hx241_4
     replace hx241_5 := cb HB.out hx241_5
     have HR241_4 := am hi241_4
     have HC241_4 := am hl241_4
     clear hi241_4 hl241_4
     replace p241 := eq_true p241
     replace q241 := eq_true q241
     go_wp2_with (first | ((with_reducible refine gate_dst (N := 6) rfl ?_); (try (refine gate_guard (by rfl) ?_; dsimp only)); refine box_event ?hg (N := 6) ?hd (cs := #[.int .i64 0, .int .i64 0, .string (⟨#[]⟩ : ByteArray), .string (⟨#[]⟩ : ByteArray), .slice none 0 0, .string (⟨#[]⟩ : ByteArray)]) (t := 34) ?hr ?_; (case hd => rfl); (case hg => rfl); (case hr => go_simp <;> rfl); intro gb242 hg w38 hbox hb; have BK242 := am hbox; have GW242 := gef hg HB.out; have GE242 := gef hg HB.out; replace HB := bs HB.out hb; clear hb hbox hg; obtain ⟨hcz39_0, hcz39_1, hcz39_2, hcz39_3, hcz39_4, hcz39_5, hfz39_0, hfz39_1, hfz39_2, hfz39_3, hfz39_4, hfz39_5⟩ := bk6 BK242.out) | (go_at_call 40; (with_reducible refine (Zbf.calls k1 ((rd_T34 l0 x5_1).f5) false _ A33.out).mono ?_); rintro e w40 ⟨rfl, hb⟩; replace BK242 := am (blk_below (g := gb242) (o := .cells #[.int .i64 ((rd_T34 l0 x5_1).f0), .int .i64 ((rd_T34 l0 x5_1).f1), .string ((rd_T34 l0 x5_1).f2), .string ((rd_T34 l0 x5_1).f3), .slice A241_4 ((rd_T34 l0 x5_1).f4).length c241_4, .string ((rd_T34 l0 x5_1).f5)] 34 (0, 0)) (by exact (vt (bp (vt (bp (vt (bp (vt (bp (vt (bp (vt (bp (vt BK242.out) 0)) 1)) 2)) 3)) 4)) 5)).trans rfl) hb); replace HB := bs HB.out hb; (try clear hb)))
     go_ret
     exact ⟨by rfl, vb HB.out⟩
    subst c34
    rw [if_pos rfl] at H
    have H' := am H
    clear H
    have p241 : 0 ≤ (x5_1 : Int) := od (by with_reducible assumption)
    have q241 : x5_1 < (l0.length : Int) := od (by with_reducible assumption)
    obtain ⟨ad241, A241_4, c241_4, e241, hx241_0, hx241_1, hx241_2, hx241_3, hx241_4, hx241_5, hl241_4, hi241_4⟩ := at_T34 HR0.out x5_1 p241 q241
    cases e241
    replace hx241_0 := cb HB.out hx241_0
    replace hx241_1 := cb HB.out hx241_1
    replace hx241_2 := cb HB.out hx241_2
    replace hx241_3 := cb HB.out hx241_3
    replace hx241_4 := cb HB.out hx241_4
    replace hx241_5 := cb HB.out hx241_5
    have HR241_4 := am hi241_4
    have HC241_4 := am hl241_4
    clear hi241_4 hl241_4
    replace p241 := eq_true p241
    replace q241 := eq_true q241
    go_wp2_with (first | ((with_reducible refine gate_dst (N := 6) rfl ?_); (try (refine gate_guard (by rfl) ?_; dsimp only)); refine box_event ?hg (N := 6) ?hd (cs := #[.int .i64 0, .int .i64 0, .string (⟨#[]⟩ : ByteArray), .string (⟨#[]⟩ : ByteArray), .slice none 0 0, .string (⟨#[]⟩ : ByteArray)]) (t := 34) ?hr ?_; (case hd => rfl); (case hg => rfl); (case hr => go_simp <;> rfl); intro gb242 hg w35 hbox hb; have BK242 := am hbox; have GW242 := gef hg HB.out; have GE242 := gef hg HB.out; replace HB := bs HB.out hb; clear hb hbox hg; obtain ⟨hcz36_0, hcz36_1, hcz36_2, hcz36_3, hcz36_4, hcz36_5, hfz36_0, hfz36_1, hfz36_2, hfz36_3, hfz36_4, hfz36_5⟩ := bk6 BK242.out) | (go_at_call 40; (with_reducible refine (Zbf.calls k1 ((rd_T34 l0 x5_1).f5) true _ A33.out).mono ?_); rintro e w37 ⟨rfl, hb⟩; replace BK242 := am (blk_below (g := gb242) (o := .cells #[.int .i64 ((rd_T34 l0 x5_1).f0), .int .i64 ((rd_T34 l0 x5_1).f1), .string ((rd_T34 l0 x5_1).f2), .string ((rd_T34 l0 x5_1).f3), .slice A241_4 ((rd_T34 l0 x5_1).f4).length c241_4, .string ((rd_T34 l0 x5_1).f5)] 34 (0, 0)) (by exact (vt (bp (vt (bp (vt (bp (vt (bp (vt (bp (vt (bp (vt BK242.out) 0)) 1)) 2)) 3)) 4)) 5)).trans rfl) hb); replace HB := bs HB.out hb; (try clear hb)))
    go_roundg k1
    case measure => have := HK1.out; omega
    case rel => exact ⟨(wrap64 (x5_1 + 1)), (by first | rfl | (simp; done) | simp [*]), H', ⟨by have := HK1.out; omega⟩, ⟨vb HB.out⟩⟩
   rw [if_pos c16] at H
   have c16b0 : decide (0 < (((rd_T34 l0 x5_1).f4).length : Int)) = true := de c16
   have c16b1 : decide (0 < ((rd_T34 l0 x5_1).f4).length) = true := decide_eq_true (by omega)
   clear c16
   by_cases c17 : 0 < (((rd_T34 l0 x5_1).f4).length : Int)
   rotate_left
   ·rw [if_neg c17] at H
    exact absurd H (by simp)
   rw [if_pos c17] at H
   have c17b0 : decide (0 < (((rd_T34 l0 x5_1).f4).length : Int)) = true := de c17
   have c17b1 : decide (0 < ((rd_T34 l0 x5_1).f4).length) = true := decide_eq_true (by omega)
   clear c17
   by_cases c18 : (rd ((rd_T34 l0 x5_1).f4) 0) > 1000
   ·rw [if_pos c18] at H
    have c18b0 : decide (1000 < (rd ((rd_T34 l0 x5_1).f4) 0)) = true := de c18
    clear c18
    obtain rfl := Option.some.inj H
    have p241 : 0 ≤ (x5_1 : Int) := od (by with_reducible assumption)
    have q241 : x5_1 < (l0.length : Int) := od (by with_reducible assumption)
    obtain ⟨ad241, A241_4, c241_4, e241, hx241_0, hx241_1, hx241_2, hx241_3, hx241_4, hx241_5, hl241_4, hi241_4⟩ := at_T34 HR0.out x5_1 p241 q241
    cases e241
    replace hx241_0 := cb HB.out hx241_0
    replace hx241_1 := cb HB.out hx241_1
    replace hx241_2 := cb HB.out hx241_2
    replace hx241_3 := cb HB.out hx241_3
    replace hx241_4 := cb HB.out hx241_4
    replace hx241_5 := cb HB.out hx241_5
    have HR241_4 := am hi241_4
    have HC241_4 := am hl241_4
    clear hi241_4 hl241_4
    replace p241 := eq_true p241
    replace q241 := eq_true q241
    go_wp2_with (first | ((with_reducible refine gate_dst (N := 6) rfl ?_); (try (refine gate_guard (by rfl) ?_; dsimp only)); refine box_event ?hg (N := 6) ?hd (cs := #[.int .i64 0, .int .i64 0, .string (⟨#[]⟩ : ByteArray), .string (⟨#[]⟩ : ByteArray), .slice none 0 0, .string (⟨#[]⟩ : ByteArray)]) (t := 34) ?hr ?_; (case hd => rfl); (case hg => rfl); (case hr => go_simp <;> rfl); intro gb242 hg w19 hbox hb; have BK242 := am hbox; have GW242 := gef hg HB.out; have GE242 := gef hg HB.out; replace HB := bs HB.out hb; clear hb hbox hg; obtain ⟨hcz20_0, hcz20_1, hcz20_2, hcz20_3, hcz20_4, hcz20_5, hfz20_0, hfz20_1, hfz20_2, hfz20_3, hfz20_4, hfz20_5⟩ := bk6 BK242.out; have p243 : 0 ≤ (0 : Int) := (by omega); have q243 : 0 < (((rd_T34 l0 x5_1).f4).length : Int) := od (by with_reducible assumption); obtain ⟨ad243, e243, hx243_0⟩ := Kd.at_int HR241_4.out 0 p243 q243; cases e243; have qi243 : (0 < ((rd_T34 l0 x5_1).f4).length) = True := eq_true (by omega); (try rw [show ((0 : Int)).toNat = 0 from rfl] at hx243_0); (try rw [Addr.add_zero'] at hx243_0); have hn243_0 : ad243.block ≠ gb242 := Nat.ne_of_lt (Nat.lt_of_lt_of_le (by have := World.block_lt_of_cell? _ _ hx243_0; first | rwa [add_block] at this | exact this) GW242.out); have hn243_1 : ad243.block ≠ gb242 := Nat.ne_of_lt (Nat.lt_of_lt_of_le (by have := World.block_lt_of_cell? _ _ hx243_0; first | rwa [add_block] at this | exact this) GW242.out); have hn243_2 : ad243.block ≠ gb242 := Nat.ne_of_lt (Nat.lt_of_lt_of_le (by have := World.block_lt_of_cell? _ _ hx243_0; first | rwa [add_block] at this | exact this) GW242.out); have hn243_3 : ad243.block ≠ gb242 := Nat.ne_of_lt (Nat.lt_of_lt_of_le (by have := World.block_lt_of_cell? _ _ hx243_0; first | rwa [add_block] at this | exact this) GW242.out); have hn243_4 : ad243.block ≠ gb242 := Nat.ne_of_lt (Nat.lt_of_lt_of_le (by have := World.block_lt_of_cell? _ _ hx243_0; first | rwa [add_block] at this | exact this) GW242.out); have hn243_5 : ad243.block ≠ gb242 := Nat.ne_of_lt (Nat.lt_of_lt_of_le (by have := World.block_lt_of_cell? _ _ hx243_0; first | rwa [add_block] at this | exact this) GW242.out); replace hx243_0 := cb HB.out hx243_0; replace hx243_0 := (cell_far (p := ⟨gb242, 0, none⟩) (by first | (rw [add_block]; exact hn243_0) | (show (Addr.add _ _).block ≠ _; rw [add_block]; exact hn243_0) | exact hn243_0) (.int .i64 ((rd_T34 l0 x5_1).f0))).trans hx243_0; replace hx243_0 := (cell_far (p := ⟨gb242, 1, none⟩) (by first | (rw [add_block]; exact hn243_1) | (show (Addr.add _ _).block ≠ _; rw [add_block]; exact hn243_1) | exact hn243_1) (.int .i64 ((rd_T34 l0 x5_1).f1))).trans hx243_0; replace hx243_0 := (cell_far (p := ⟨gb242, 2, none⟩) (by first | (rw [add_block]; exact hn243_2) | (show (Addr.add _ _).block ≠ _; rw [add_block]; exact hn243_2) | exact hn243_2) (.string ((rd_T34 l0 x5_1).f2))).trans hx243_0; replace hx243_0 := (cell_far (p := ⟨gb242, 3, none⟩) (by first | (rw [add_block]; exact hn243_3) | (show (Addr.add _ _).block ≠ _; rw [add_block]; exact hn243_3) | exact hn243_3) (.string ((rd_T34 l0 x5_1).f3))).trans hx243_0; replace hx243_0 := (cell_far (p := ⟨gb242, 4, none⟩) (by first | (rw [add_block]; exact hn243_4) | (show (Addr.add _ _).block ≠ _; rw [add_block]; exact hn243_4) | exact hn243_4) (.slice (some ad243) ((rd_T34 l0 x5_1).f4).length c241_4)).trans hx243_0; replace hx243_0 := (cell_far (p := ⟨gb242, 5, none⟩) (by first | (rw [add_block]; exact hn243_5) | (show (Addr.add _ _).block ≠ _; rw [add_block]; exact hn243_5) | exact hn243_5) (.string ((rd_T34 l0 x5_1).f5))).trans hx243_0; clear hn243_0; clear hn243_1; clear hn243_2; clear hn243_3; clear hn243_4; clear hn243_5; replace p243 := eq_true p243; replace q243 := eq_true q243))
    go_ret
    exact ⟨by rfl, vb HB.out⟩
   rw [if_neg c18] at H
   have c18b0 : decide (1000 < (rd ((rd_T34 l0 x5_1).f4) 0)) = false := df c18
   clear c18
   by_cases c21 : ((rd_T34 l0 x5_1).f0) = 3
   rotate_left
   ·rw [if_neg c21] at H
    have c21b0 : (((rd_T34 l0 x5_1).f0) == 3) = false := beq_eq_false_iff_ne.mpr c21
    have c21b1 : (((rd_T34 l0 x5_1).f0) != 3) = true := bne_iff_ne.mpr c21
    have H' := am H
    clear H
    have p241 : 0 ≤ (x5_1 : Int) := od (by with_reducible assumption)
    have q241 : x5_1 < (l0.length : Int) := od (by with_reducible assumption)
    obtain ⟨ad241, A241_4, c241_4, e241, hx241_0, hx241_1, hx241_2, hx241_3, hx241_4, hx241_5, hl241_4, hi241_4⟩ := at_T34 HR0.out x5_1 p241 q241
    cases e241
    replace hx241_0 := cb HB.out hx241_0
    replace hx241_1 := cb HB.out hx241_1
    replace hx241_2 := cb HB.out hx241_2
    replace hx241_3 := cb HB.out hx241_3
    replace hx241_4 := cb HB.out hx241_4
    replace hx241_5 := cb HB.out hx241_5
    have HR241_4 := am hi241_4
    have HC241_4 := am hl241_4
    clear hi241_4 hl241_4
    replace p241 := eq_true p241
    replace q241 := eq_true q241
    go_wp2_with (first | ((with_reducible refine gate_dst (N := 6) rfl ?_); (try (refine gate_guard (by rfl) ?_; dsimp only)); refine box_event ?hg (N := 6) ?hd (cs := #[.int .i64 0, .int .i64 0, .string (⟨#[]⟩ : ByteArray), .string (⟨#[]⟩ : ByteArray), .slice none 0 0, .string (⟨#[]⟩ : ByteArray)]) (t := 34) ?hr ?_; (case hd => rfl); (case hg => rfl); (case hr => go_simp <;> rfl); intro gb242 hg w30 hbox hb; have BK242 := am hbox; have GW242 := gef hg HB.out; have GE242 := gef hg HB.out; replace HB := bs HB.out hb; clear hb hbox hg; obtain ⟨hcz31_0, hcz31_1, hcz31_2, hcz31_3, hcz31_4, hcz31_5, hfz31_0, hfz31_1, hfz31_2, hfz31_3, hfz31_4, hfz31_5⟩ := bk6 BK242.out; have p243 : 0 ≤ (0 : Int) := (by omega); have q243 : 0 < (((rd_T34 l0 x5_1).f4).length : Int) := od (by with_reducible assumption); obtain ⟨ad243, e243, hx243_0⟩ := Kd.at_int HR241_4.out 0 p243 q243; cases e243; have qi243 : (0 < ((rd_T34 l0 x5_1).f4).length) = True := eq_true (by omega); (try rw [show ((0 : Int)).toNat = 0 from rfl] at hx243_0); (try rw [Addr.add_zero'] at hx243_0); have hn243_0 : ad243.block ≠ gb242 := Nat.ne_of_lt (Nat.lt_of_lt_of_le (by have := World.block_lt_of_cell? _ _ hx243_0; first | rwa [add_block] at this | exact this) GW242.out); have hn243_1 : ad243.block ≠ gb242 := Nat.ne_of_lt (Nat.lt_of_lt_of_le (by have := World.block_lt_of_cell? _ _ hx243_0; first | rwa [add_block] at this | exact this) GW242.out); have hn243_2 : ad243.block ≠ gb242 := Nat.ne_of_lt (Nat.lt_of_lt_of_le (by have := World.block_lt_of_cell? _ _ hx243_0; first | rwa [add_block] at this | exact this) GW242.out); have hn243_3 : ad243.block ≠ gb242 := Nat.ne_of_lt (Nat.lt_of_lt_of_le (by have := World.block_lt_of_cell? _ _ hx243_0; first | rwa [add_block] at this | exact this) GW242.out); have hn243_4 : ad243.block ≠ gb242 := Nat.ne_of_lt (Nat.lt_of_lt_of_le (by have := World.block_lt_of_cell? _ _ hx243_0; first | rwa [add_block] at this | exact this) GW242.out); have hn243_5 : ad243.block ≠ gb242 := Nat.ne_of_lt (Nat.lt_of_lt_of_le (by have := World.block_lt_of_cell? _ _ hx243_0; first | rwa [add_block] at this | exact this) GW242.out); replace hx243_0 := cb HB.out hx243_0; replace hx243_0 := (cell_far (p := ⟨gb242, 0, none⟩) (by first | (rw [add_block]; exact hn243_0) | (show (Addr.add _ _).block ≠ _; rw [add_block]; exact hn243_0) | exact hn243_0) (.int .i64 ((rd_T34 l0 x5_1).f0))).trans hx243_0; replace hx243_0 := (cell_far (p := ⟨gb242, 1, none⟩) (by first | (rw [add_block]; exact hn243_1) | (show (Addr.add _ _).block ≠ _; rw [add_block]; exact hn243_1) | exact hn243_1) (.int .i64 ((rd_T34 l0 x5_1).f1))).trans hx243_0; replace hx243_0 := (cell_far (p := ⟨gb242, 2, none⟩) (by first | (rw [add_block]; exact hn243_2) | (show (Addr.add _ _).block ≠ _; rw [add_block]; exact hn243_2) | exact hn243_2) (.string ((rd_T34 l0 x5_1).f2))).trans hx243_0; replace hx243_0 := (cell_far (p := ⟨gb242, 3, none⟩) (by first | (rw [add_block]; exact hn243_3) | (show (Addr.add _ _).block ≠ _; rw [add_block]; exact hn243_3) | exact hn243_3) (.string ((rd_T34 l0 x5_1).f3))).trans hx243_0; replace hx243_0 := (cell_far (p := ⟨gb242, 4, none⟩) (by first | (rw [add_block]; exact hn243_4) | (show (Addr.add _ _).block ≠ _; rw [add_block]; exact hn243_4) | exact hn243_4) (.slice (some ad243) ((rd_T34 l0 x5_1).f4).length c241_4)).trans hx243_0; replace hx243_0 := (cell_far (p := ⟨gb242, 5, none⟩) (by first | (rw [add_block]; exact hn243_5) | (show (Addr.add _ _).block ≠ _; rw [add_block]; exact hn243_5) | exact hn243_5) (.string ((rd_T34 l0 x5_1).f5))).trans hx243_0; clear hn243_0; clear hn243_1; clear hn243_2; clear hn243_3; clear hn243_4; clear hn243_5; replace p243 := eq_true p243; replace q243 := eq_true q243))
    go_roundg k1
    case measure => have := HK1.out; omega
    case rel => exact ⟨(wrap64 (x5_1 + 1)), (by first | rfl | (simp; done) | simp [*]), H', ⟨by have := HK1.out; omega⟩, ⟨vb HB.out⟩⟩
   rw [if_pos c21] at H
   have c21b0 : (((rd_T34 l0 x5_1).f0) == 3) = true := beq_iff_eq.mpr c21
   have c21b1 : (((rd_T34 l0 x5_1).f0) != 3) = false := bne_eq_false_iff_eq.mpr c21
   clear c21
   replace H := be H
   obtain ⟨t244, A220, H⟩ := H
   try dsimp only at H
   have A22 := am A220
   clear A220
   by_cases c23 : t244 = true
   rotate_left
   ·replace c23 := Bool.eq_false_iff.mpr c23
    subst c23
    rw [if_neg (show ¬ (false = true) by decide)] at H
    obtain rfl := Option.some.inj H
    have p241 : 0 ≤ (x5_1 : Int) := od (by with_reducible assumption)
    have q241 : x5_1 < (l0.length : Int) := od (by with_reducible assumption)
    obtain ⟨ad241, A241_4, c241_4, e241, hx241_0, hx241_1, hx241_2, hx241_3, hx241_4, hx241_5, hl241_4, hi241_4⟩ := at_T34 HR0.out x5_1 p241 q241
    cases e241
    replace hx241_0 := cb HB.out hx241_0
    replace hx241_1 := cb HB.out hx241_1
    replace hx241_2 := cb HB.out hx241_2
    replace hx241_3 := cb HB.out hx241_3
    replace hx241_4 := cb HB.out hx241_4
    replace hx241_5 := cb HB.out hx241_5
    have HR241_4 := am hi241_4
    have HC241_4 := am hl241_4
    clear hi241_4 hl241_4
    replace p241 := eq_true p241
    replace q241 := eq_true q241
    go_wp2_with (first | ((with_reducible refine gate_dst (N := 6) rfl ?_); (try (refine gate_guard (by rfl) ?_; dsimp only)); refine box_event ?hg (N := 6) ?hd (cs := #[.int .i64 0, .int .i64 0, .string (⟨#[]⟩ : ByteArray), .string (⟨#[]⟩ : ByteArray), .slice none 0 0, .string (⟨#[]⟩ : ByteArray)]) (t := 34) ?hr ?_; (case hd => rfl); (case hg => rfl); (case hr => go_simp <;> rfl); intro gb242 hg w27 hbox hb; have BK242 := am hbox; have GW242 := gef hg HB.out; have GE242 := gef hg HB.out; replace HB := bs HB.out hb; clear hb hbox hg; obtain ⟨hcz28_0, hcz28_1, hcz28_2, hcz28_3, hcz28_4, hcz28_5, hfz28_0, hfz28_1, hfz28_2, hfz28_3, hfz28_4, hfz28_5⟩ := bk6 BK242.out; have p243 : 0 ≤ (0 : Int) := (by omega); have q243 : 0 < (((rd_T34 l0 x5_1).f4).length : Int) := od (by with_reducible assumption); obtain ⟨ad243, e243, hx243_0⟩ := Kd.at_int HR241_4.out 0 p243 q243; cases e243; have qi243 : (0 < ((rd_T34 l0 x5_1).f4).length) = True := eq_true (by omega); (try rw [show ((0 : Int)).toNat = 0 from rfl] at hx243_0); (try rw [Addr.add_zero'] at hx243_0); have hn243_0 : ad243.block ≠ gb242 := Nat.ne_of_lt (Nat.lt_of_lt_of_le (by have := World.block_lt_of_cell? _ _ hx243_0; first | rwa [add_block] at this | exact this) GW242.out); have hn243_1 : ad243.block ≠ gb242 := Nat.ne_of_lt (Nat.lt_of_lt_of_le (by have := World.block_lt_of_cell? _ _ hx243_0; first | rwa [add_block] at this | exact this) GW242.out); have hn243_2 : ad243.block ≠ gb242 := Nat.ne_of_lt (Nat.lt_of_lt_of_le (by have := World.block_lt_of_cell? _ _ hx243_0; first | rwa [add_block] at this | exact this) GW242.out); have hn243_3 : ad243.block ≠ gb242 := Nat.ne_of_lt (Nat.lt_of_lt_of_le (by have := World.block_lt_of_cell? _ _ hx243_0; first | rwa [add_block] at this | exact this) GW242.out); have hn243_4 : ad243.block ≠ gb242 := Nat.ne_of_lt (Nat.lt_of_lt_of_le (by have := World.block_lt_of_cell? _ _ hx243_0; first | rwa [add_block] at this | exact this) GW242.out); have hn243_5 : ad243.block ≠ gb242 := Nat.ne_of_lt (Nat.lt_of_lt_of_le (by have := World.block_lt_of_cell? _ _ hx243_0; first | rwa [add_block] at this | exact this) GW242.out); replace hx243_0 := cb HB.out hx243_0; replace hx243_0 := (cell_far (p := ⟨gb242, 0, none⟩) (by first | (rw [add_block]; exact hn243_0) | (show (Addr.add _ _).block ≠ _; rw [add_block]; exact hn243_0) | exact hn243_0) (.int .i64 ((rd_T34 l0 x5_1).f0))).trans hx243_0; replace hx243_0 := (cell_far (p := ⟨gb242, 1, none⟩) (by first | (rw [add_block]; exact hn243_1) | (show (Addr.add _ _).block ≠ _; rw [add_block]; exact hn243_1) | exact hn243_1) (.int .i64 ((rd_T34 l0 x5_1).f1))).trans hx243_0; replace hx243_0 := (cell_far (p := ⟨gb242, 2, none⟩) (by first | (rw [add_block]; exact hn243_2) | (show (Addr.add _ _).block ≠ _; rw [add_block]; exact hn243_2) | exact hn243_2) (.string ((rd_T34 l0 x5_1).f2))).trans hx243_0; replace hx243_0 := (cell_far (p := ⟨gb242, 3, none⟩) (by first | (rw [add_block]; exact hn243_3) | (show (Addr.add _ _).block ≠ _; rw [add_block]; exact hn243_3) | exact hn243_3) (.string ((rd_T34 l0 x5_1).f3))).trans hx243_0; replace hx243_0 := (cell_far (p := ⟨gb242, 4, none⟩) (by first | (rw [add_block]; exact hn243_4) | (show (Addr.add _ _).block ≠ _; rw [add_block]; exact hn243_4) | exact hn243_4) (.slice (some ad243) ((rd_T34 l0 x5_1).f4).length c241_4)).trans hx243_0; replace hx243_0 := (cell_far (p := ⟨gb242, 5, none⟩) (by first | (rw [add_block]; exact hn243_5) | (show (Addr.add _ _).block ≠ _; rw [add_block]; exact hn243_5) | exact hn243_5) (.string ((rd_T34 l0 x5_1).f5))).trans hx243_0; clear hn243_0; clear hn243_1; clear hn243_2; clear hn243_3; clear hn243_4; clear hn243_5; replace p243 := eq_true p243; replace q243 := eq_true q243) | (go_at_call 40; (with_reducible refine (Zbf.calls k1 ((rd_T34 l0 x5_1).f5) false _ A22.out).mono ?_); rintro e w29 ⟨rfl, hb⟩; replace BK242 := am (blk_below (g := gb242) (o := .cells #[.int .i64 ((rd_T34 l0 x5_1).f0), .int .i64 ((rd_T34 l0 x5_1).f1), .string ((rd_T34 l0 x5_1).f2), .string ((rd_T34 l0 x5_1).f3), .slice (some ad243) ((rd_T34 l0 x5_1).f4).length c241_4, .string ((rd_T34 l0 x5_1).f5)] 34 (0, 0)) (by exact (vt (bp (vt (bp (vt (bp (vt (bp (vt (bp (vt (bp (vt BK242.out) 0)) 1)) 2)) 3)) 4)) 5)).trans rfl) hb); replace HB := bs HB.out hb; (try clear hb)))
    go_ret
    exact ⟨by rfl, vb HB.out⟩
   subst c23
   rw [if_pos rfl] at H
   have H' := am H
   clear H
   have p241 : 0 ≤ (x5_1 : Int) := od (by with_reducible assumption)
   have q241 : x5_1 < (l0.length : Int) := od (by with_reducible assumption)
   obtain ⟨ad241, A241_4, c241_4, e241, hx241_0, hx241_1, hx241_2, hx241_3, hx241_4, hx241_5, hl241_4, hi241_4⟩ := at_T34 HR0.out x5_1 p241 q241
   cases e241
   replace hx241_0 := cb HB.out hx241_0
   replace hx241_1 := cb HB.out hx241_1
   replace hx241_2 := cb HB.out hx241_2
   replace hx241_3 := cb HB.out hx241_3
   replace hx241_4 := cb HB.out hx241_4
   replace hx241_5 := cb HB.out hx241_5
   have HR241_4 := am hi241_4
   have HC241_4 := am hl241_4
   clear hi241_4 hl241_4
   replace p241 := eq_true p241
   replace q241 := eq_true q241
   go_wp2_with (first | ((with_reducible refine gate_dst (N := 6) rfl ?_); (try (refine gate_guard (by rfl) ?_; dsimp only)); refine box_event ?hg (N := 6) ?hd (cs := #[.int .i64 0, .int .i64 0, .string (⟨#[]⟩ : ByteArray), .string (⟨#[]⟩ : ByteArray), .slice none 0 0, .string (⟨#[]⟩ : ByteArray)]) (t := 34) ?hr ?_; (case hd => rfl); (case hg => rfl); (case hr => go_simp <;> rfl); intro gb242 hg w24 hbox hb; have BK242 := am hbox; have GW242 := gef hg HB.out; have GE242 := gef hg HB.out; replace HB := bs HB.out hb; clear hb hbox hg; obtain ⟨hcz25_0, hcz25_1, hcz25_2, hcz25_3, hcz25_4, hcz25_5, hfz25_0, hfz25_1, hfz25_2, hfz25_3, hfz25_4, hfz25_5⟩ := bk6 BK242.out; have p243 : 0 ≤ (0 : Int) := (by omega); have q243 : 0 < (((rd_T34 l0 x5_1).f4).length : Int) := od (by with_reducible assumption); obtain ⟨ad243, e243, hx243_0⟩ := Kd.at_int HR241_4.out 0 p243 q243; cases e243; have qi243 : (0 < ((rd_T34 l0 x5_1).f4).length) = True := eq_true (by omega); (try rw [show ((0 : Int)).toNat = 0 from rfl] at hx243_0); (try rw [Addr.add_zero'] at hx243_0); have hn243_0 : ad243.block ≠ gb242 := Nat.ne_of_lt (Nat.lt_of_lt_of_le (by have := World.block_lt_of_cell? _ _ hx243_0; first | rwa [add_block] at this | exact this) GW242.out); have hn243_1 : ad243.block ≠ gb242 := Nat.ne_of_lt (Nat.lt_of_lt_of_le (by have := World.block_lt_of_cell? _ _ hx243_0; first | rwa [add_block] at this | exact this) GW242.out); have hn243_2 : ad243.block ≠ gb242 := Nat.ne_of_lt (Nat.lt_of_lt_of_le (by have := World.block_lt_of_cell? _ _ hx243_0; first | rwa [add_block] at this | exact this) GW242.out); have hn243_3 : ad243.block ≠ gb242 := Nat.ne_of_lt (Nat.lt_of_lt_of_le (by have := World.block_lt_of_cell? _ _ hx243_0; first | rwa [add_block] at this | exact this) GW242.out); have hn243_4 : ad243.block ≠ gb242 := Nat.ne_of_lt (Nat.lt_of_lt_of_le (by have := World.block_lt_of_cell? _ _ hx243_0; first | rwa [add_block] at this | exact this) GW242.out); have hn243_5 : ad243.block ≠ gb242 := Nat.ne_of_lt (Nat.lt_of_lt_of_le (by have := World.block_lt_of_cell? _ _ hx243_0; first | rwa [add_block] at this | exact this) GW242.out); replace hx243_0 := cb HB.out hx243_0; replace hx243_0 := (cell_far (p := ⟨gb242, 0, none⟩) (by first | (rw [add_block]; exact hn243_0) | (show (Addr.add _ _).block ≠ _; rw [add_block]; exact hn243_0) | exact hn243_0) (.int .i64 ((rd_T34 l0 x5_1).f0))).trans hx243_0; replace hx243_0 := (cell_far (p := ⟨gb242, 1, none⟩) (by first | (rw [add_block]; exact hn243_1) | (show (Addr.add _ _).block ≠ _; rw [add_block]; exact hn243_1) | exact hn243_1) (.int .i64 ((rd_T34 l0 x5_1).f1))).trans hx243_0; replace hx243_0 := (cell_far (p := ⟨gb242, 2, none⟩) (by first | (rw [add_block]; exact hn243_2) | (show (Addr.add _ _).block ≠ _; rw [add_block]; exact hn243_2) | exact hn243_2) (.string ((rd_T34 l0 x5_1).f2))).trans hx243_0; replace hx243_0 := (cell_far (p := ⟨gb242, 3, none⟩) (by first | (rw [add_block]; exact hn243_3) | (show (Addr.add _ _).block ≠ _; rw [add_block]; exact hn243_3) | exact hn243_3) (.string ((rd_T34 l0 x5_1).f3))).trans hx243_0; replace hx243_0 := (cell_far (p := ⟨gb242, 4, none⟩) (by first | (rw [add_block]; exact hn243_4) | (show (Addr.add _ _).block ≠ _; rw [add_block]; exact hn243_4) | exact hn243_4) (.slice (some ad243) ((rd_T34 l0 x5_1).f4).length c241_4)).trans hx243_0; replace hx243_0 := (cell_far (p := ⟨gb242, 5, none⟩) (by first | (rw [add_block]; exact hn243_5) | (show (Addr.add _ _).block ≠ _; rw [add_block]; exact hn243_5) | exact hn243_5) (.string ((rd_T34 l0 x5_1).f5))).trans hx243_0; clear hn243_0; clear hn243_1; clear hn243_2; clear hn243_3; clear hn243_4; clear hn243_5; replace p243 := eq_true p243; replace q243 := eq_true q243) | (go_at_call 40; (with_reducible refine (Zbf.calls k1 ((rd_T34 l0 x5_1).f5) true _ A22.out).mono ?_); rintro e w26 ⟨rfl, hb⟩; replace BK242 := am (blk_below (g := gb242) (o := .cells #[.int .i64 ((rd_T34 l0 x5_1).f0), .int .i64 ((rd_T34 l0 x5_1).f1), .string ((rd_T34 l0 x5_1).f2), .string ((rd_T34 l0 x5_1).f3), .slice (some ad243) ((rd_T34 l0 x5_1).f4).length c241_4, .string ((rd_T34 l0 x5_1).f5)] 34 (0, 0)) (by exact (vt (bp (vt (bp (vt (bp (vt (bp (vt (bp (vt (bp (vt BK242.out) 0)) 1)) 2)) 3)) 4)) 5)).trans rfl) hb); replace HB := bs HB.out hb; (try clear hb)))
   go_roundg k1
   case measure => have := HK1.out; omega
   case rel => exact ⟨(wrap64 (x5_1 + 1)), (by first | rfl | (simp; done) | simp [*]), H', ⟨by have := HK1.out; omega⟩, ⟨vb HB.out⟩⟩
mutual
def Zba.j0 : Nat → List (S34) → Bool → Option (Bool)
 | 0, _, _ => none
 | k + 1, x0, x14 => if x14 = true then (some false) else (Zba.l0 k x0 0 0)
def Zba.l0 : Nat → List (S34) → Int → Int → Option (Bool)
 | 0, _, _, _ => none
 | k + 1, x0, x5, x6 => if x6 < (x0.length : Int) then (if 0 ≤ x6 then (Zba.l0 k x0 (wrap64 (x5 + (((rd_T34 x0 x6).f4).length : Int))) (wrap64 (x6 + 1))) else (none)) else (some (decide (x5 ≤ 400)))
end
def Zba.f (k : Nat) (l0 : List (S34)) (a1 : ByteArray) : Option (Bool) := (Zay.f k l0 40).bind fun t247 => (if t247 = true then (Zba.j0 k l0 (decide ((a1.size : Int) > 100))) else (Zba.j0 k l0 true))
theorem Zba.calls (k : Nat) (A0 : Option Addr) (c0 : Nat) (l0 : List (S34)) (a1 : ByteArray) (r : Bool) (w : World) (hr0 : Kd.C k34 w A0 l0.length l0) (hc0 : l0.length ≤ c0) (h : Zba.f k l0 a1 = some r) :
  Calls Tryz.prog 6 #[.slice A0 l0.length c0, .string a1] w fun e w' => e = .returned (.bool r) ∧ Below w.heap.size w w' := by
 have HR0 := am hr0
 have HC0 := am hc0
 clear hr0 hc0
 have HB := am (Below.refl w.heap.size w)
 have H : ((Zay.f k l0 40).bind fun t247 => (if t247 = true then (Zba.j0 k l0 (decide ((a1.size : Int) > 100))) else (Zba.j0 k l0 true))) = some r := h
 clear h
 have HC3 := am H
 clear H
 go_enter Tryz.func6, Tryz.ntmps6
 go_upto_region 1 with (fail)
 go_cut [14] (fun v14 wc => ∃ (kq : Nat) (x14_2 : Bool), v14 = .bool x14_2 ∧ Aside0 (Zba.j0 kq l0 x14_2 = some r) ∧ Aside0 (kq ≤ k) ∧ Aside0 (Below w.heap.size w wc))
 case first =>
  have H := HC3.out
  clear HC3
  replace H := be H
  obtain ⟨t247, A40, H⟩ := H
  try dsimp only at H
  have A4 := am A40
  clear A40
  by_cases c5 : t247 = true
  ·subst c5
   rw [if_pos rfl] at H
   have H' := am H
   clear H
   go_wp2_with (first | ((with_reducible refine gate_callee (f := 17) rfl ?_); refine goesL_ (some 8) rfl rfl Tryz.func17 (by kernel_rfl) rfl #[.slice A0 l0.length c0, .int .i64 40] rfl (by (try simp only [mT, mC, mN]); first | done | rfl) ?_; (with_reducible refine (Zay.calls k _ _ l0 40 true _ ?side1 ?side2 A4.out).mono ?_); (case side1 => exact vC (Kd.C_below HR0.out HB.out)); (case side2 => exact HC0.out); rintro e w6 ⟨rfl, hb⟩; refine ⟨_, rfl, ?_⟩; replace HB := bs HB.out hb; (try clear hb)))
   go_meet
   case rel => exact ⟨_, (decide ((a1.size : Int) > 100)), (by first | rfl | (simp; done) | simp [*]), H', ⟨by first | omega | exact Nat.le_refl _⟩, ⟨vb HB.out⟩⟩
  replace c5 := Bool.eq_false_iff.mpr c5
  subst c5
  rw [if_neg (show ¬ (false = true) by decide)] at H
  have H' := am H
  clear H
  go_wp2_with (first | ((with_reducible refine gate_callee (f := 17) rfl ?_); refine goesL_ (some 8) rfl rfl Tryz.func17 (by kernel_rfl) rfl #[.slice A0 l0.length c0, .int .i64 40] rfl (by (try simp only [mT, mC, mN]); first | done | rfl) ?_; (with_reducible refine (Zay.calls k _ _ l0 40 false _ ?side1 ?side2 A4.out).mono ?_); (case side1 => exact vC (Kd.C_below HR0.out HB.out)); (case side2 => exact HC0.out); rintro e w7 ⟨rfl, hb⟩; refine ⟨_, rfl, ?_⟩; replace HB := bs HB.out hb; (try clear hb)))
  go_meet
  case rel => exact ⟨_, (true), (by first | rfl | (simp; done) | simp [*]), H', ⟨by first | omega | exact Nat.le_refl _⟩, ⟨vb HB.out⟩⟩
 case rest =>
  clear HC3
  (try clear c1); (try clear p2); (try clear c5); (try clear c6)
  obtain ⟨kq, x14_2, rfl, HA, HJ2, HB⟩ := hcut
  cases kq with
  | zero => exact absurd HA.out (by simp [Zba.j0])
  | succ kj2 =>
   have H := HA.out
   clear HA
   simp only [Zba.j0] at H
   by_cases c8 : x14_2 = true
   ·subst c8
    rw [if_pos rfl] at H
    obtain rfl := Option.some.inj H
    go_wp2
    go_ret
    exact ⟨by rfl, vb HB.out⟩
   replace c8 := Bool.eq_false_iff.mpr c8
   subst c8
   rw [if_neg (show ¬ (false = true) by decide)] at H
   have H' := am H
   clear H
   go_wp2
   go_loopg [5, 6] kj2 (fun kq v5 v6 w' => ∃ (x5_2 : Int) (x6_2 : Int), v5 = .int .i64 x5_2 ∧ v6 = .int .i64 x6_2 ∧ Aside0 (Zba.l0 kq l0 x5_2 x6_2 = some r) ∧ Aside0 (kq ≤ kj2) ∧ Aside0 (Below w.heap.size w w'))
   case atStart => exact ⟨(0), (0), (by first | rfl | (simp; done) | simp [*]), (by first | rfl | (simp; done) | simp [*]), H', ⟨Nat.le_refl _⟩, ⟨vb HB.out⟩⟩
   case round =>
    clear H'
    (try clear c1); (try clear p2); (try clear c5); (try clear c6); (try clear c8); (try clear p2)
    obtain ⟨x5_2, x6_2, rfl, rfl, HA, HK2, HB⟩ := hrel
    cases gk with
    | zero => exact absurd HA.out (by simp [Zba.l0])
    | succ k2 =>
     have H := HA.out
     clear HA
     simp only [Zba.l0] at H
     by_cases c9 : x6_2 < (l0.length : Int)
     rotate_left
     ·rw [if_neg c9] at H
      have c9b0 : decide (x6_2 < (l0.length : Int)) = false := df c9
      clear c9
      obtain rfl := Option.some.inj H
      go_wp2
      go_ret
      exact ⟨by rfl, vb HB.out⟩
     rw [if_pos c9] at H
     have c9b0 : decide (x6_2 < (l0.length : Int)) = true := de c9
     clear c9
     by_cases c10 : 0 ≤ x6_2
     rotate_left
     ·rw [if_neg c10] at H
      exact absurd H (by simp)
     rw [if_pos c10] at H
     have c10b0 : decide (0 ≤ x6_2) = true := de c10
     clear c10
     have H' := am H
     clear H
     have p248 : 0 ≤ (x6_2 : Int) := od (by with_reducible assumption)
     have q248 : x6_2 < (l0.length : Int) := od (by with_reducible assumption)
     obtain ⟨ad248, A248_4, c248_4, e248, hx248_0, hx248_1, hx248_2, hx248_3, hx248_4, hx248_5, hl248_4, hi248_4⟩ := at_T34 HR0.out x6_2 p248 q248
     cases e248
     replace hx248_0 := cb HB.out hx248_0
     replace hx248_1 := cb HB.out hx248_1
     replace hx248_2 := cb HB.out hx248_2
     replace hx248_3 := cb HB.out hx248_3
     replace hx248_4 := cb HB.out hx248_4
     replace hx248_5 := cb HB.out hx248_5
     have HR248_4 := am hi248_4
     have HC248_4 := am hl248_4
     clear hi248_4 hl248_4
     replace p248 := eq_true p248
     replace q248 := eq_true q248
     go_wp2
     go_roundg k2
     case measure => have := HJ2.out; have := HK2.out; omega
     case rel => exact ⟨(wrap64 (x5_2 + (((rd_T34 l0 x6_2).f4).length : Int))), (wrap64 (x6_2 + 1)), (by first | rfl | (simp; done) | simp [*]), (by first | rfl | (simp; done) | simp [*]), H', ⟨by have := HJ2.out; have := HK2.out; omega⟩, ⟨vb HB.out⟩⟩
end Go.Proofs.YtjgifmakhnkmdaaGreatDoor.XRep
