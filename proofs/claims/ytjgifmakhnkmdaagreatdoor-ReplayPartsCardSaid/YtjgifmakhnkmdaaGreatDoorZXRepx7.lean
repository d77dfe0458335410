import Derived.Test.YtjgifmakhnkmdaaGreatDoorZXRepx0
import Derived.Test.YtjgifmakhnkmdaaGreatDoorZXRepx4
import Derived.Test.YtjgifmakhnkmdaaGreatDoorZXRepx5
import Derived.Test.YtjgifmakhnkmdaaGreatDoorZXRepx6
import Derived.Test.YtjgifmakhnkmdaaGreatDoorZCmp
namespace Go.Proofs.YtjgifmakhnkmdaaGreatDoor.XRep
set_option maxHeartbeats 8000000
set_option maxRecDepth 100000
open Go.RowKit Go.Proofs.YtjgifmakhnkmdaaGreatDoorW.PrintWords Go.Proofs.YtjgifmakhnkmdaaGreatDoorW.PrintLast Go.Proofs.YtjgifmakhnkmdaaGreatDoorW.PrintMore Go.Proofs.YtjgifmakhnkmdaaGreatDoor.Cmp
set_option linter.unusedVariables false
set_option linter.unusedSimpArgs false
mutual
def Zbe.l0 : Nat → Int → Int → List (S106) → List (S165) → Option (Int)
 | 0, _, _, _, _ => none
 | k + 1, x3, x4, x212000, x212001 => if x4 < (x212000.length : Int) then (if 0 ≤ x4 then ((Zbb.f k ((rd_T106 x212000 x4).f0) ((rd_T106 x212000 x4).f1)).bind fun t214 => (if t214 = 0 then (if x4 = 0 then (if ((rd_T106 x212000 x4).f0) = 0 then (if x4 > 0 then (Zbe.j1 k x4 (decide (((rd_T106 x212000 x4).f0) ≤ x3)) x212000 x212001 ((rd_T106 x212000 x4).f0) ((rd_T106 x212000 x4).f1)) else (Zbe.j1 k x4 false x212000 x212001 ((rd_T106 x212000 x4).f0) ((rd_T106 x212000 x4).f1))) else (Zbe.j1 k x4 true x212000 x212001 ((rd_T106 x212000 x4).f0) ((rd_T106 x212000 x4).f1))) else (if x4 > 0 then (Zbe.j1 k x4 (decide (((rd_T106 x212000 x4).f0) ≤ x3)) x212000 x212001 ((rd_T106 x212000 x4).f0) ((rd_T106 x212000 x4).f1)) else (Zbe.j1 k x4 false x212000 x212001 ((rd_T106 x212000 x4).f0) ((rd_T106 x212000 x4).f1)))) else (some t214))) else (none)) else ((Zbc.f k x212001).bind fun t216 => (if t216 = 0 then (Zbe.l1 k x3 0 x212000 x212001) else (some t216)))
def Zbe.j1 : Nat → Int → Bool → List (S106) → List (S165) → Int → List (S110) → Option (Int)
 | 0, _, _, _, _, _, _ => none
 | k + 1, x4, x50, x212000, x212001, x214000, x214001 => if x50 = true then (some 11) else (if 0 < (x212000.length : Int) then (if (x214001.length : Int) = (((rd_T106 x212000 0).f1).length : Int) then (Zbe.l0 k x214000 (wrap64 (x4 + 1)) x212000 x212001) else (some 19)) else (none))
def Zbe.l1 : Nat → Int → Int → List (S106) → List (S165) → Option (Int)
 | 0, _, _, _, _ => none
 | k + 1, x3, x8, x212000, x212001 => if x8 < (x212001.length : Int) then (if 0 ≤ x8 then (if ((rd_T165 x212001 x8).f1.f2.f1) > x3 then (some 9) else (Zbe.l1 k x3 (wrap64 (x8 + 1)) x212000 x212001)) else (none)) else (some 0)
end
def Zbe.f (k : Nat) (l0_0 : List (S106)) (l0_1 : List (S165)) : Option (Int) := if (l0_0.length : Int) < 2 then (some 3) else (if (l0_0.length : Int) > 24 then (some 4) else (Zbe.l0 k 0 0 l0_0 l0_1))
theorem Zbe.calls (k : Nat) (A0_0 : Option Addr) (c0_0 : Nat) (l0_0 : List (S106)) (A0_1 : Option Addr) (c0_1 : Nat) (l0_1 : List (S165)) (r : Int) (w : World) (hr0_0 : Kd.C k106 w A0_0 l0_0.length l0_0) (hc0_0 : l0_0.length ≤ c0_0) (hr0_1 : Kd.C k165 w A0_1 l0_1.length l0_1) (hc0_1 : l0_1.length ≤ c0_1) (h : Zbe.f k l0_0 l0_1 = some r) :
  Calls Tryz.prog 97 #[.agg #[.slice A0_0 l0_0.length c0_0, .slice A0_1 l0_1.length c0_1]] w fun e w' => e = .returned (.int .i64 r) ∧ Below w.heap.size w w' := by
 have hu101 := Tryz.underlying101
 have hu106 := Tryz.underlying106
 have HR0_0 := am hr0_0
 have HC0_0 := am hc0_0
 clear hr0_0 hc0_0
 have HR0_1 := am hr0_1
 have HC0_1 := am hc0_1
 clear hr0_1 hc0_1
 have HB := am (Below.refl w.heap.size w)
 have H : (if (l0_0.length : Int) < 2 then (some 3) else (if (l0_0.length : Int) > 24 then (some 4) else (Zbe.l0 k 0 0 l0_0 l0_1))) = some r := h
 clear h
 by_cases c2 : (l0_0.length : Int) < 2
 ·rw [if_pos c2] at H
  have c2b0 : decide ((l0_0.length : Int) < 2) = true := de c2
  have c2b1 : decide (l0_0.length < 2) = true := decide_eq_true (by omega)
  clear c2
  obtain rfl := Option.some.inj H
  go_enter Tryz.func97, Tryz.ntmps97
  go_wp2_with (first | ((with_reducible refine gate_dst (N := 1) rfl ?_); refine box_event ?hg (N := 1) ?hd (cs := #[.slice A0_0 l0_0.length c0_0, .slice A0_1 l0_1.length c0_1]) (t := 101) ?hr ?_; (case hd => rfl); (case hg => rfl); (case hr => go_simp <;> rfl); intro gb211 hg w3 hbox hb; have BK211 := am hbox; have GW211 := gef hg HB.out; have GE211 := gef hg HB.out; replace HB := bs HB.out hb; clear hb hbox hg; obtain ⟨hcz4_0, hcz4_1, hfz4_0, hfz4_1⟩ := bk2 BK211.out))
  repeat (go_quiet (first | ((with_reducible refine gate_dst (N := 1) rfl ?_); refine box_event ?hg (N := 1) ?hd (cs := #[.slice A0_0 l0_0.length c0_0, .slice A0_1 l0_1.length c0_1]) (t := 101) ?hr ?_; (case hd => rfl); (case hg => rfl); (case hr => go_simp <;> rfl); intro gb211 hg w3 hbox hb; have BK211 := am hbox; have GW211 := gef hg HB.out; have GE211 := gef hg HB.out; replace HB := bs HB.out hb; clear hb hbox hg; obtain ⟨hcz4_0, hcz4_1, hfz4_0, hfz4_1⟩ := bk2 BK211.out)); try go_wp2_with (first | ((with_reducible refine gate_dst (N := 1) rfl ?_); refine box_event ?hg (N := 1) ?hd (cs := #[.slice A0_0 l0_0.length c0_0, .slice A0_1 l0_1.length c0_1]) (t := 101) ?hr ?_; (case hd => rfl); (case hg => rfl); (case hr => go_simp <;> rfl); intro gb211 hg w3 hbox hb; have BK211 := am hbox; have GW211 := gef hg HB.out; have GE211 := gef hg HB.out; replace HB := bs HB.out hb; clear hb hbox hg; obtain ⟨hcz4_0, hcz4_1, hfz4_0, hfz4_1⟩ := bk2 BK211.out)))
  go_ret
  exact ⟨by rfl, vb HB.out⟩
 rw [if_neg c2] at H
 have c2b0 : decide ((l0_0.length : Int) < 2) = false := df c2
 have c2b1 : decide (l0_0.length < 2) = false := decide_eq_false (by omega)
 clear c2
 by_cases c5 : (l0_0.length : Int) > 24
 ·rw [if_pos c5] at H
  have c5b0 : decide (24 < (l0_0.length : Int)) = true := de c5
  have c5b1 : decide (24 < l0_0.length) = true := decide_eq_true (by omega)
  clear c5
  obtain rfl := Option.some.inj H
  go_enter Tryz.func97, Tryz.ntmps97
  go_wp2_with (first | ((with_reducible refine gate_dst (N := 1) rfl ?_); refine box_event ?hg (N := 1) ?hd (cs := #[.slice A0_0 l0_0.length c0_0, .slice A0_1 l0_1.length c0_1]) (t := 101) ?hr ?_; (case hd => rfl); (case hg => rfl); (case hr => go_simp <;> rfl); intro gb211 hg w6 hbox hb; have BK211 := am hbox; have GW211 := gef hg HB.out; have GE211 := gef hg HB.out; replace HB := bs HB.out hb; clear hb hbox hg; obtain ⟨hcz7_0, hcz7_1, hfz7_0, hfz7_1⟩ := bk2 BK211.out))
  repeat (go_quiet (first | ((with_reducible refine gate_dst (N := 1) rfl ?_); refine box_event ?hg (N := 1) ?hd (cs := #[.slice A0_0 l0_0.length c0_0, .slice A0_1 l0_1.length c0_1]) (t := 101) ?hr ?_; (case hd => rfl); (case hg => rfl); (case hr => go_simp <;> rfl); intro gb211 hg w6 hbox hb; have BK211 := am hbox; have GW211 := gef hg HB.out; have GE211 := gef hg HB.out; replace HB := bs HB.out hb; clear hb hbox hg; obtain ⟨hcz7_0, hcz7_1, hfz7_0, hfz7_1⟩ := bk2 BK211.out)); try go_wp2_with (first | ((with_reducible refine gate_dst (N := 1) rfl ?_); refine box_event ?hg (N := 1) ?hd (cs := #[.slice A0_0 l0_0.length c0_0, .slice A0_1 l0_1.length c0_1]) (t := 101) ?hr ?_; (case hd => rfl); (case hg => rfl); (case hr => go_simp <;> rfl); intro gb211 hg w6 hbox hb; have BK211 := am hbox; have GW211 := gef hg HB.out; have GE211 := gef hg HB.out; replace HB := bs HB.out hb; clear hb hbox hg; obtain ⟨hcz7_0, hcz7_1, hfz7_0, hfz7_1⟩ := bk2 BK211.out)))
  go_ret
  exact ⟨by rfl, vb HB.out⟩
 rw [if_neg c5] at H
 have c5b0 : decide (24 < (l0_0.length : Int)) = false := df c5
 have c5b1 : decide (24 < l0_0.length) = false := decide_eq_false (by omega)
 clear c5
 have H' := am H
 clear H
 go_enter Tryz.func97, Tryz.ntmps97
 go_wp2_with (first | ((with_reducible refine gate_dst (N := 1) rfl ?_); refine box_event ?hg (N := 1) ?hd (cs := #[.slice A0_0 l0_0.length c0_0, .slice A0_1 l0_1.length c0_1]) (t := 101) ?hr ?_; (case hd => rfl); (case hg => rfl); (case hr => go_simp <;> rfl); intro gb211 hg w8 hbox hb; have BK211 := am hbox; have GW211 := gef hg HB.out; have GE211 := gef hg HB.out; replace HB := bs HB.out hb; clear hb hbox hg; obtain ⟨hcz9_0, hcz9_1, hfz9_0, hfz9_1⟩ := bk2 BK211.out))
 repeat (go_quiet (first | ((with_reducible refine gate_dst (N := 1) rfl ?_); refine box_event ?hg (N := 1) ?hd (cs := #[.slice A0_0 l0_0.length c0_0, .slice A0_1 l0_1.length c0_1]) (t := 101) ?hr ?_; (case hd => rfl); (case hg => rfl); (case hr => go_simp <;> rfl); intro gb211 hg w8 hbox hb; have BK211 := am hbox; have GW211 := gef hg HB.out; have GE211 := gef hg HB.out; replace HB := bs HB.out hb; clear hb hbox hg; obtain ⟨hcz9_0, hcz9_1, hfz9_0, hfz9_1⟩ := bk2 BK211.out)); try go_wp2_with (first | ((with_reducible refine gate_dst (N := 1) rfl ?_); refine box_event ?hg (N := 1) ?hd (cs := #[.slice A0_0 l0_0.length c0_0, .slice A0_1 l0_1.length c0_1]) (t := 101) ?hr ?_; (case hd => rfl); (case hg => rfl); (case hr => go_simp <;> rfl); intro gb211 hg w8 hbox hb; have BK211 := am hbox; have GW211 := gef hg HB.out; have GE211 := gef hg HB.out; replace HB := bs HB.out hb; clear hb hbox hg; obtain ⟨hcz9_0, hcz9_1, hfz9_0, hfz9_1⟩ := bk2 BK211.out)))
 go_loopg [3, 4] k (fun kq v3 v4 w' => ∃ (x3_1 : Int) (x4_1 : Int), v3 = .int .i64 x3_1 ∧ v4 = .int .i64 x4_1 ∧ Aside0 (Zbe.l0 kq x3_1 x4_1 l0_0 l0_1 = some r) ∧ Aside0 (kq ≤ k) ∧ Aside0 (w'.heap[gb211]? = some (.cells #[(.slice A0_0 l0_0.length c0_0), (.slice A0_1 l0_1.length c0_1)] 101 (0, 0))) ∧ Aside0 (Below w.heap.size w w'))
 case atStart => exact ⟨(0), (0), (by first | rfl | (simp; done) | simp [*]), (by first | rfl | (simp; done) | simp [*]), H', ⟨Nat.le_refl _⟩, ⟨vk BK211.out⟩, ⟨vb HB.out⟩⟩
 case round =>
  clear H'
  (try clear c2); (try clear c2b0); (try clear c2b1); (try clear p2); (try clear c5); (try clear c5b0); (try clear c5b1); (try clear c9); (try clear hcz4_0); (try clear hcz4_1); (try clear hcz7_0); (try clear hcz7_1); (try clear hcz9_0); (try clear hcz9_1); (try clear hfz4_0); (try clear hfz4_1); (try clear hfz7_0); (try clear hfz7_1); (try clear hfz9_0); (try clear hfz9_1)
  obtain ⟨x3_1, x4_1, rfl, rfl, HA, HK1, BK211, HB⟩ := hrel
  cases gk with
  | zero => exact absurd HA.out (by simp [Zbe.l0])
  | succ k1 =>
   have H := HA.out
   clear HA
   simp only [Zbe.l0] at H
   by_cases c10 : x4_1 < (l0_0.length : Int)
   rotate_left
   ·rw [if_neg c10] at H
    have c10b0 : decide (x4_1 < (l0_0.length : Int)) = false := df c10
    clear c10
    replace H := be H
    obtain ⟨t216, A460, H⟩ := H
    try dsimp only at H
    have A46 := am A460
    clear A460
    by_cases c47 : t216 = 0
    rotate_left
    ·rw [if_neg c47] at H
     have c47b0 : (t216 == 0) = false := beq_eq_false_iff_ne.mpr c47
     have c47b1 : (t216 != 0) = true := bne_iff_ne.mpr c47
     obtain rfl := Option.some.inj H
     obtain ⟨hcz56_0, hcz56_1, hfz56_0, hfz56_1⟩ := bk2 BK211.out
     go_wp2_with (first | (go_at_call 117; (with_reducible refine (Zbc.calls k1 _ _ l0_1 t216 _ ?side1 ?side2 A46.out).mono ?_); (case side1 => exact vC (Kd.C_below HR0_1.out HB.out)); (case side2 => exact HC0_1.out); rintro e w57 ⟨rfl, hb⟩; replace BK211 := kb BK211.out hb; replace HB := bs HB.out hb; (try clear hb)))
     repeat (go_quiet (first | (go_at_call 117; (with_reducible refine (Zbc.calls k1 _ _ l0_1 t216 _ ?side1 ?side2 A46.out).mono ?_); (case side1 => exact vC (Kd.C_below HR0_1.out HB.out)); (case side2 => exact HC0_1.out); rintro e w57 ⟨rfl, hb⟩; replace BK211 := kb BK211.out hb; replace HB := bs HB.out hb; (try clear hb))); try go_wp2_with (first | (go_at_call 117; (with_reducible refine (Zbc.calls k1 _ _ l0_1 t216 _ ?side1 ?side2 A46.out).mono ?_); (case side1 => exact vC (Kd.C_below HR0_1.out HB.out)); (case side2 => exact HC0_1.out); rintro e w57 ⟨rfl, hb⟩; replace BK211 := kb BK211.out hb; replace HB := bs HB.out hb; (try clear hb))))
     go_ret
     exact ⟨by rfl, vb HB.out⟩
    rw [if_pos c47] at H
    have c47b0 : (t216 == 0) = true := beq_iff_eq.mpr c47
    have c47b1 : (t216 != 0) = false := bne_eq_false_iff_eq.mpr c47
    clear c47
    have H' := am H
    clear H
    obtain ⟨hcz48_0, hcz48_1, hfz48_0, hfz48_1⟩ := bk2 BK211.out
    go_wp2_with (first | (go_at_call 117; (with_reducible refine (Zbc.calls k1 _ _ l0_1 t216 _ ?side1 ?side2 A46.out).mono ?_); (case side1 => exact vC (Kd.C_below HR0_1.out HB.out)); (case side2 => exact HC0_1.out); rintro e w49 ⟨rfl, hb⟩; replace BK211 := kb BK211.out hb; replace HB := bs HB.out hb; (try clear hb)))
    repeat (go_quiet (first | (go_at_call 117; (with_reducible refine (Zbc.calls k1 _ _ l0_1 t216 _ ?side1 ?side2 A46.out).mono ?_); (case side1 => exact vC (Kd.C_below HR0_1.out HB.out)); (case side2 => exact HC0_1.out); rintro e w49 ⟨rfl, hb⟩; replace BK211 := kb BK211.out hb; replace HB := bs HB.out hb; (try clear hb))); try go_wp2_with (first | (go_at_call 117; (with_reducible refine (Zbc.calls k1 _ _ l0_1 t216 _ ?side1 ?side2 A46.out).mono ?_); (case side1 => exact vC (Kd.C_below HR0_1.out HB.out)); (case side2 => exact HC0_1.out); rintro e w49 ⟨rfl, hb⟩; replace BK211 := kb BK211.out hb; replace HB := bs HB.out hb; (try clear hb))))
    go_loopg [8] k1 (fun kq v8 w' => ∃ (x8_2 : Int), v8 = .int .i64 x8_2 ∧ Aside0 (Zbe.l1 kq x3_1 x8_2 l0_0 l0_1 = some r) ∧ Aside0 (kq ≤ k1) ∧ Aside0 (w'.heap[gb211]? = some (.cells #[(.slice A0_0 l0_0.length c0_0), (.slice A0_1 l0_1.length c0_1)] 101 (0, 0))) ∧ Aside0 (Below w.heap.size w w'))
    case atStart => exact ⟨(0), (by first | rfl | (simp; done) | simp [*]), H', ⟨Nat.le_refl _⟩, ⟨vk BK211.out⟩, ⟨vb HB.out⟩⟩
    case round =>
     clear H'
     (try clear c1); (try clear c2); (try clear c2b0); (try clear c2b1); (try clear p2); (try clear q2); (try clear hx2); (try clear qi2); (try clear c3); (try clear c4); (try clear c5); (try clear c5b0); (try clear c5b1); (try clear p6); (try clear c9); (try clear c10); (try clear c10b0); (try clear c11); (try clear c11b0); (try clear c13); (try clear c13b0); (try clear c13b1); (try clear c17); (try clear c20); (try clear c20b0); (try clear c20b1); (try clear c21); (try clear c21b0); (try clear c21b1); (try clear p21); (try clear q21); (try clear hx21); (try clear qi21); (try clear c22); (try clear c22b0); (try clear c23); (try clear c25); (try clear c27); (try clear c29); (try clear c29b0); (try clear c30); (try clear c32); (try clear c33); (try clear c33b0); (try clear c33b1); (try clear c34); (try clear c34b0); (try clear c34b1); (try clear c34b2); (try clear c35); (try clear c38); (try clear c43); (try clear c47); (try clear c47b0); (try clear c47b1); (try clear hcz15_0); (try clear hcz15_1); (try clear hcz18_0); (try clear hcz18_1); (try clear hcz24_0); (try clear hcz24_1); (try clear hcz26_0); (try clear hcz26_1); (try clear hcz28_0); (try clear hcz28_1); (try clear hcz31_0); (try clear hcz31_1); (try clear hcz36_0); (try clear hcz36_1); (try clear hcz37_0); (try clear hcz37_1); (try clear hcz39_0); (try clear hcz39_1); (try clear hcz40_0); (try clear hcz40_1); (try clear hcz41_0); (try clear hcz41_1); (try clear hcz44_0); (try clear hcz44_1); (try clear hcz48_0); (try clear hcz48_1); (try clear hcz4_0); (try clear hcz4_1); (try clear hcz7_0); (try clear hcz7_1); (try clear hcz9_0); (try clear hcz9_1); (try clear hfz15_0); (try clear hfz15_1); (try clear hfz18_0); (try clear hfz18_1); (try clear hfz24_0); (try clear hfz24_1); (try clear hfz26_0); (try clear hfz26_1); (try clear hfz28_0); (try clear hfz28_1); (try clear hfz31_0); (try clear hfz31_1); (try clear hfz36_0); (try clear hfz36_1); (try clear hfz37_0); (try clear hfz37_1); (try clear hfz39_0); (try clear hfz39_1); (try clear hfz40_0); (try clear hfz40_1); (try clear hfz41_0); (try clear hfz41_1); (try clear hfz44_0); (try clear hfz44_1); (try clear hfz48_0); (try clear hfz48_1); (try clear hfz4_0); (try clear hfz4_1); (try clear hfz7_0); (try clear hfz7_1); (try clear hfz9_0); (try clear hfz9_1); (try clear hx212_0); (try clear hx212_1); (try clear hx215_0); (try clear hx215_1); (try clear p2); (try clear p21); (try clear p212); (try clear p215); (try clear q2); (try clear q21); (try clear q212); (try clear q215)
     obtain ⟨x8_2, rfl, HA, HK2, BK211, HB⟩ := hrel
     cases gk with
     | zero => exact absurd HA.out (by simp [Zbe.l1])
     | succ k2 =>
      have H := HA.out
      clear HA
      simp only [Zbe.l1] at H
      by_cases c50 : x8_2 < (l0_1.length : Int)
      rotate_left
      ·rw [if_neg c50] at H
       have c50b0 : decide (x8_2 < (l0_1.length : Int)) = false := df c50
       clear c50
       obtain rfl := Option.some.inj H
       obtain ⟨hcz55_0, hcz55_1, hfz55_0, hfz55_1⟩ := bk2 BK211.out
       go_wp2
       repeat (go_quiet (fail); try go_wp2)
       go_ret
       exact ⟨by rfl, vb HB.out⟩
      rw [if_pos c50] at H
      have c50b0 : decide (x8_2 < (l0_1.length : Int)) = true := de c50
      clear c50
      by_cases c51 : 0 ≤ x8_2
      rotate_left
      ·rw [if_neg c51] at H
       exact absurd H (by simp)
      rw [if_pos c51] at H
      have c51b0 : decide (0 ≤ x8_2) = true := de c51
      clear c51
      by_cases c52 : ((rd_T165 l0_1 x8_2).f1.f2.f1) > x3_1
      ·rw [if_pos c52] at H
       have c52b0 : decide (x3_1 < ((rd_T165 l0_1 x8_2).f1.f2.f1)) = true := de c52
       clear c52
       obtain rfl := Option.some.inj H
       obtain ⟨hcz53_0, hcz53_1, hfz53_0, hfz53_1⟩ := bk2 BK211.out
       have p217 : 0 ≤ (x8_2 : Int) := od (by with_reducible assumption)
       have q217 : x8_2 < (l0_1.length : Int) := od (by with_reducible assumption)
       obtain ⟨ad217, e217, hx217_0, hx217_1, hx217_2, hx217_3, hx217_4, hx217_5, hx217_6⟩ := at_T165 HR0_1.out x8_2 p217 q217
       cases e217
       replace hx217_0 := cb HB.out hx217_0
       replace hx217_1 := cb HB.out hx217_1
       replace hx217_2 := cb HB.out hx217_2
       replace hx217_3 := cb HB.out hx217_3
       replace hx217_4 := cb HB.out hx217_4
       replace hx217_5 := cb HB.out hx217_5
       replace hx217_6 := cb HB.out hx217_6
       replace p217 := eq_true p217
       replace q217 := eq_true q217
       go_wp2
       repeat (go_quiet (fail); try go_wp2)
       go_ret
       exact ⟨by rfl, vb HB.out⟩
      rw [if_neg c52] at H
      have c52b0 : decide (x3_1 < ((rd_T165 l0_1 x8_2).f1.f2.f1)) = false := df c52
      clear c52
      have H' := am H
      clear H
      obtain ⟨hcz54_0, hcz54_1, hfz54_0, hfz54_1⟩ := bk2 BK211.out
      have p217 : 0 ≤ (x8_2 : Int) := od (by with_reducible assumption)
      have q217 : x8_2 < (l0_1.length : Int) := od (by with_reducible assumption)
      obtain ⟨ad217, e217, hx217_0, hx217_1, hx217_2, hx217_3, hx217_4, hx217_5, hx217_6⟩ := at_T165 HR0_1.out x8_2 p217 q217
      cases e217
      replace hx217_0 := cb HB.out hx217_0
      replace hx217_1 := cb HB.out hx217_1
      replace hx217_2 := cb HB.out hx217_2
      replace hx217_3 := cb HB.out hx217_3
      replace hx217_4 := cb HB.out hx217_4
      replace hx217_5 := cb HB.out hx217_5
      replace hx217_6 := cb HB.out hx217_6
      replace p217 := eq_true p217
      replace q217 := eq_true q217
      go_wp2
      repeat (go_quiet (fail); try go_wp2)
      go_roundg k2
      case measure => have := HK1.out; have := HK2.out; omega
      case rel => exact ⟨(wrap64 (x8_2 + 1)), (by first | rfl | (simp; done) | simp [*]), H', ⟨by have := HK1.out; have := HK2.out; omega⟩, ⟨vk BK211.out⟩, ⟨vb HB.out⟩⟩
   rw [if_pos c10] at H
   have c10b0 : decide (x4_1 < (l0_0.length : Int)) = true := de c10
   clear c10
   by_cases c11 : 0 ≤ x4_1
   rotate_left
   ·rw [if_neg c11] at H
    exact absurd H (by simp)
   rw [if_pos c11] at H
   have c11b0 : decide (0 ≤ x4_1) = true := de c11
   clear c11
   replace H := be H
   obtain ⟨t214, A120, H⟩ := H
   try dsimp only at H
   have A12 := am A120
   clear A120
   by_cases c13 : t214 = 0
   rotate_left
   ·rw [if_neg c13] at H
    have c13b0 : (t214 == 0) = false := beq_eq_false_iff_ne.mpr c13
    have c13b1 : (t214 != 0) = true := bne_iff_ne.mpr c13
    obtain rfl := Option.some.inj H
    obtain ⟨hcz41_0, hcz41_1, hfz41_0, hfz41_1⟩ := bk2 BK211.out
    have p212 : 0 ≤ (x4_1 : Int) := od (by with_reducible assumption)
    have q212 : x4_1 < (l0_0.length : Int) := od (by with_reducible assumption)
    obtain ⟨ad212, A212_1, c212_1, e212, hx212_0, hx212_1, hl212_1, hi212_1⟩ := at_T106 HR0_0.out x4_1 p212 q212
    cases e212
    replace hx212_0 := cb HB.out hx212_0
    replace hx212_1 := cb HB.out hx212_1
    have HR212_1 := am hi212_1
    have HC212_1 := am hl212_1
    clear hi212_1 hl212_1
    replace p212 := eq_true p212
    replace q212 := eq_true q212
    go_wp2_with (first | ((with_reducible refine gate_dst (N := 5) rfl ?_); refine box_event ?hg (N := 5) ?hd (cs := #[.int .i64 0, .slice none 0 0]) (t := 106) ?hr ?_; (case hd => rfl); (case hg => rfl); (case hr => go_simp <;> rfl); intro gb213 hg w42 hbox hb; have BK213 := am hbox; have GW213 := gef hg HB.out; have GE213 := gef hg HB.out; replace HB := bs HB.out hb; have NB211_213 := nl hg BK211.out; have NB213_211 := ng hg BK211.out; replace BK211 := kb BK211.out hb; clear hb hbox hg; have hnb43 := NB213_211.out; have hnc43 := NB211_213.out; obtain ⟨hcz44_0, hcz44_1, hfz44_0, hfz44_1⟩ := bk2 BK213.out) | (go_at_call 116; (with_reducible refine (Zbb.calls k1 ((rd_T106 l0_0 x4_1).f0) _ _ ((rd_T106 l0_0 x4_1).f1) t214 _ ?side1 ?side2 A12.out).mono ?_); (case side1 => exact Kd.C_below HR212_1.out (vb HB.out)); (case side2 => exact HC212_1.out); rintro e w45 ⟨rfl, hb⟩; replace BK211 := am (blk_below (g := gb211) (o := .cells #[.slice (some ad212) l0_0.length c0_0, .slice A0_1 l0_1.length c0_1] 101 (0, 0)) (by exact vt (bf (vt (bf (vt BK211.out) NB211_213.out)) NB211_213.out)) hb); replace BK213 := am (blk_below (g := gb213) (o := .cells #[.int .i64 ((rd_T106 l0_0 x4_1).f0), .slice A212_1 ((rd_T106 l0_0 x4_1).f1).length c212_1] 106 (0, 0)) (by exact (vt (bp (vt (bp (vt BK213.out) 0)) 1)).trans rfl) hb); replace HB := bs HB.out hb; (try clear hb)))
    repeat (go_quiet (first | ((with_reducible refine gate_dst (N := 5) rfl ?_); refine box_event ?hg (N := 5) ?hd (cs := #[.int .i64 0, .slice none 0 0]) (t := 106) ?hr ?_; (case hd => rfl); (case hg => rfl); (case hr => go_simp <;> rfl); intro gb213 hg w42 hbox hb; have BK213 := am hbox; have GW213 := gef hg HB.out; have GE213 := gef hg HB.out; replace HB := bs HB.out hb; have NB211_213 := nl hg BK211.out; have NB213_211 := ng hg BK211.out; replace BK211 := kb BK211.out hb; clear hb hbox hg; have hnb43 := NB213_211.out; have hnc43 := NB211_213.out; obtain ⟨hcz44_0, hcz44_1, hfz44_0, hfz44_1⟩ := bk2 BK213.out) | (go_at_call 116; (with_reducible refine (Zbb.calls k1 ((rd_T106 l0_0 x4_1).f0) _ _ ((rd_T106 l0_0 x4_1).f1) t214 _ ?side1 ?side2 A12.out).mono ?_); (case side1 => exact Kd.C_below HR212_1.out (vb HB.out)); (case side2 => exact HC212_1.out); rintro e w45 ⟨rfl, hb⟩; replace BK211 := am (blk_below (g := gb211) (o := .cells #[.slice (some ad212) l0_0.length c0_0, .slice A0_1 l0_1.length c0_1] 101 (0, 0)) (by exact vt (bf (vt (bf (vt BK211.out) NB211_213.out)) NB211_213.out)) hb); replace BK213 := am (blk_below (g := gb213) (o := .cells #[.int .i64 ((rd_T106 l0_0 x4_1).f0), .slice A212_1 ((rd_T106 l0_0 x4_1).f1).length c212_1] 106 (0, 0)) (by exact (vt (bp (vt (bp (vt BK213.out) 0)) 1)).trans rfl) hb); replace HB := bs HB.out hb; (try clear hb))); try go_wp2_with (first | ((with_reducible refine gate_dst (N := 5) rfl ?_); refine box_event ?hg (N := 5) ?hd (cs := #[.int .i64 0, .slice none 0 0]) (t := 106) ?hr ?_; (case hd => rfl); (case hg => rfl); (case hr => go_simp <;> rfl); intro gb213 hg w42 hbox hb; have BK213 := am hbox; have GW213 := gef hg HB.out; have GE213 := gef hg HB.out; replace HB := bs HB.out hb; have NB211_213 := nl hg BK211.out; have NB213_211 := ng hg BK211.out; replace BK211 := kb BK211.out hb; clear hb hbox hg; have hnb43 := NB213_211.out; have hnc43 := NB211_213.out; obtain ⟨hcz44_0, hcz44_1, hfz44_0, hfz44_1⟩ := bk2 BK213.out) | (go_at_call 116; (with_reducible refine (Zbb.calls k1 ((rd_T106 l0_0 x4_1).f0) _ _ ((rd_T106 l0_0 x4_1).f1) t214 _ ?side1 ?side2 A12.out).mono ?_); (case side1 => exact Kd.C_below HR212_1.out (vb HB.out)); (case side2 => exact HC212_1.out); rintro e w45 ⟨rfl, hb⟩; replace BK211 := am (blk_below (g := gb211) (o := .cells #[.slice (some ad212) l0_0.length c0_0, .slice A0_1 l0_1.length c0_1] 101 (0, 0)) (by exact vt (bf (vt (bf (vt BK211.out) NB211_213.out)) NB211_213.out)) hb); replace BK213 := am (blk_below (g := gb213) (o := .cells #[.int .i64 ((rd_T106 l0_0 x4_1).f0), .slice A212_1 ((rd_T106 l0_0 x4_1).f1).length c212_1] 106 (0, 0)) (by exact (vt (bp (vt (bp (vt BK213.out) 0)) 1)).trans rfl) hb); replace HB := bs HB.out hb; (try clear hb))))
    go_ret
    exact ⟨by rfl, vb HB.out⟩
   rw [if_pos c13] at H
   have c13b0 : (t214 == 0) = true := beq_iff_eq.mpr c13
   have c13b1 : (t214 != 0) = false := bne_eq_false_iff_eq.mpr c13
   clear c13
   have HC14 := am H
   clear H
   obtain ⟨hcz15_0, hcz15_1, hfz15_0, hfz15_1⟩ := bk2 BK211.out
   have p212 : 0 ≤ (x4_1 : Int) := od (by with_reducible assumption)
   have q212 : x4_1 < (l0_0.length : Int) := od (by with_reducible assumption)
   obtain ⟨ad212, A212_1, c212_1, e212, hx212_0, hx212_1, hl212_1, hi212_1⟩ := at_T106 HR0_0.out x4_1 p212 q212
   cases e212
   replace hx212_0 := cb HB.out hx212_0
   replace hx212_1 := cb HB.out hx212_1
   have HR212_1 := am hi212_1
   have HC212_1 := am hl212_1
   clear hi212_1 hl212_1
   replace p212 := eq_true p212
   replace q212 := eq_true q212
   go_upto_region 13 with (first | ((with_reducible refine gate_dst (N := 5) rfl ?_); refine box_event ?hg (N := 5) ?hd (cs := #[.int .i64 0, .slice none 0 0]) (t := 106) ?hr ?_; (case hd => rfl); (case hg => rfl); (case hr => go_simp <;> rfl); intro gb213 hg w16 hbox hb; have BK213 := am hbox; have GW213 := gef hg HB.out; have GE213 := gef hg HB.out; replace HB := bs HB.out hb; have NB211_213 := nl hg BK211.out; have NB213_211 := ng hg BK211.out; replace BK211 := kb BK211.out hb; clear hb hbox hg; have hnb17 := NB213_211.out; have hnc17 := NB211_213.out; obtain ⟨hcz18_0, hcz18_1, hfz18_0, hfz18_1⟩ := bk2 BK213.out) | (go_at_call 116; (with_reducible refine (Zbb.calls k1 ((rd_T106 l0_0 x4_1).f0) _ _ ((rd_T106 l0_0 x4_1).f1) t214 _ ?side1 ?side2 A12.out).mono ?_); (case side1 => exact Kd.C_below HR212_1.out (vb HB.out)); (case side2 => exact HC212_1.out); rintro e w19 ⟨rfl, hb⟩; replace BK211 := am (blk_below (g := gb211) (o := .cells #[.slice (some ad212) l0_0.length c0_0, .slice A0_1 l0_1.length c0_1] 101 (0, 0)) (by exact vt (bf (vt (bf (vt BK211.out) NB211_213.out)) NB211_213.out)) hb); replace BK213 := am (blk_below (g := gb213) (o := .cells #[.int .i64 ((rd_T106 l0_0 x4_1).f0), .slice A212_1 ((rd_T106 l0_0 x4_1).f1).length c212_1] 106 (0, 0)) (by exact (vt (bp (vt (bp (vt BK213.out) 0)) 1)).trans rfl) hb); replace HB := bs HB.out hb; (try clear hb)))
   repeat (go_quiet (first | ((with_reducible refine gate_dst (N := 5) rfl ?_); refine box_event ?hg (N := 5) ?hd (cs := #[.int .i64 0, .slice none 0 0]) (t := 106) ?hr ?_; (case hd => rfl); (case hg => rfl); (case hr => go_simp <;> rfl); intro gb213 hg w16 hbox hb; have BK213 := am hbox; have GW213 := gef hg HB.out; have GE213 := gef hg HB.out; replace HB := bs HB.out hb; have NB211_213 := nl hg BK211.out; have NB213_211 := ng hg BK211.out; replace BK211 := kb BK211.out hb; clear hb hbox hg; have hnb17 := NB213_211.out; have hnc17 := NB211_213.out; obtain ⟨hcz18_0, hcz18_1, hfz18_0, hfz18_1⟩ := bk2 BK213.out) | (go_at_call 116; (with_reducible refine (Zbb.calls k1 ((rd_T106 l0_0 x4_1).f0) _ _ ((rd_T106 l0_0 x4_1).f1) t214 _ ?side1 ?side2 A12.out).mono ?_); (case side1 => exact Kd.C_below HR212_1.out (vb HB.out)); (case side2 => exact HC212_1.out); rintro e w19 ⟨rfl, hb⟩; replace BK211 := am (blk_below (g := gb211) (o := .cells #[.slice (some ad212) l0_0.length c0_0, .slice A0_1 l0_1.length c0_1] 101 (0, 0)) (by exact vt (bf (vt (bf (vt BK211.out) NB211_213.out)) NB211_213.out)) hb); replace BK213 := am (blk_below (g := gb213) (o := .cells #[.int .i64 ((rd_T106 l0_0 x4_1).f0), .slice A212_1 ((rd_T106 l0_0 x4_1).f1).length c212_1] 106 (0, 0)) (by exact (vt (bp (vt (bp (vt BK213.out) 0)) 1)).trans rfl) hb); replace HB := bs HB.out hb; (try clear hb))); go_upto_region 13 with (first | ((with_reducible refine gate_dst (N := 5) rfl ?_); refine box_event ?hg (N := 5) ?hd (cs := #[.int .i64 0, .slice none 0 0]) (t := 106) ?hr ?_; (case hd => rfl); (case hg => rfl); (case hr => go_simp <;> rfl); intro gb213 hg w16 hbox hb; have BK213 := am hbox; have GW213 := gef hg HB.out; have GE213 := gef hg HB.out; replace HB := bs HB.out hb; have NB211_213 := nl hg BK211.out; have NB213_211 := ng hg BK211.out; replace BK211 := kb BK211.out hb; clear hb hbox hg; have hnb17 := NB213_211.out; have hnc17 := NB211_213.out; obtain ⟨hcz18_0, hcz18_1, hfz18_0, hfz18_1⟩ := bk2 BK213.out) | (go_at_call 116; (with_reducible refine (Zbb.calls k1 ((rd_T106 l0_0 x4_1).f0) _ _ ((rd_T106 l0_0 x4_1).f1) t214 _ ?side1 ?side2 A12.out).mono ?_); (case side1 => exact Kd.C_below HR212_1.out (vb HB.out)); (case side2 => exact HC212_1.out); rintro e w19 ⟨rfl, hb⟩; replace BK211 := am (blk_below (g := gb211) (o := .cells #[.slice (some ad212) l0_0.length c0_0, .slice A0_1 l0_1.length c0_1] 101 (0, 0)) (by exact vt (bf (vt (bf (vt BK211.out) NB211_213.out)) NB211_213.out)) hb); replace BK213 := am (blk_below (g := gb213) (o := .cells #[.int .i64 ((rd_T106 l0_0 x4_1).f0), .slice A212_1 ((rd_T106 l0_0 x4_1).f1).length c212_1] 106 (0, 0)) (by exact (vt (bp (vt (bp (vt BK213.out) 0)) 1)).trans rfl) hb); replace HB := bs HB.out hb; (try clear hb))))
   (try simp only [Act.put, List.setIfInBounds_toArray, List.set_cons_zero, List.set_cons_succ])
   go_cut [50] (fun v50 wc => ∃ (kq : Nat) (x50_13 : Bool), v50 = .bool x50_13 ∧ Aside0 (Zbe.j1 kq x4_1 x50_13 l0_0 l0_1 ((rd_T106 l0_0 x4_1).f0) ((rd_T106 l0_0 x4_1).f1) = some r) ∧ Aside0 (kq ≤ k1) ∧ Aside0 (wc.heap[gb211]? = some (.cells #[(.slice (some ad212) l0_0.length c0_0), (.slice A0_1 l0_1.length c0_1)] 101 (0, 0))) ∧ Aside0 (wc.heap[gb213]? = some (.cells #[.int .i64 ((rd_T106 l0_0 x4_1).f0), (.slice A212_1 ((rd_T106 l0_0 x4_1).f1).length c212_1)] 106 (0, 0))) ∧ Aside0 (Below w.heap.size w wc))
   case first =>
    have H := HC14.out
    clear HC14
    by_cases c20 : x4_1 = 0
    rotate_left
    ·rw [if_neg c20] at H
     have c20b0 : (x4_1 == 0) = false := beq_eq_false_iff_ne.mpr c20
     have c20b1 : (x4_1 != 0) = true := bne_iff_ne.mpr c20
     (first | rw [c20b0] | (simp only [i64_w]; rw [c20b0]) | skip)
     by_cases c29 : x4_1 > 0
     rotate_left
     ·rw [if_neg c29] at H
      have c29b0 : decide (0 < x4_1) = false := df c29
      clear c29
      have H' := am H
      clear H
      go_wp2
      repeat (go_quiet (fail); try go_wp2)
      go_meet
      case rel => exact ⟨_, (false), (by first | rfl | (simp; done) | simp [*]), H', ⟨by have := HK1.out; first | omega | exact Nat.le_refl _⟩, ⟨vk BK211.out⟩, ⟨vk BK213.out⟩, ⟨vb HB.out⟩⟩
     rw [if_pos c29] at H
     have c29b0 : decide (0 < x4_1) = true := de c29
     clear c29
     have H' := am H
     clear H
     have hnb30 := NB213_211.out
     have hnc30 := NB211_213.out
     obtain ⟨hcz31_0, hcz31_1, hfz31_0, hfz31_1⟩ := bk2 BK213.out
     go_wp2
     repeat (go_quiet (fail); try go_wp2)
     go_meet
     case rel => exact ⟨_, (decide (((rd_T106 l0_0 x4_1).f0) ≤ x3_1)), (by first | rfl | (simp; done) | simp [*]), H', ⟨by have := HK1.out; first | omega | exact Nat.le_refl _⟩, ⟨vk BK211.out⟩, ⟨vk BK213.out⟩, ⟨vb HB.out⟩⟩
    rw [if_pos c20] at H
    have c20b0 : (x4_1 == 0) = true := beq_iff_eq.mpr c20
    have c20b1 : (x4_1 != 0) = false := bne_eq_false_iff_eq.mpr c20
    clear c20
    (first | rw [c20b0] | (simp only [i64_w]; rw [c20b0]) | skip)
    by_cases c21 : ((rd_T106 l0_0 x4_1).f0) = 0
    rotate_left
    ·rw [if_neg c21] at H
     have c21b0 : (((rd_T106 l0_0 x4_1).f0) == 0) = false := beq_eq_false_iff_ne.mpr c21
     have c21b1 : (((rd_T106 l0_0 x4_1).f0) != 0) = true := bne_iff_ne.mpr c21
     have H' := am H
     clear H
     have hnb27 := NB213_211.out
     have hnc27 := NB211_213.out
     obtain ⟨hcz28_0, hcz28_1, hfz28_0, hfz28_1⟩ := bk2 BK213.out
     go_wp2
     repeat (go_quiet (fail); try go_wp2)
     go_meet
     case rel => exact ⟨_, (true), (by first | rfl | (simp; done) | simp [*]), H', ⟨by have := HK1.out; first | omega | exact Nat.le_refl _⟩, ⟨vk BK211.out⟩, ⟨vk BK213.out⟩, ⟨vb HB.out⟩⟩
    rw [if_pos c21] at H
    have c21b0 : (((rd_T106 l0_0 x4_1).f0) == 0) = true := beq_iff_eq.mpr c21
    have c21b1 : (((rd_T106 l0_0 x4_1).f0) != 0) = false := bne_eq_false_iff_eq.mpr c21
    clear c21
    by_cases c22 : x4_1 > 0
    ·rw [if_pos c22] at H
     have c22b0 : decide (0 < x4_1) = true := de c22
     clear c22
     have H' := am H
     clear H
     have hnb23 := NB213_211.out
     have hnc23 := NB211_213.out
     obtain ⟨hcz24_0, hcz24_1, hfz24_0, hfz24_1⟩ := bk2 BK213.out
     go_wp2
     repeat (go_quiet (fail); try go_wp2)
     go_meet
     case rel => exact ⟨_, (decide (((rd_T106 l0_0 x4_1).f0) ≤ x3_1)), (by first | rfl | (simp; done) | simp [*]), H', ⟨by have := HK1.out; first | omega | exact Nat.le_refl _⟩, ⟨vk BK211.out⟩, ⟨vk BK213.out⟩, ⟨vb HB.out⟩⟩
    rw [if_neg c22] at H
    have c22b0 : decide (0 < x4_1) = false := df c22
    clear c22
    have H' := am H
    clear H
    have hnb25 := NB213_211.out
    have hnc25 := NB211_213.out
    obtain ⟨hcz26_0, hcz26_1, hfz26_0, hfz26_1⟩ := bk2 BK213.out
    go_wp2
    repeat (go_quiet (fail); try go_wp2)
    go_meet
    case rel => exact ⟨_, (false), (by first | rfl | (simp; done) | simp [*]), H', ⟨by have := HK1.out; first | omega | exact Nat.le_refl _⟩, ⟨vk BK211.out⟩, ⟨vk BK213.out⟩, ⟨vb HB.out⟩⟩
   case rest =>
    clear HC14
    (try clear c1); (try clear c2); (try clear c2b0); (try clear c2b1); (try clear p2); (try clear q2); (try clear hx2); (try clear c3); (try clear c5); (try clear c5b0); (try clear c5b1); (try clear c9); (try clear c10); (try clear c10b0); (try clear c11); (try clear c11b0); (try clear c13); (try clear c13b0); (try clear c13b1); (try clear c17); (try clear c20); (try clear c20b0); (try clear c20b1); (try clear c21); (try clear c21b0); (try clear c21b1); (try clear p21); (try clear q21); (try clear hx21); (try clear c22); (try clear c22b0); (try clear c23); (try clear c25); (try clear c27); (try clear c29); (try clear c29b0); (try clear c30); (try clear hcz15_0); (try clear hcz15_1); (try clear hcz18_0); (try clear hcz18_1); (try clear hcz24_0); (try clear hcz24_1); (try clear hcz26_0); (try clear hcz26_1); (try clear hcz28_0); (try clear hcz28_1); (try clear hcz31_0); (try clear hcz31_1); (try clear hcz4_0); (try clear hcz4_1); (try clear hcz7_0); (try clear hcz7_1); (try clear hcz9_0); (try clear hcz9_1); (try clear hfz15_0); (try clear hfz15_1); (try clear hfz18_0); (try clear hfz18_1); (try clear hfz24_0); (try clear hfz24_1); (try clear hfz26_0); (try clear hfz26_1); (try clear hfz28_0); (try clear hfz28_1); (try clear hfz31_0); (try clear hfz31_1); (try clear hfz4_0); (try clear hfz4_1); (try clear hfz7_0); (try clear hfz7_1); (try clear hfz9_0); (try clear hfz9_1); (try clear hx212_0); (try clear hx212_1); (try clear p2); (try clear p212); (try clear q212)
    obtain ⟨kq, x50_13, rfl, HA, HJ13, BK211, BK213, HB⟩ := hcut
    cases kq with
    | zero => exact absurd HA.out (by simp [Zbe.j1])
    | succ kj13 =>
     have H := HA.out
     clear HA
     simp only [Zbe.j1] at H
     by_cases c32 : x50_13 = true
     ·subst c32
      rw [if_pos rfl] at H
      obtain rfl := Option.some.inj H
      go_wp2
      repeat (go_quiet (fail); try go_wp2)
      go_ret
      exact ⟨by rfl, vb HB.out⟩
     replace c32 := Bool.eq_false_iff.mpr c32
     subst c32
     rw [if_neg (show ¬ (false = true) by decide)] at H
     by_cases c33 : 0 < (l0_0.length : Int)
     rotate_left
     ·rw [if_neg c33] at H
      exact absurd H (by simp)
     rw [if_pos c33] at H
     have c33b0 : decide (0 < (l0_0.length : Int)) = true := de c33
     have c33b1 : decide (0 < l0_0.length) = true := decide_eq_true (by omega)
     clear c33
     by_cases c34 : (((rd_T106 l0_0 x4_1).f1).length : Int) = (((rd_T106 l0_0 0).f1).length : Int)
     rotate_left
     ·rw [if_neg c34] at H
      have c34b0 : ((((rd_T106 l0_0 x4_1).f1).length : Int) == (((rd_T106 l0_0 0).f1).length : Int)) = false := beq_eq_false_iff_ne.mpr c34
      have c34b1 : ((((rd_T106 l0_0 x4_1).f1).length : Int) != (((rd_T106 l0_0 0).f1).length : Int)) = true := bne_iff_ne.mpr c34
      have c34b2 : (((rd_T106 l0_0 x4_1).f1).length == ((rd_T106 l0_0 0).f1).length) = false := by first | simpa using c34 | (simp at c34 ⊢; omega)
      obtain rfl := Option.some.inj H
      have hnb38 := NB213_211.out
      have hnc38 := NB211_213.out
      obtain ⟨hcz39_0, hcz39_1, hfz39_0, hfz39_1⟩ := bk2 BK213.out
      obtain ⟨hcz40_0, hcz40_1, hfz40_0, hfz40_1⟩ := bk2 BK211.out
      have p215 : 0 ≤ (0 : Int) := (by omega)
      have q215 : 0 < (l0_0.length : Int) := od (by with_reducible assumption)
      obtain ⟨ad215, A215_1, c215_1, e215, hx215_0, hx215_1, hl215_1, hi215_1⟩ := at_T106 HR0_0.out 0 p215 q215
      obtain rfl : ad212 = ad215 := (by injection e215)
      have qi215 : (0 < l0_0.length) = True := eq_true (by omega)
      (try rw [show ((0 : Int)).toNat = 0 from rfl] at hx215_0)
      (try rw [show 0 * 2 = 0 from rfl] at hx215_0)
      (try rw [Addr.add_zero'] at hx215_0)
      (try rw [show ((0 : Int)).toNat = 0 from rfl] at hx215_1)
      (try rw [show 0 * 2 = 0 from rfl] at hx215_1)
      (try rw [Addr.add_zero'] at hx215_1)
      replace hx215_0 := cb HB.out hx215_0
      replace hx215_1 := cb HB.out hx215_1
      have HR215_1 := am hi215_1
      have HC215_1 := am hl215_1
      clear hi215_1 hl215_1
      replace p215 := eq_true p215
      replace q215 := eq_true q215
      go_wp2
      repeat (go_quiet (fail); try go_wp2)
      go_ret
      exact ⟨by rfl, vb HB.out⟩
     rw [if_pos c34] at H
     have c34b0 : ((((rd_T106 l0_0 x4_1).f1).length : Int) == (((rd_T106 l0_0 0).f1).length : Int)) = true := beq_iff_eq.mpr c34
     have c34b1 : ((((rd_T106 l0_0 x4_1).f1).length : Int) != (((rd_T106 l0_0 0).f1).length : Int)) = false := bne_eq_false_iff_eq.mpr c34
     have c34b2 : (((rd_T106 l0_0 x4_1).f1).length == ((rd_T106 l0_0 0).f1).length) = true := by first | simpa using c34 | (simp at c34 ⊢; omega)
     clear c34
     have H' := am H
     clear H
     have hnb35 := NB213_211.out
     have hnc35 := NB211_213.out
     obtain ⟨hcz36_0, hcz36_1, hfz36_0, hfz36_1⟩ := bk2 BK213.out
     obtain ⟨hcz37_0, hcz37_1, hfz37_0, hfz37_1⟩ := bk2 BK211.out
     have p215 : 0 ≤ (0 : Int) := (by omega)
     have q215 : 0 < (l0_0.length : Int) := od (by with_reducible assumption)
     obtain ⟨ad215, A215_1, c215_1, e215, hx215_0, hx215_1, hl215_1, hi215_1⟩ := at_T106 HR0_0.out 0 p215 q215
     obtain rfl : ad212 = ad215 := (by injection e215)
     have qi215 : (0 < l0_0.length) = True := eq_true (by omega)
     (try rw [show ((0 : Int)).toNat = 0 from rfl] at hx215_0)
     (try rw [show 0 * 2 = 0 from rfl] at hx215_0)
     (try rw [Addr.add_zero'] at hx215_0)
     (try rw [show ((0 : Int)).toNat = 0 from rfl] at hx215_1)
     (try rw [show 0 * 2 = 0 from rfl] at hx215_1)
     (try rw [Addr.add_zero'] at hx215_1)
     replace hx215_0 := cb HB.out hx215_0
     replace hx215_1 := cb HB.out hx215_1
     have HR215_1 := am hi215_1
     have HC215_1 := am hl215_1
     clear hi215_1 hl215_1
     replace p215 := eq_true p215
     replace q215 := eq_true q215
     go_wp2
     repeat (go_quiet (fail); try go_wp2)
     go_roundg kj13
     case measure => have := HK1.out; have := HJ13.out; omega
     case rel => exact ⟨(((rd_T106 l0_0 x4_1).f0)), (wrap64 (x4_1 + 1)), (by first | rfl | (simp; done) | simp [*]), (by first | rfl | (simp; done) | simp [*]), H', ⟨by have := HK1.out; have := HJ13.out; omega⟩, ⟨vk BK211.out⟩, ⟨vb HB.out⟩⟩
def Zav.f (k : Nat) (a0 : ByteArray) : Option ((List (S106)) × (List (S165)) × Int) := (Zbl.f k a0).bind fun bt219 => (if bt219.2.2 = true then ((Zbe.f k bt219.1 bt219.2.1).bind fun t227 => (if t227 = 0 then (some (bt219.1, bt219.2.1, 0)) else (some (([] : List (S106)), ([] : List (S165)), t227)))) else (some (([] : List (S106)), ([] : List (S165)), 5)))
theorem Zav.calls (k : Nat) (a0 : ByteArray) (r1 : List (S106)) (r2 : List (S165)) (r3 : Int) (w : World) (h : Zav.f k a0 = some (r1, r2, r3)) :
  Calls Tryz.prog 73 #[.string a0] w fun e w' => ∃ v0_ v1_ : Value, e = .returned (.tuple #[.agg #[v0_, v1_], .int .i64 r3]) ∧ Kd.S k106 106 w' w.heap.size (fun _ => True) v0_ r1 ∧ Kd.R k165 165 w' w.heap.size (fun _ => True) v1_ r2 ∧ Below w.heap.size w w' := by
 have hu101 := Tryz.underlying101
 have HB := am (Below.refl w.heap.size w)
 have H : ((Zbl.f k a0).bind fun bt219 => (if bt219.2.2 = true then ((Zbe.f k bt219.1 bt219.2.1).bind fun t227 => (if t227 = 0 then (some (bt219.1, bt219.2.1, 0)) else (some (([] : List (S106)), ([] : List (S165)), t227)))) else (some (([] : List (S106)), ([] : List (S165)), 5)))) = some (r1, r2, r3) := h
 clear h
 replace H := be H
 obtain ⟨⟨t219, t222, t225⟩, A20, H⟩ := H
 try dsimp only at H
 have A2 := am A20
 clear A20
 by_cases c3 : t225 = true
 rotate_left
 ·replace c3 := Bool.eq_false_iff.mpr c3
  subst c3
  rw [if_neg (show ¬ (false = true) by decide)] at H
  simp only [Option.some.injEq, Prod.mk.injEq] at H
  obtain ⟨rfl, rfl, rfl⟩ := H
  go_enter Tryz.func73, Tryz.ntmps73
  go_wp2_with (first | ((with_reducible refine gate_dst (N := 2) rfl ?_); refine box_event ?hg (N := 2) ?hd (cs := #[.slice none 0 0, .slice none 0 0]) (t := 101) ?hr ?_; (case hd => rfl); (case hg => rfl); (case hr => go_simp <;> rfl); intro gb218 hg w25 hbox hb; have BK218 := am hbox; have GW218 := gef hg HB.out; have GE218 := gef hg HB.out; replace HB := bs HB.out hb; clear hb hbox hg) | ((with_reducible refine gate_callee (f := 96) rfl ?_); refine goesL_ (some 9) rfl rfl Tryz.func96 (by kernel_rfl) rfl #[.string a0] rfl (by (try simp only [mT, mC, mN]); first | done | rfl) ?_; (with_reducible refine (Zbl.calls k a0 t219 t222 false _ A2.out).mono ?_); rintro e w26 ⟨v220, v223, rfl, ho0, ho1, hb⟩; refine ⟨_, rfl, ?_⟩; have HO221 := am (Kd.S_lower ho0 (below_size (vb HB.out))); have HO224 := am (Kd.R_lower ho1 (below_size (vb HB.out))); replace BK218 := kb BK218.out hb; replace HB := bs HB.out hb; (try clear hb)) | ((with_reducible refine gate_dst (N := 4) rfl ?_); refine box_event ?hg (N := 4) ?hd (cs := #[.slice none 0 0, .slice none 0 0]) (t := 101) ?hr ?_; (case hd => rfl); (case hg => rfl); (case hr => go_simp <;> rfl); intro gb226 hg w27 hbox hb; replace HO221 := kS HO221.out hb; replace HO224 := kR HO224.out hb; have BK226 := am hbox; have GW226 := gef hg HB.out; have GE226 := gef hg HB.out; replace HB := bs HB.out hb; have NB218_226 := nl hg BK218.out; have NB226_218 := ng hg BK218.out; replace BK218 := kb BK218.out hb; clear hb hbox hg; obtain ⟨Ao28, co28, eo28⟩ := Kd.S_slice HO221.out; subst eo28; have hnb29 := NB226_218.out; have hnc29 := NB218_226.out; obtain ⟨hcz30_0, hcz30_1, hfz30_0, hfz30_1⟩ := bk2 BK226.out; obtain ⟨Ao31, co31, eo31⟩ := Kd.R_slice HO224.out; subst eo31; obtain ⟨hcz32_0, hcz32_1, hfz32_0, hfz32_1⟩ := bk2 BK218.out))
  refine bodyPost_ret (results_ct rfl _ _ gb218 101 #[.slice none 0 0, .slice none 0 0] (0, 0) _ rfl (by exact (vt (bp (vt (bp (vt (bf (vt (bf (vt BK218.out) NB218_226.out)) NB218_226.out)) 0)) 1)).trans rfl) Tryz.underlying101 rfl (by kernel_rfl)) rfl ?_
  exact ⟨_, _, by rfl, by first | exact Kd.S_nil _ _ _ _ _ | exact Kd.N_nil _ _ _ _ _ | exact Kd.V_nil _ _ _ _ _ | exact Kd.Q_nil _ _ _ _ _ | exact Kd.R_nil _ _ _ _ _, by first | exact Kd.R_nil _ _ _ _ _ | exact Kd.N_nil _ _ _ _ _ | exact Kd.V_nil _ _ _ _ _ | exact Kd.Q_nil _ _ _ _ _ | exact Kd.S_nil _ _ _ _ _, vb HB.out⟩
 subst c3
 rw [if_pos rfl] at H
 replace H := be H
 obtain ⟨t227, A40, H⟩ := H
 try dsimp only at H
 have A4 := am A40
 clear A40
 by_cases c5 : t227 = 0
 rotate_left
 ·rw [if_neg c5] at H
  have c5b0 : (t227 == 0) = false := beq_eq_false_iff_ne.mpr c5
  have c5b1 : (t227 != 0) = true := bne_iff_ne.mpr c5
  simp only [Option.some.injEq, Prod.mk.injEq] at H
  obtain ⟨rfl, rfl, rfl⟩ := H
  go_enter Tryz.func73, Tryz.ntmps73
  go_wp2_with (first | ((with_reducible refine gate_dst (N := 2) rfl ?_); refine box_event ?hg (N := 2) ?hd (cs := #[.slice none 0 0, .slice none 0 0]) (t := 101) ?hr ?_; (case hd => rfl); (case hg => rfl); (case hr => go_simp <;> rfl); intro gb218 hg w16 hbox hb; have BK218 := am hbox; have GW218 := gef hg HB.out; have GE218 := gef hg HB.out; replace HB := bs HB.out hb; clear hb hbox hg) | ((with_reducible refine gate_callee (f := 96) rfl ?_); refine goesL_ (some 9) rfl rfl Tryz.func96 (by kernel_rfl) rfl #[.string a0] rfl (by (try simp only [mT, mC, mN]); first | done | rfl) ?_; (with_reducible refine (Zbl.calls k a0 t219 t222 true _ A2.out).mono ?_); rintro e w17 ⟨v220, v223, rfl, ho0, ho1, hb⟩; refine ⟨_, rfl, ?_⟩; have HO221 := am (Kd.S_lower ho0 (below_size (vb HB.out))); have HO224 := am (Kd.R_lower ho1 (below_size (vb HB.out))); replace BK218 := kb BK218.out hb; replace HB := bs HB.out hb; (try clear hb)) | ((with_reducible refine gate_dst (N := 4) rfl ?_); refine box_event ?hg (N := 4) ?hd (cs := #[.slice none 0 0, .slice none 0 0]) (t := 101) ?hr ?_; (case hd => rfl); (case hg => rfl); (case hr => go_simp <;> rfl); intro gb226 hg w18 hbox hb; replace HO221 := kS HO221.out hb; replace HO224 := kR HO224.out hb; have BK226 := am hbox; have GW226 := gef hg HB.out; have GE226 := gef hg HB.out; replace HB := bs HB.out hb; have NB218_226 := nl hg BK218.out; have NB226_218 := ng hg BK218.out; replace BK218 := kb BK218.out hb; clear hb hbox hg; obtain ⟨Ao19, co19, eo19⟩ := Kd.S_slice HO221.out; subst eo19; have hnb20 := NB226_218.out; have hnc20 := NB218_226.out; obtain ⟨hcz21_0, hcz21_1, hfz21_0, hfz21_1⟩ := bk2 BK226.out; obtain ⟨Ao22, co22, eo22⟩ := Kd.R_slice HO224.out; subst eo22) | ((with_reducible refine gate_callee (f := 97) rfl ?_); refine goesL_ (some 16) rfl rfl Tryz.func97 (by kernel_rfl) rfl #[.agg #[.slice Ao19 t219.length co19, .slice Ao22 t222.length co22]] rfl (by (try simp only [mT, mC, mN]); first | done | rfl) ?_; (with_reducible refine (Zbe.calls k _ _ t219 _ _ t222 t227 _ ?side1 ?side2 ?side3 ?side4 A4.out).mono ?_); (case side1 => refine (Kd.S_reads' (e := 106) (base := w.heap.size) (ok := fun k_ => True) (n := t219.length) (c := co19) ?_).2.2; exact (vS (Kd.S_mono (Kd.S_far (p := ⟨gb226, 1, none⟩) (Kd.S_far (p := ⟨gb226, 0, none⟩) (Kd.S_types HO221.out BK226.out (by decide)) (fun _ hk => hk.2) (.slice Ao19 t219.length co19)) (fun _ hk => hk.2) (.slice Ao22 t222.length co22)) (fun _ h_ => h_.1)))); (case side2 => exact (Kd.S_reads' HO221.out).2.1); (case side3 => refine (Kd.R_reads' (e := 165) (base := w.heap.size) (ok := fun k_ => True) (n := t222.length) (c := co22) ?_).2.2; exact (vR (Kd.R_mono (Kd.R_far (p := ⟨gb226, 1, none⟩) (Kd.R_far (p := ⟨gb226, 0, none⟩) (Kd.R_types HO224.out BK226.out (by decide)) (fun _ hk => hk.2) (.slice Ao19 t219.length co19)) (fun _ hk => hk.2) (.slice Ao22 t222.length co22)) (fun _ h_ => h_.1)))); (case side4 => exact (Kd.R_reads' HO224.out).2.1); rintro e w23 ⟨rfl, hb⟩; refine ⟨_, rfl, ?_⟩; replace HO221 := am (Kd.S_below (vS (Kd.S_mono (Kd.S_far (p := ⟨gb226, 1, none⟩) (Kd.S_far (p := ⟨gb226, 0, none⟩) (Kd.S_types HO221.out BK226.out (by decide)) (fun _ hk => hk.2) (.slice Ao19 t219.length co19)) (fun _ hk => hk.2) (.slice Ao22 t222.length co22)) (fun _ h_ => h_.1))) hb); replace HO224 := am (Kd.R_below (vR (Kd.R_mono (Kd.R_far (p := ⟨gb226, 1, none⟩) (Kd.R_far (p := ⟨gb226, 0, none⟩) (Kd.R_types HO224.out BK226.out (by decide)) (fun _ hk => hk.2) (.slice Ao19 t219.length co19)) (fun _ hk => hk.2) (.slice Ao22 t222.length co22)) (fun _ h_ => h_.1))) hb); replace BK218 := am (blk_below (g := gb218) (o := .cells #[.slice none 0 0, .slice none 0 0] 101 (0, 0)) (by exact vt (bf (vt (bf (vt BK218.out) NB218_226.out)) NB218_226.out)) hb); replace BK226 := am (blk_below (g := gb226) (o := .cells #[.slice Ao19 t219.length co19, .slice Ao22 t222.length co22] 101 (0, 0)) (by exact (vt (bp (vt (bp (vt BK226.out) 0)) 1)).trans rfl) hb); replace HB := bs HB.out hb; (try clear hb); (try clear hb2); (try clear hk); (try clear hi); obtain ⟨hcz24_0, hcz24_1, hfz24_0, hfz24_1⟩ := bk2 BK218.out))
  refine bodyPost_ret (results_ct rfl _ _ gb218 101 #[.slice none 0 0, .slice none 0 0] (0, 0) _ rfl (by exact (vt (bp (vt (bp (vt BK218.out) 0)) 1)).trans rfl) Tryz.underlying101 rfl (by kernel_rfl)) rfl ?_
  exact ⟨_, _, by rfl, by first | exact Kd.S_nil _ _ _ _ _ | exact Kd.N_nil _ _ _ _ _ | exact Kd.V_nil _ _ _ _ _ | exact Kd.Q_nil _ _ _ _ _ | exact Kd.R_nil _ _ _ _ _, by first | exact Kd.R_nil _ _ _ _ _ | exact Kd.N_nil _ _ _ _ _ | exact Kd.V_nil _ _ _ _ _ | exact Kd.Q_nil _ _ _ _ _ | exact Kd.S_nil _ _ _ _ _, vb HB.out⟩
 rw [if_pos c5] at H
 have c5b0 : (t227 == 0) = true := beq_iff_eq.mpr c5
 have c5b1 : (t227 != 0) = false := bne_eq_false_iff_eq.mpr c5
 clear c5
 simp only [Option.some.injEq, Prod.mk.injEq] at H
 obtain ⟨rfl, rfl, rfl⟩ := H
 go_enter Tryz.func73, Tryz.ntmps73
 go_wp2_with (first | ((with_reducible refine gate_dst (N := 2) rfl ?_); refine box_event ?hg (N := 2) ?hd (cs := #[.slice none 0 0, .slice none 0 0]) (t := 101) ?hr ?_; (case hd => rfl); (case hg => rfl); (case hr => go_simp <;> rfl); intro gb218 hg w6 hbox hb; have BK218 := am hbox; have GW218 := gef hg HB.out; have GE218 := gef hg HB.out; replace HB := bs HB.out hb; clear hb hbox hg) | ((with_reducible refine gate_callee (f := 96) rfl ?_); refine goesL_ (some 9) rfl rfl Tryz.func96 (by kernel_rfl) rfl #[.string a0] rfl (by (try simp only [mT, mC, mN]); first | done | rfl) ?_; (with_reducible refine (Zbl.calls k a0 t219 t222 true _ A2.out).mono ?_); rintro e w7 ⟨v220, v223, rfl, ho0, ho1, hb⟩; refine ⟨_, rfl, ?_⟩; have HO221 := am (Kd.S_lower ho0 (below_size (vb HB.out))); have HO224 := am (Kd.R_lower ho1 (below_size (vb HB.out))); replace BK218 := kb BK218.out hb; replace HB := bs HB.out hb; (try clear hb)) | ((with_reducible refine gate_dst (N := 4) rfl ?_); refine box_event ?hg (N := 4) ?hd (cs := #[.slice none 0 0, .slice none 0 0]) (t := 101) ?hr ?_; (case hd => rfl); (case hg => rfl); (case hr => go_simp <;> rfl); intro gb226 hg w8 hbox hb; replace HO221 := kS HO221.out hb; replace HO224 := kR HO224.out hb; have BK226 := am hbox; have GW226 := gef hg HB.out; have GE226 := gef hg HB.out; replace HB := bs HB.out hb; have NB218_226 := nl hg BK218.out; have NB226_218 := ng hg BK218.out; replace BK218 := kb BK218.out hb; clear hb hbox hg; obtain ⟨Ao9, co9, eo9⟩ := Kd.S_slice HO221.out; subst eo9; have hnb10 := NB226_218.out; have hnc10 := NB218_226.out; obtain ⟨hcz11_0, hcz11_1, hfz11_0, hfz11_1⟩ := bk2 BK226.out; obtain ⟨Ao12, co12, eo12⟩ := Kd.R_slice HO224.out; subst eo12) | ((with_reducible refine gate_callee (f := 97) rfl ?_); refine goesL_ (some 16) rfl rfl Tryz.func97 (by kernel_rfl) rfl #[.agg #[.slice Ao9 t219.length co9, .slice Ao12 t222.length co12]] rfl (by (try simp only [mT, mC, mN]); first | done | rfl) ?_; (with_reducible refine (Zbe.calls k _ _ t219 _ _ t222 t227 _ ?side1 ?side2 ?side3 ?side4 A4.out).mono ?_); (case side1 => refine (Kd.S_reads' (e := 106) (base := w.heap.size) (ok := fun k_ => True) (n := t219.length) (c := co9) ?_).2.2; exact (vS (Kd.S_mono (Kd.S_far (p := ⟨gb226, 1, none⟩) (Kd.S_far (p := ⟨gb226, 0, none⟩) (Kd.S_types HO221.out BK226.out (by decide)) (fun _ hk => hk.2) (.slice Ao9 t219.length co9)) (fun _ hk => hk.2) (.slice Ao12 t222.length co12)) (fun _ h_ => h_.1)))); (case side2 => exact (Kd.S_reads' HO221.out).2.1); (case side3 => refine (Kd.R_reads' (e := 165) (base := w.heap.size) (ok := fun k_ => True) (n := t222.length) (c := co12) ?_).2.2; exact (vR (Kd.R_mono (Kd.R_far (p := ⟨gb226, 1, none⟩) (Kd.R_far (p := ⟨gb226, 0, none⟩) (Kd.R_types HO224.out BK226.out (by decide)) (fun _ hk => hk.2) (.slice Ao9 t219.length co9)) (fun _ hk => hk.2) (.slice Ao12 t222.length co12)) (fun _ h_ => h_.1)))); (case side4 => exact (Kd.R_reads' HO224.out).2.1); rintro e w13 ⟨rfl, hb⟩; refine ⟨_, rfl, ?_⟩; replace HO221 := am (Kd.S_below (vS (Kd.S_mono (Kd.S_far (p := ⟨gb226, 1, none⟩) (Kd.S_far (p := ⟨gb226, 0, none⟩) (Kd.S_types HO221.out BK226.out (by decide)) (fun _ hk => hk.2) (.slice Ao9 t219.length co9)) (fun _ hk => hk.2) (.slice Ao12 t222.length co12)) (fun _ h_ => h_.1))) hb); replace HO224 := am (Kd.R_below (vR (Kd.R_mono (Kd.R_far (p := ⟨gb226, 1, none⟩) (Kd.R_far (p := ⟨gb226, 0, none⟩) (Kd.R_types HO224.out BK226.out (by decide)) (fun _ hk => hk.2) (.slice Ao9 t219.length co9)) (fun _ hk => hk.2) (.slice Ao12 t222.length co12)) (fun _ h_ => h_.1))) hb); replace BK218 := am (blk_below (g := gb218) (o := .cells #[.slice none 0 0, .slice none 0 0] 101 (0, 0)) (by exact vt (bf (vt (bf (vt BK218.out) NB218_226.out)) NB218_226.out)) hb); replace BK226 := am (blk_below (g := gb226) (o := .cells #[.slice Ao9 t219.length co9, .slice Ao12 t222.length co12] 101 (0, 0)) (by exact (vt (bp (vt (bp (vt BK226.out) 0)) 1)).trans rfl) hb); replace HB := bs HB.out hb; (try clear hb); (try clear hb2); (try clear hk); (try clear hi); have hcz14_0 : w13.cell? ⟨gb226, 0, none⟩ = some (.slice Ao9 t219.length co9) := (blk_cell BK226.out 0).trans rfl; have hcz14_1 : w13.cell? ⟨gb226, 1, none⟩ = some (.slice Ao12 t222.length co12) := (blk_cell BK226.out 1).trans rfl; have hfz14_0 := blk_frozen BK226.out 0; have hfz14_1 := blk_frozen BK226.out 1; obtain ⟨hcz15_0, hcz15_1, hfz15_0, hfz15_1⟩ := bk2 BK218.out))
 refine bodyPost_ret (results_ct rfl _ _ gb218 101 #[.slice Ao9 t219.length co9, .slice Ao12 t222.length co12] (0, 0) _ rfl (by exact (vt (bp (vt (bp (vt BK218.out) 0)) 1)).trans rfl) Tryz.underlying101 rfl (by kernel_rfl)) rfl ?_
 exact ⟨_, _, by rfl, vS (Kd.S_mono (Kd.S_far (p := ⟨gb218, 1, none⟩) (Kd.S_far (p := ⟨gb218, 0, none⟩) (Kd.S_types HO221.out BK218.out (by decide)) (fun _ hk => hk.2) (.slice Ao9 t219.length co9)) (fun _ hk => hk.2) (.slice Ao12 t222.length co12)) (fun _ hk => trivial)), vR (Kd.R_mono (Kd.R_far (p := ⟨gb218, 1, none⟩) (Kd.R_far (p := ⟨gb218, 0, none⟩) (Kd.R_types HO224.out BK218.out (by decide)) (fun _ hk => hk.2) (.slice Ao9 t219.length co9)) (fun _ hk => hk.2) (.slice Ao12 t222.length co12)) (fun _ hk => trivial)), vb HB.out⟩
end Go.Proofs.YtjgifmakhnkmdaaGreatDoor.XRep
