import Derived.Test.YtjgifmakhnkmdaaGreatDoorZXRepx0
import Derived.Test.YtjgifmakhnkmdaaGreatDoorZXRepx5
import Derived.Test.YtjgifmakhnkmdaaGreatDoorZCmp
namespace Go.Proofs.YtjgifmakhnkmdaaGreatDoor.XRep
open Go.RowKit Go.Proofs.YtjgifmakhnkmdaaGreatDoorW.PrintWords Go.Proofs.YtjgifmakhnkmdaaGreatDoorW.PrintLast Go.Proofs.YtjgifmakhnkmdaaGreatDoorW.PrintMore Go.Proofs.YtjgifmakhnkmdaaGreatDoor.Cmp
set_option linter.unusedVariables false
set_option linter.unusedSimpArgs false
mutual
def Zbc.l0 : Nat → List (S165) → Int → Option (Int)
 | 0, _, _ => none
 | k + 1, x0, x3 => if x3 < (x0.length : Int) then (if 0 ≤ x3 then (if ((rd_T165 x0 x3).f0) < 1 then (Zbc.j1 k x0 x3 true) else (Zbc.j1 k x0 x3 (decide (((rd_T165 x0 x3).f0) > 6)))) else (none)) else (some 0)
def Zbc.j1 : Nat → List (S165) → Int → Bool → Option (Int)
 | 0, _, _, _ => none
 | k + 1, x0, x3, x13 => if x13 = true then (some 10) else (if 0 ≤ x3 then (if x3 < (x0.length : Int) then ((Zbd.f ((rd_T165 x0 x3).f1.f0.f0) ((rd_T165 x0 x3).f1.f0.f1) ((rd_T165 x0 x3).f1.f1.f0) ((rd_T165 x0 x3).f1.f1.f1) ((rd_T165 x0 x3).f1.f2.f0) ((rd_T165 x0 x3).f1.f2.f1)).bind fun t208 => (if t208 = true then (some 19) else ((Zau.f ((rd_T165 x0 x3).f1.f0.f0) ((rd_T165 x0 x3).f1.f0.f1) ((rd_T165 x0 x3).f1.f1.f0) ((rd_T165 x0 x3).f1.f1.f1) ((rd_T165 x0 x3).f1.f2.f0) ((rd_T165 x0 x3).f1.f2.f1)).bind fun t210 => (if t210 = true then (Zbc.l0 k x0 (wrap64 (x3 + 1))) else (some 9))))) else (none)) else (none))
end
def Zbc.f (k : Nat) (l0 : List (S165)) : Option (Int) := if (l0.length : Int) > 64 then (some 4) else (Zbc.l0 k l0 0)
set_option maxHeartbeats 8000000 in
set_option maxRecDepth 100000 in
theorem Zbc.calls (k : Nat) (A0 : Option Addr) (c0 : Nat) (l0 : List (S165)) (r : Int) (w : World) (hr0 : Kd.C k165 w A0 l0.length l0) (hc0 : l0.length ≤ c0) (h : Zbc.f k l0 = some r) :
  Calls Tryz.prog 117 #[.slice A0 l0.length c0] w fun e w' => e = .returned (.int .i64 r) ∧ Below w.heap.size w w' := by
 have hu163 := Tryz.underlying163
 have HR0 := am hr0
 have HC0 := am hc0
 clear hr0 hc0
 have HB := am (Below.refl w.heap.size w)
 have H : (if (l0.length : Int) > 64 then (some 4) else (Zbc.l0 k l0 0)) = some r := h
 clear h
 by_cases c2 : (l0.length : Int) > 64
 ·rw [if_pos c2] at H
  have c2b0 : decide (64 < (l0.length : Int)) = true := de c2
  have c2b1 : decide (64 < l0.length) = true := decide_eq_true (by omega)
  clear c2
  obtain rfl := Option.some.inj H
  go_enter Tryz.func117, Tryz.ntmps117
  go_wp2
  go_ret
  exact ⟨by rfl, vb HB.out⟩
 rw [if_neg c2] at H
 have c2b0 : decide (64 < (l0.length : Int)) = false := df c2
 have c2b1 : decide (64 < l0.length) = false := decide_eq_false (by omega)
 clear c2
 have H' := am H
 clear H
 go_enter Tryz.func117, Tryz.ntmps117
 go_wp2
 go_loopg [3] k (fun kq v3 w' => ∃ (x3_1 : Int), v3 = .int .i64 x3_1 ∧ Aside0 (Zbc.l0 kq l0 x3_1 = some r) ∧ Aside0 (kq ≤ k) ∧ Aside0 (Below w.heap.size w w'))
 case atStart => exact ⟨(0), (by first | rfl | (simp; done) | simp [*]), H', ⟨Nat.le_refl _⟩, ⟨vb HB.out⟩⟩
 case round =>
  clear H'
  (try clear c1); (try clear c2); (try clear c2b0); (try clear c2b1); (try clear p2)
  obtain ⟨x3_1, rfl, HA, HK1, HB⟩ := hrel
  cases gk with
  | zero => exact absurd HA.out (by simp [Zbc.l0])
  | succ k1 =>
   have H := HA.out
   clear HA
   simp only [Zbc.l0] at H
   by_cases c3 : x3_1 < (l0.length : Int)
   rotate_left
   ·rw [if_neg c3] at H
    have c3b0 : decide (x3_1 < (l0.length : Int)) = false := df c3
    clear c3
    obtain rfl := Option.some.inj H
    go_wp2
    go_ret
    exact ⟨by rfl, vb HB.out⟩
   rw [if_pos c3] at H
   have c3b0 : decide (x3_1 < (l0.length : Int)) = true := de c3
   clear c3
   have HC4 := am H
   clear H
   go_upto_region 6 with (fail)
   go_cut [13] (fun v13 wc => ∃ (kq : Nat) (x13_3 : Bool), v13 = .bool x13_3 ∧ Aside0 (Zbc.j1 kq l0 x3_1 x13_3 = some r) ∧ Aside0 (kq ≤ k1) ∧ Aside0 (Below w.heap.size w wc))
   case first =>
    have H := HC4.out
    clear HC4
    by_cases c5 : 0 ≤ x3_1
    rotate_left
    ·rw [if_neg c5] at H
     exact absurd H (by simp)
    rw [if_pos c5] at H
    have c5b0 : decide (0 ≤ x3_1) = true := de c5
    clear c5
    (first | rw [c5b0] | (simp only [i64_w]; rw [c5b0]) | skip)
    by_cases c6 : ((rd_T165 l0 x3_1).f0) < 1
    ·rw [if_pos c6] at H
     have c6b0 : decide (((rd_T165 l0 x3_1).f0) < 1) = true := de c6
     clear c6
     have H' := am H
     clear H
     have p205 : 0 ≤ (x3_1 : Int) := od (by with_reducible assumption)
     have q205 : x3_1 < (l0.length : Int) := od (by with_reducible assumption)
     obtain ⟨ad205, e205, hx205_0, hx205_1, hx205_2, hx205_3, hx205_4, hx205_5, hx205_6⟩ := at_T165 HR0.out x3_1 p205 q205
     cases e205
     replace hx205_0 := cb HB.out hx205_0
     replace hx205_1 := cb HB.out hx205_1
     replace hx205_2 := cb HB.out hx205_2
     replace hx205_3 := cb HB.out hx205_3
     replace hx205_4 := cb HB.out hx205_4
     replace hx205_5 := cb HB.out hx205_5
     replace hx205_6 := cb HB.out hx205_6
     replace p205 := eq_true p205
     replace q205 := eq_true q205
     go_wp2
     go_meet
     case rel => exact ⟨_, (true), (by first | rfl | (simp; done) | simp [*]), H', ⟨by have := HK1.out; first | omega | exact Nat.le_refl _⟩, ⟨vb HB.out⟩⟩
    rw [if_neg c6] at H
    have c6b0 : decide (((rd_T165 l0 x3_1).f0) < 1) = false := df c6
    clear c6
    have H' := am H
    clear H
    have p205 : 0 ≤ (x3_1 : Int) := od (by with_reducible assumption)
    have q205 : x3_1 < (l0.length : Int) := od (by with_reducible assumption)
    obtain ⟨ad205, e205, hx205_0, hx205_1, hx205_2, hx205_3, hx205_4, hx205_5, hx205_6⟩ := at_T165 HR0.out x3_1 p205 q205
    cases e205
    replace hx205_0 := cb HB.out hx205_0
    replace hx205_1 := cb HB.out hx205_1
    replace hx205_2 := cb HB.out hx205_2
    replace hx205_3 := cb HB.out hx205_3
    replace hx205_4 := cb HB.out hx205_4
    replace hx205_5 := cb HB.out hx205_5
    replace hx205_6 := cb HB.out hx205_6
    replace p205 := eq_true p205
    replace q205 := eq_true q205
    have p206 : 0 ≤ (x3_1 : Int) := od (by with_reducible assumption)
    have q206 : x3_1 < (l0.length : Int) := od (by with_reducible assumption)
    obtain ⟨ad206, e206, hx206_0, hx206_1, hx206_2, hx206_3, hx206_4, hx206_5, hx206_6⟩ := at_T165 HR0.out x3_1 p206 q206
    obtain rfl : ad205 = ad206 := (by injection e206)
    replace hx206_0 := cb HB.out hx206_0
    replace hx206_1 := cb HB.out hx206_1
    replace hx206_2 := cb HB.out hx206_2
    replace hx206_3 := cb HB.out hx206_3
    replace hx206_4 := cb HB.out hx206_4
    replace hx206_5 := cb HB.out hx206_5
    replace hx206_6 := cb HB.out hx206_6
    replace p206 := eq_true p206
    replace q206 := eq_true q206
    go_wp2
    go_meet
    case rel => exact ⟨_, (decide (((rd_T165 l0 x3_1).f0) > 6)), (by first | rfl | (simp; done) | simp [*]), H', ⟨by have := HK1.out; first | omega | exact Nat.le_refl _⟩, ⟨vb HB.out⟩⟩
   case rest =>
    clear HC4
    (try clear c1); (try clear c2); (try clear c2b0); (try clear c2b1); (try clear p2); (try clear q2); (try clear hx2); (try clear c3); (try clear c3b0); (try clear c5); (try clear c5b0); (try clear c6); (try clear c6b0); (try clear hx205_0); (try clear hx205_1); (try clear hx205_2); (try clear hx205_3); (try clear hx205_4); (try clear hx205_5); (try clear hx205_6); (try clear hx206_0); (try clear hx206_1); (try clear hx206_2); (try clear hx206_3); (try clear hx206_4); (try clear hx206_5); (try clear hx206_6); (try clear p2); (try clear p205); (try clear p206); (try clear q205); (try clear q206)
    obtain ⟨kq, x13_3, rfl, HA, HJ3, HB⟩ := hcut
    cases kq with
    | zero => exact absurd HA.out (by simp [Zbc.j1])
    | succ kj3 =>
     have H := HA.out
     clear HA
     simp only [Zbc.j1] at H
     by_cases c7 : x13_3 = true
     ·subst c7
      rw [if_pos rfl] at H
      obtain rfl := Option.some.inj H
      go_wp2
      go_ret
      exact ⟨by rfl, vb HB.out⟩
     replace c7 := Bool.eq_false_iff.mpr c7
     subst c7
     rw [if_neg (show ¬ (false = true) by decide)] at H
     by_cases c8 : 0 ≤ x3_1
     rotate_left
     ·rw [if_neg c8] at H
      exact absurd H (by simp)
     rw [if_pos c8] at H
     have c8b0 : decide (0 ≤ x3_1) = true := de c8
     clear c8
     by_cases c9 : x3_1 < (l0.length : Int)
     rotate_left
     ·rw [if_neg c9] at H
      exact absurd H (by simp)
     rw [if_pos c9] at H
     have c9b0 : decide (x3_1 < (l0.length : Int)) = true := de c9
     clear c9
     replace H := be H
     obtain ⟨t208, A100, H⟩ := H
     try dsimp only at H
     have A10 := am A100
     clear A100
     by_cases c11 : t208 = true
     ·subst c11
      rw [if_pos rfl] at H
      obtain rfl := Option.some.inj H
      have p207 : 0 ≤ (x3_1 : Int) := od (by with_reducible assumption)
      have q207 : x3_1 < (l0.length : Int) := od (by with_reducible assumption)
      obtain ⟨ad207, e207, hx207_0, hx207_1, hx207_2, hx207_3, hx207_4, hx207_5, hx207_6⟩ := at_T165 HR0.out x3_1 p207 q207
      cases e207
      replace hx207_0 := cb HB.out hx207_0
      replace hx207_1 := cb HB.out hx207_1
      replace hx207_2 := cb HB.out hx207_2
      replace hx207_3 := cb HB.out hx207_3
      replace hx207_4 := cb HB.out hx207_4
      replace hx207_5 := cb HB.out hx207_5
      replace hx207_6 := cb HB.out hx207_6
      replace p207 := eq_true p207
      replace q207 := eq_true q207
      go_wp2_with (first | ((with_reducible refine gate_callee (f := 132) rfl ?_); refine goesL_ (some 34) rfl rfl Tryz.func132 (by kernel_rfl) rfl #[.agg #[.int .i64 ((rd_T165 l0 x3_1).f1.f0.f0), .int .i64 ((rd_T165 l0 x3_1).f1.f0.f1), .int .i64 ((rd_T165 l0 x3_1).f1.f1.f0), .int .i64 ((rd_T165 l0 x3_1).f1.f1.f1), .int .i64 ((rd_T165 l0 x3_1).f1.f2.f0), .int .i64 ((rd_T165 l0 x3_1).f1.f2.f1)]] rfl (by (try simp only [mT, mC, mN]); first | done | rfl) ?_; (with_reducible refine (Zbd.calls ((rd_T165 l0 x3_1).f1.f0.f0) ((rd_T165 l0 x3_1).f1.f0.f1) ((rd_T165 l0 x3_1).f1.f1.f0) ((rd_T165 l0 x3_1).f1.f1.f1) ((rd_T165 l0 x3_1).f1.f2.f0) ((rd_T165 l0 x3_1).f1.f2.f1) true _ A10.out).mono ?_); rintro e w12 ⟨rfl, hb⟩; refine ⟨_, rfl, ?_⟩; replace HB := bs HB.out hb; (try clear hb)))
      go_ret
      exact ⟨by rfl, vb HB.out⟩
     replace c11 := Bool.eq_false_iff.mpr c11
     subst c11
     rw [if_neg (show ¬ (false = true) by decide)] at H
     replace H := be H
     obtain ⟨t210, A130, H⟩ := H
     try dsimp only at H
     have A13 := am A130
     clear A130
     by_cases c14 : t210 = true
     rotate_left
     ·replace c14 := Bool.eq_false_iff.mpr c14
      subst c14
      rw [if_neg (show ¬ (false = true) by decide)] at H
      obtain rfl := Option.some.inj H
      have p207 : 0 ≤ (x3_1 : Int) := od (by with_reducible assumption)
      have q207 : x3_1 < (l0.length : Int) := od (by with_reducible assumption)
      obtain ⟨ad207, e207, hx207_0, hx207_1, hx207_2, hx207_3, hx207_4, hx207_5, hx207_6⟩ := at_T165 HR0.out x3_1 p207 q207
      cases e207
      replace hx207_0 := cb HB.out hx207_0
      replace hx207_1 := cb HB.out hx207_1
      replace hx207_2 := cb HB.out hx207_2
      replace hx207_3 := cb HB.out hx207_3
      replace hx207_4 := cb HB.out hx207_4
      replace hx207_5 := cb HB.out hx207_5
      replace hx207_6 := cb HB.out hx207_6
      replace p207 := eq_true p207
      replace q207 := eq_true q207
      go_wp2_with (first | ((with_reducible refine gate_callee (f := 132) rfl ?_); refine goesL_ (some 34) rfl rfl Tryz.func132 (by kernel_rfl) rfl #[.agg #[.int .i64 ((rd_T165 l0 x3_1).f1.f0.f0), .int .i64 ((rd_T165 l0 x3_1).f1.f0.f1), .int .i64 ((rd_T165 l0 x3_1).f1.f1.f0), .int .i64 ((rd_T165 l0 x3_1).f1.f1.f1), .int .i64 ((rd_T165 l0 x3_1).f1.f2.f0), .int .i64 ((rd_T165 l0 x3_1).f1.f2.f1)]] rfl (by (try simp only [mT, mC, mN]); first | done | rfl) ?_; (with_reducible refine (Zbd.calls ((rd_T165 l0 x3_1).f1.f0.f0) ((rd_T165 l0 x3_1).f1.f0.f1) ((rd_T165 l0 x3_1).f1.f1.f0) ((rd_T165 l0 x3_1).f1.f1.f1) ((rd_T165 l0 x3_1).f1.f2.f0) ((rd_T165 l0 x3_1).f1.f2.f1) false _ A10.out).mono ?_); rintro e w17 ⟨rfl, hb⟩; refine ⟨_, rfl, ?_⟩; replace HB := bs HB.out hb; (try clear hb); (try clear hb2); (try clear hk); (try clear hi); have p209 : 0 ≤ (x3_1 : Int) := od (by with_reducible assumption); have q209 : x3_1 < (l0.length : Int) := od (by with_reducible assumption); obtain ⟨ad209, e209, hx209_0, hx209_1, hx209_2, hx209_3, hx209_4, hx209_5, hx209_6⟩ := at_T165 HR0.out x3_1 p209 q209; obtain rfl : ad207 = ad209 := (by injection e209); replace hx209_0 := cb HB.out hx209_0; replace hx209_1 := cb HB.out hx209_1; replace hx209_2 := cb HB.out hx209_2; replace hx209_3 := cb HB.out hx209_3; replace hx209_4 := cb HB.out hx209_4; replace hx209_5 := cb HB.out hx209_5; replace hx209_6 := cb HB.out hx209_6; replace p209 := eq_true p209; replace q209 := eq_true q209) | ((with_reducible refine gate_callee (f := 133) rfl ?_); refine goesL_ (some 41) rfl rfl Tryz.func133 (by kernel_rfl) rfl #[.agg #[.int .i64 ((rd_T165 l0 x3_1).f1.f0.f0), .int .i64 ((rd_T165 l0 x3_1).f1.f0.f1), .int .i64 ((rd_T165 l0 x3_1).f1.f1.f0), .int .i64 ((rd_T165 l0 x3_1).f1.f1.f1), .int .i64 ((rd_T165 l0 x3_1).f1.f2.f0), .int .i64 ((rd_T165 l0 x3_1).f1.f2.f1)]] rfl (by (try simp only [mT, mC, mN]); first | done | rfl) ?_; (with_reducible refine (Zau.calls ((rd_T165 l0 x3_1).f1.f0.f0) ((rd_T165 l0 x3_1).f1.f0.f1) ((rd_T165 l0 x3_1).f1.f1.f0) ((rd_T165 l0 x3_1).f1.f1.f1) ((rd_T165 l0 x3_1).f1.f2.f0) ((rd_T165 l0 x3_1).f1.f2.f1) false _ A13.out).mono ?_); rintro e w18 ⟨rfl, hb⟩; refine ⟨_, rfl, ?_⟩; replace HB := bs HB.out hb; (try clear hb)))
      go_ret
      exact ⟨by rfl, vb HB.out⟩
     subst c14
     rw [if_pos rfl] at H
     have H' := am H
     clear H
     have p207 : 0 ≤ (x3_1 : Int) := od (by with_reducible assumption)
     have q207 : x3_1 < (l0.length : Int) := od (by with_reducible assumption)
     obtain ⟨ad207, e207, hx207_0, hx207_1, hx207_2, hx207_3, hx207_4, hx207_5, hx207_6⟩ := at_T165 HR0.out x3_1 p207 q207
     cases e207
     replace hx207_0 := cb HB.out hx207_0
     replace hx207_1 := cb HB.out hx207_1
     replace hx207_2 := cb HB.out hx207_2
     replace hx207_3 := cb HB.out hx207_3
     replace hx207_4 := cb HB.out hx207_4
     replace hx207_5 := cb HB.out hx207_5
     replace hx207_6 := cb HB.out hx207_6
     replace p207 := eq_true p207
     replace q207 := eq_true q207
     go_wp2_with (first | ((with_reducible refine gate_callee (f := 132) rfl ?_); refine goesL_ (some 34) rfl rfl Tryz.func132 (by kernel_rfl) rfl #[.agg #[.int .i64 ((rd_T165 l0 x3_1).f1.f0.f0), .int .i64 ((rd_T165 l0 x3_1).f1.f0.f1), .int .i64 ((rd_T165 l0 x3_1).f1.f1.f0), .int .i64 ((rd_T165 l0 x3_1).f1.f1.f1), .int .i64 ((rd_T165 l0 x3_1).f1.f2.f0), .int .i64 ((rd_T165 l0 x3_1).f1.f2.f1)]] rfl (by (try simp only [mT, mC, mN]); first | done | rfl) ?_; (with_reducible refine (Zbd.calls ((rd_T165 l0 x3_1).f1.f0.f0) ((rd_T165 l0 x3_1).f1.f0.f1) ((rd_T165 l0 x3_1).f1.f1.f0) ((rd_T165 l0 x3_1).f1.f1.f1) ((rd_T165 l0 x3_1).f1.f2.f0) ((rd_T165 l0 x3_1).f1.f2.f1) false _ A10.out).mono ?_); rintro e w15 ⟨rfl, hb⟩; refine ⟨_, rfl, ?_⟩; replace HB := bs HB.out hb; (try clear hb); (try clear hb2); (try clear hk); (try clear hi); have p209 : 0 ≤ (x3_1 : Int) := od (by with_reducible assumption); have q209 : x3_1 < (l0.length : Int) := od (by with_reducible assumption); obtain ⟨ad209, e209, hx209_0, hx209_1, hx209_2, hx209_3, hx209_4, hx209_5, hx209_6⟩ := at_T165 HR0.out x3_1 p209 q209; obtain rfl : ad207 = ad209 := (by injection e209); replace hx209_0 := cb HB.out hx209_0; replace hx209_1 := cb HB.out hx209_1; replace hx209_2 := cb HB.out hx209_2; replace hx209_3 := cb HB.out hx209_3; replace hx209_4 := cb HB.out hx209_4; replace hx209_5 := cb HB.out hx209_5; replace hx209_6 := cb HB.out hx209_6; replace p209 := eq_true p209; replace q209 := eq_true q209) | ((with_reducible refine gate_callee (f := 133) rfl ?_); refine goesL_ (some 41) rfl rfl Tryz.func133 (by kernel_rfl) rfl #[.agg #[.int .i64 ((rd_T165 l0 x3_1).f1.f0.f0), .int .i64 ((rd_T165 l0 x3_1).f1.f0.f1), .int .i64 ((rd_T165 l0 x3_1).f1.f1.f0), .int .i64 ((rd_T165 l0 x3_1).f1.f1.f1), .int .i64 ((rd_T165 l0 x3_1).f1.f2.f0), .int .i64 ((rd_T165 l0 x3_1).f1.f2.f1)]] rfl (by (try simp only [mT, mC, mN]); first | done | rfl) ?_; (with_reducible refine (Zau.calls ((rd_T165 l0 x3_1).f1.f0.f0) ((rd_T165 l0 x3_1).f1.f0.f1) ((rd_T165 l0 x3_1).f1.f1.f0) ((rd_T165 l0 x3_1).f1.f1.f1) ((rd_T165 l0 x3_1).f1.f2.f0) ((rd_T165 l0 x3_1).f1.f2.f1) true _ A13.out).mono ?_); rintro e w16 ⟨rfl, hb⟩; refine ⟨_, rfl, ?_⟩; replace HB := bs HB.out hb; (try clear hb)))
     go_roundg kj3
     case measure => have := HK1.out; have := HJ3.out; omega
     case rel => exact ⟨(wrap64 (x3_1 + 1)), (by first | rfl | (simp; done) | simp [*]), H', ⟨by have := HK1.out; have := HJ3.out; omega⟩, ⟨vb HB.out⟩⟩
end Go.Proofs.YtjgifmakhnkmdaaGreatDoor.XRep
