import Derived.Test.YtjgifmakhnkmdaaGreatDoorZExtP
import Derived.Test.YtjgifmakhnkmdaaGreatDoorZCmp
namespace Go.Proofs.YtjgifmakhnkmdaaGreatDoor.XRep
set_option maxHeartbeats 8000000
set_option maxRecDepth 100000
open Go.RowKit Go.Proofs.YtjgifmakhnkmdaaGreatDoorW.PrintWords Go.Proofs.YtjgifmakhnkmdaaGreatDoorW.PrintLast Go.Proofs.YtjgifmakhnkmdaaGreatDoorW.PrintMore Go.Proofs.YtjgifmakhnkmdaaGreatDoor.Cmp
set_option linter.unusedVariables false
set_option linter.unusedSimpArgs false
def Zah.f (a0 : Int) : Option (Bool) := if a0 ≥ 65 then (some (decide (a0 ≤ 90))) else (some false)
theorem Zah.calls (a0 : Int) (r : Bool) (w : World) (h : Zah.f a0 = some r) :
  Calls Tryz.prog 74 #[.int .u8 a0] w fun e w' => e = .returned (.bool r) ∧ Drawn0 w w' := by
 have H : (if a0 ≥ 65 then (some (decide (a0 ≤ 90))) else (some false)) = some r := h
 clear h
 by_cases c2 : a0 ≥ 65
 ·rw [if_pos c2] at H
  have c2b0 : decide (65 ≤ a0) = true := de c2
  clear c2
  obtain rfl := Option.some.inj H
  go_enter Tryz.func74, Tryz.ntmps74
  go_wp2
  go_ret
  exact ⟨by first | rfl | (simp; done) | (simp [*]; done), by repeat (first | exact Drawn0.refl _ | apply Drawn0.step)⟩
 rw [if_neg c2] at H
 have c2b0 : decide (65 ≤ a0) = false := df c2
 clear c2
 obtain rfl := Option.some.inj H
 go_enter Tryz.func74, Tryz.ntmps74
 go_wp2
 go_ret
 exact ⟨by first | rfl | (simp; done) | (simp [*]; done), by repeat (first | exact Drawn0.refl _ | apply Drawn0.step)⟩
def Zaq.l0 : Nat → ByteArray → Int → Int → Option (Int)
 | 0, _, _, _ => none
 | k + 1, x0, x3, x4 => if x4 < (x0.size : Int) then (if 0 ≤ x4 then (Zaq.l0 k x0 (Int.tmod (wrap64 (x3 + (wrap64 ((Int.tmod (wrap64 (x4 + 1)) 23) * (wrap64 (bt x0 x4)))))) 23) (wrap64 (x4 + 1))) else (none)) else (some ((wrap64 (65 + x3)) % 256))
def Zaq.f (k : Nat) (a0 : ByteArray) : Option (Int) := Zaq.l0 k a0 0 0
theorem Zaq.calls (k : Nat) (a0 : ByteArray) (r : Int) (w : World) (h : Zaq.f k a0 = some r) :
  Calls Tryz.prog 75 #[.string a0] w fun e w' => e = .returned (.int .u8 r) ∧ Drawn0 w w' := by
 have H : (Zaq.l0 k a0 0 0) = some r := h
 clear h
 have H' := am H
 clear H
 go_enter Tryz.func75, Tryz.ntmps75
 go_wp2
 go_loopg [3, 4] k (fun kq v3 v4 w' => ∃ (x3_1 : Int) (x4_1 : Int), v3 = .int .i64 x3_1 ∧ v4 = .int .i64 x4_1 ∧ Aside0 (Zaq.l0 kq a0 x3_1 x4_1 = some r) ∧ Aside0 (kq ≤ k) ∧ Drawn0 w w')
 case atStart => exact ⟨(0), (0), (by first | rfl | (simp; done) | simp [*]), (by first | rfl | (simp; done) | simp [*]), H', ⟨Nat.le_refl _⟩, by repeat (first | exact Drawn0.refl _ | apply Drawn0.step)⟩
 case round =>
  clear H'
  obtain ⟨x3_1, x4_1, rfl, rfl, HA, HK1, ⟨m1, rfl⟩⟩ := hrel
  cases gk with
  | zero => exact absurd HA.out (by simp [Zaq.l0])
  | succ k1 =>
   have H := HA.out
   clear HA
   simp only [Zaq.l0] at H
   by_cases c2 : x4_1 < (a0.size : Int)
   rotate_left
   ·rw [if_neg c2] at H
    have c2b0 : decide (x4_1 < (a0.size : Int)) = false := df c2
    clear c2
    obtain rfl := Option.some.inj H
    go_wp2
    go_ret
    exact ⟨by first | rfl | (simp; done) | (simp [*]; done), by repeat (first | exact Drawn0.refl _ | apply Drawn0.step)⟩
   rw [if_pos c2] at H
   have c2b0 : decide (x4_1 < (a0.size : Int)) = true := de c2
   clear c2
   by_cases c3 : 0 ≤ x4_1
   rotate_left
   ·rw [if_neg c3] at H
    exact absurd H (by simp)
   rw [if_pos c3] at H
   have c3b0 : decide (0 ≤ x4_1) = true := de c3
   clear c3
   have H' := am H
   clear H
   have p4 : 0 ≤ (x4_1 : Int) := od (by with_reducible assumption)
   have q4 : x4_1 < (a0.size : Int) := od (by with_reducible assumption)
   have hx4 := bt_at a0 x4_1
   replace p4 := eq_true p4
   replace q4 := eq_true q4
   go_wp2
   go_roundg k1
   case measure => have := HK1.out; omega
   case rel => exact ⟨(Int.tmod (wrap64 (x3_1 + (wrap64 ((Int.tmod (wrap64 (x4_1 + 1)) 23) * (wrap64 (bt a0 x4_1)))))) 23), (wrap64 (x4_1 + 1)), (by first | rfl | (simp; done) | simp [*]), (by first | rfl | (simp; done) | simp [*]), H', ⟨by have := HK1.out; omega⟩, by repeat (first | exact Drawn0.refl _ | apply Drawn0.step)⟩
mutual
def Zbh.j0 : Nat → Int → Int → Bool → Option (ByteArray × Int)
 | 0, _, _, _ => none
 | k + 1, x0, x1, x16 => if x16 = true then (some ((⟨#[]⟩ : ByteArray), 9)) else (Zbh.l0 k x1 (strOfNums (([x0] : List Int))) 100000)
def Zbh.l0 : Nat → Int → ByteArray → Int → Option (ByteArray × Int)
 | 0, _, _, _ => none
 | k + 1, x1, x6, x7 => if x7 > 0 then (if x7 = 0 then (none) else ((some (([(wrap64 (48 + (Int.tmod (wrap64 (Int.tdiv x1 x7)) 10))) % 256] : List Int) : List Int)).bind fun y253 => (if x6.size + (strOfNums y253).size ≤ 9223372036854775807 then (Zbh.l0 k x1 (x6 ++ (strOfNums y253)) (wrap64 (Int.tdiv x7 10))) else (none)))) else ((Zaq.f k x6).bind fun t256 => ((some (([t256] : List Int) : List Int)).bind fun y257 => (if x6.size + (strOfNums y257).size ≤ 9223372036854775807 then (some (x6 ++ (strOfNums y257), 0)) else (none))))
end
def Zbh.f (k : Nat) (a0 : Int) (a1 : Int) : Option (ByteArray × Int) := (Zah.f a0).bind fun t249 => (if t249 = true then (if a1 < 0 then (Zbh.j0 k a0 a1 true) else (Zbh.j0 k a0 a1 (decide (a1 > 999999)))) else (some ((⟨#[]⟩ : ByteArray), 10)))
theorem Zbh.calls (k : Nat) (a0 : Int) (a1 : Int) (r1 : ByteArray) (r2 : Int) (w : World) (h : Zbh.f k a0 a1 = some (r1, r2)) :
  Calls Tryz.prog 41 #[.int .u8 a0, .int .i64 a1] w fun e w' => e = .returned (.tuple #[.string r1, .int .i64 r2]) ∧ Below w.heap.size w w' := by
 have HB := am (Below.refl w.heap.size w)
 have H : ((Zah.f a0).bind fun t249 => (if t249 = true then (if a1 < 0 then (Zbh.j0 k a0 a1 true) else (Zbh.j0 k a0 a1 (decide (a1 > 999999)))) else (some ((⟨#[]⟩ : ByteArray), 10)))) = some (r1, r2) := h
 clear h
 replace H := be H
 obtain ⟨t249, A30, H⟩ := H
 try dsimp only at H
 have A3 := am A30
 clear A30
 by_cases c4 : t249 = true
 rotate_left
 ·replace c4 := Bool.eq_false_iff.mpr c4
  subst c4
  rw [if_neg (show ¬ (false = true) by decide)] at H
  simp only [Option.some.injEq, Prod.mk.injEq] at H
  obtain ⟨rfl, rfl⟩ := H
  go_enter Tryz.func41, Tryz.ntmps41
  go_wp2_with (first | ((with_reducible refine gate_callee (f := 74) rfl ?_); refine goesL_ (some 9) rfl rfl Tryz.func74 (by kernel_rfl) rfl #[.int .u8 a0] rfl (by (try simp only [mT, mC, mN]); first | done | rfl) ?_; (with_reducible refine (Zah.calls a0 false _ A3.out).mono ?_); rintro e w' ⟨rfl, ⟨nd, rfl⟩⟩; refine ⟨_, rfl, ?_⟩))
  go_ret2
  exact ⟨by rfl, vb HB.out⟩
 subst c4
 rw [if_pos rfl] at H
 have HC5 := am H
 clear H
 go_enter Tryz.func41, Tryz.ntmps41
 go_upto_region 3 with (first | ((with_reducible refine gate_callee (f := 74) rfl ?_); refine goesL_ (some 9) rfl rfl Tryz.func74 (by kernel_rfl) rfl #[.int .u8 a0] rfl (by (try simp only [mT, mC, mN]); first | done | rfl) ?_; (with_reducible refine (Zah.calls a0 true _ A3.out).mono ?_); rintro e w' ⟨rfl, ⟨nd, rfl⟩⟩; refine ⟨_, rfl, ?_⟩))
 (try simp only [Act.put, List.setIfInBounds_toArray, List.set_cons_zero, List.set_cons_succ])
 go_cut [16] (fun v16 wc => ∃ (kq : Nat) (x16_4 : Bool), v16 = .bool x16_4 ∧ Aside0 (Zbh.j0 kq a0 a1 x16_4 = some (r1, r2)) ∧ Aside0 (kq ≤ k) ∧ Aside0 (Below w.heap.size w wc))
 case first =>
  have H := HC5.out
  clear HC5
  by_cases c6 : a1 < 0
  ·rw [if_pos c6] at H
   have c6b0 : decide (a1 < 0) = true := de c6
   clear c6
   (first | rw [c6b0] | (simp only [i64_w]; rw [c6b0]) | skip)
   have H' := am H
   clear H
   go_wp2
   go_meet
   case rel => exact ⟨_, (true), (by first | rfl | (simp; done) | simp [*]), H', ⟨by first | omega | exact Nat.le_refl _⟩, ⟨vb HB.out⟩⟩
  rw [if_neg c6] at H
  have c6b0 : decide (a1 < 0) = false := df c6
  clear c6
  (first | rw [c6b0] | (simp only [i64_w]; rw [c6b0]) | skip)
  have H' := am H
  clear H
  go_wp2
  go_meet
  case rel => exact ⟨_, (decide (a1 > 999999)), (by first | rfl | (simp; done) | simp [*]), H', ⟨by first | omega | exact Nat.le_refl _⟩, ⟨vb HB.out⟩⟩
 case rest =>
  clear HC5
  (try clear p2); (try clear c4); (try clear c6); (try clear c6b0)
  obtain ⟨kq, x16_4, rfl, HA, HJ4, HB⟩ := hcut
  cases kq with
  | zero => exact absurd HA.out (by simp [Zbh.j0])
  | succ kj4 =>
   have H := HA.out
   clear HA
   simp only [Zbh.j0] at H
   by_cases c7 : x16_4 = true
   ·subst c7
    rw [if_pos rfl] at H
    simp only [Option.some.injEq, Prod.mk.injEq] at H
    obtain ⟨rfl, rfl⟩ := H
    go_wp2
    go_ret2
    exact ⟨by rfl, vb HB.out⟩
   replace c7 := Bool.eq_false_iff.mpr c7
   subst c7
   rw [if_neg (show ¬ (false = true) by decide)] at H
   obtain ⟨y250, hy250⟩ : ∃ y_ : List Int, y_ = (([a0] : List Int)) := ⟨_, rfl⟩
   replace H : (Zbh.l0 kj4 a1 (strOfNums y250) 100000) = some (r1, r2) := by first | (rw [hy250]; with_reducible exact H) | (have H2_ := (Option.bind_some _ _).symm.trans H; rw [hy250]; with_reducible exact H2_) | (have H2_ := (Option.bind_some _ _).symm.trans H; with_reducible exact H2_) | with_reducible exact H | (rw [hy250]; exact H) | exact H
   have Ny250 := am hy250
   clear hy250
   have H' := am H
   clear H
   go_wp2_with (first | ((with_reducible refine gate_dst (N := 18) rfl ?_); refine Kd.R_lit (Kd.int .u8) _ 5 ?hg (N := 18) ?hd (xs := ([a0] : List Int)) (inner := [.int .u8 a0]) (ok := fun _ => True) (okp := fun _ => True) ?hr ?hp (fun _ hk => hk) trivial (Below.refl _ _) (Nat.le_refl _) (by simp) ?_; (case hd => rfl); (case hg => rfl); (case hr => go_simp <;> rfl); (case hp => exact (Reps.one (show Kd.M (Kd.int .u8) _ _ _ a0 [.int .u8 a0] from rfl) (Reps.none _ _))); intro v251 w8 ho9 hb hg_ hnew_; clear hg_ hnew_; (first | rw [← Ny250.out] at ho9 | (simp only [Int.reduceToNat] at ho9; rw [← Ny250.out] at ho9)); have HO252 := am (Kd.R_lower ho9 (below_size (vb HB.out))); replace HB := bs HB.out hb; clear hb ho9; have hcv10 := own_string (P := Tryz.prog) Tryz.underlying57 Tryz.underlying5 Tryz.underlying9 (Kd.own_of_R HO252.out)))
   go_loopg [6, 7] kj4 (fun kq v6 v7 w' => ∃ (x6_2 : ByteArray) (x7_2 : Int), v6 = .string x6_2 ∧ v7 = .int .i64 x7_2 ∧ Aside0 (Zbh.l0 kq a1 x6_2 x7_2 = some (r1, r2)) ∧ Aside0 (kq ≤ kj4) ∧ Aside0 (Below w.heap.size w w'))
   case atStart => exact ⟨(strOfNums y250), (100000), (by first | rfl | (simp; done) | simp [*]), (by first | rfl | (simp; done) | simp [*]), H', ⟨Nat.le_refl _⟩, ⟨vb HB.out⟩⟩
   case round =>
    clear H'
    (try clear hcv1); (try clear p2); (try clear c4); (try clear c6); (try clear c6b0); (try clear c7); (try clear hcv10); (try clear p2)
    obtain ⟨x6_2, x7_2, rfl, rfl, HA, HK2, HB⟩ := hrel
    cases gk with
    | zero => exact absurd HA.out (by simp [Zbh.l0])
    | succ k2 =>
     have H := HA.out
     clear HA
     simp only [Zbh.l0] at H
     by_cases c11 : x7_2 > 0
     rotate_left
     ·rw [if_neg c11] at H
      have c11b0 : decide (0 < x7_2) = false := df c11
      clear c11
      replace H := be H
      obtain ⟨t256, A170, H⟩ := H
      try dsimp only at H
      have A17 := am A170
      clear A170
      obtain ⟨y257, hy257⟩ : ∃ y_ : List Int, y_ = (([t256] : List Int)) := ⟨_, rfl⟩
      replace H : (if x6_2.size + (strOfNums y257).size ≤ 9223372036854775807 then (some (x6_2 ++ (strOfNums y257), 0)) else (none)) = some (r1, r2) := by first | (rw [hy257]; with_reducible exact H) | (have H2_ := (Option.bind_some _ _).symm.trans H; rw [hy257]; with_reducible exact H2_) | (have H2_ := (Option.bind_some _ _).symm.trans H; with_reducible exact H2_) | with_reducible exact H | (rw [hy257]; exact H) | exact H
      have Ny257 := am hy257
      clear hy257
      by_cases c18 : x6_2.size + (strOfNums y257).size ≤ 9223372036854775807
      rotate_left
      ·rw [if_neg c18] at H
       exact absurd H (by simp)
      rw [if_pos c18] at H
      have c18b0 := eq_true c18
      have c18b1 : decide (x6_2.size + (strOfNums y257).size ≤ 9223372036854775807) = true := de c18
      try have c18b2 : (9223372036854775807 < x6_2.size + (strOfNums y257).size) = False := eq_false (Nat.not_lt.2 c18)
      simp only [Option.some.injEq, Prod.mk.injEq] at H
      obtain ⟨rfl, rfl⟩ := H
      go_wp2_with (first | ((with_reducible refine gate_callee (f := 75) rfl ?_); refine goesL_ (some 36) rfl rfl Tryz.func75 (by kernel_rfl) rfl #[.string x6_2] rfl (by (try simp only [mT, mC, mN]); first | done | rfl) ?_; (with_reducible refine (Zaq.calls k2 x6_2 t256 _ A17.out).mono ?_); rintro e w' ⟨rfl, ⟨nd, rfl⟩⟩; refine ⟨_, rfl, ?_⟩) | ((with_reducible refine gate_dst (N := 37) rfl ?_); refine Kd.R_lit (Kd.int .u8) _ 5 ?hg (N := 37) ?hd (xs := ([t256] : List Int)) (inner := [.int .u8 t256]) (ok := fun _ => True) (okp := fun _ => True) ?hr ?hp (fun _ hk => hk) trivial (Below.refl _ _) (Nat.le_refl _) (by simp) ?_; (case hd => rfl); (case hg => rfl); (case hr => go_simp <;> rfl); (case hp => exact (Reps.one (show Kd.M (Kd.int .u8) _ _ _ t256 [.int .u8 t256] from rfl) (Reps.none _ _))); intro v258 w19 ho20 hb hg_ hnew_; clear hg_ hnew_; (first | rw [← Ny257.out] at ho20 | (simp only [Int.reduceToNat] at ho20; rw [← Ny257.out] at ho20)); have HO259 := am (Kd.R_lower ho20 (below_size (vb HB.out))); replace HB := bs HB.out hb; clear hb ho20; have hcv21 := own_string (P := Tryz.prog) Tryz.underlying57 Tryz.underlying5 Tryz.underlying9 (Kd.own_of_R HO259.out)))
      go_ret2
      exact ⟨by rfl, vb HB.out⟩
     rw [if_pos c11] at H
     have c11b0 : decide (0 < x7_2) = true := de c11
     clear c11
     by_cases c12 : x7_2 = 0
     ·rw [if_pos c12] at H
      exact absurd H (by simp)
     rw [if_neg c12] at H
     have c12b0 : (x7_2 == 0) = false := beq_eq_false_iff_ne.mpr c12
     have c12b1 : (x7_2 != 0) = true := bne_iff_ne.mpr c12
     obtain ⟨y253, hy253⟩ : ∃ y_ : List Int, y_ = (([(wrap64 (48 + (Int.tmod (wrap64 (Int.tdiv a1 x7_2)) 10))) % 256] : List Int)) := ⟨_, rfl⟩
     replace H : (if x6_2.size + (strOfNums y253).size ≤ 9223372036854775807 then (Zbh.l0 k2 a1 (x6_2 ++ (strOfNums y253)) (wrap64 (Int.tdiv x7_2 10))) else (none)) = some (r1, r2) := by first | (rw [hy253]; with_reducible exact H) | (have H2_ := (Option.bind_some _ _).symm.trans H; rw [hy253]; with_reducible exact H2_) | (have H2_ := (Option.bind_some _ _).symm.trans H; with_reducible exact H2_) | with_reducible exact H | (rw [hy253]; exact H) | exact H
     have Ny253 := am hy253
     clear hy253
     by_cases c13 : x6_2.size + (strOfNums y253).size ≤ 9223372036854775807
     rotate_left
     ·rw [if_neg c13] at H
      exact absurd H (by simp)
     rw [if_pos c13] at H
     have c13b0 := eq_true c13
     have c13b1 : decide (x6_2.size + (strOfNums y253).size ≤ 9223372036854775807) = true := de c13
     try have c13b2 : (9223372036854775807 < x6_2.size + (strOfNums y253).size) = False := eq_false (Nat.not_lt.2 c13)
     have H' := am H
     clear H
     go_wp2_with (first | ((with_reducible refine gate_dst (N := 31) rfl ?_); refine Kd.R_lit (Kd.int .u8) _ 5 ?hg (N := 31) ?hd (xs := ([(wrap64 (48 + (Int.tmod (wrap64 (Int.tdiv a1 x7_2)) 10))) % 256] : List Int)) (inner := [.int .u8 ((wrap64 (48 + (Int.tmod (wrap64 (Int.tdiv a1 x7_2)) 10))) % 256)]) (ok := fun _ => True) (okp := fun _ => True) ?hr ?hp (fun _ hk => hk) trivial (Below.refl _ _) (Nat.le_refl _) (by simp) ?_; (case hd => rfl); (case hg => rfl); (case hr => go_simp <;> rfl); (case hp => exact (Reps.one (show Kd.M (Kd.int .u8) _ _ _ ((wrap64 (48 + (Int.tmod (wrap64 (Int.tdiv a1 x7_2)) 10))) % 256) [.int .u8 ((wrap64 (48 + (Int.tmod (wrap64 (Int.tdiv a1 x7_2)) 10))) % 256)] from rfl) (Reps.none _ _))); intro v254 w14 ho15 hb hg_ hnew_; clear hg_ hnew_; (first | rw [← Ny253.out] at ho15 | (simp only [Int.reduceToNat] at ho15; rw [← Ny253.out] at ho15)); have HO255 := am (Kd.R_lower ho15 (below_size (vb HB.out))); replace HB := bs HB.out hb; clear hb ho15; have hcv16 := own_string (P := Tryz.prog) Tryz.underlying57 Tryz.underlying5 Tryz.underlying9 (Kd.own_of_R HO255.out)))
     go_roundg k2
     case measure => have := HJ4.out; have := HK2.out; omega
     case rel => exact ⟨(x6_2 ++ (strOfNums y253)), (wrap64 (Int.tdiv x7_2 10)), (by first | rfl | (simp; done) | simp [*]), (by first | rfl | (simp; done) | simp [*]), H', ⟨by have := HJ4.out; have := HK2.out; omega⟩, ⟨vb HB.out⟩⟩
def Zbg.f (k : Nat) (a0 : Int) (a1 : Int) : Option (ByteArray) := (Zbh.f k a0 a1).bind fun bt260 => (some bt260.1)
theorem Zbg.calls (k : Nat) (a0 : Int) (a1 : Int) (r : ByteArray) (w : World) (h : Zbg.f k a0 a1 = some r) :
  Calls Tryz.prog 19 #[.int .u8 a0, .int .i64 a1] w fun e w' => e = .returned (.string r) ∧ Below w.heap.size w w' := by
 have HB := am (Below.refl w.heap.size w)
 have H : ((Zbh.f k a0 a1).bind fun bt260 => (some bt260.1)) = some r := h
 clear h
 replace H := be H
 obtain ⟨⟨t260, t261⟩, A30, H⟩ := H
 try dsimp only at H
 have A3 := am A30
 clear A30
 obtain rfl := Option.some.inj H
 go_enter Tryz.func19, Tryz.ntmps19
 go_wp2_with (first | ((with_reducible refine gate_callee (f := 41) rfl ?_); refine goesL_ (some 10) rfl rfl Tryz.func41 (by kernel_rfl) rfl #[.int .u8 a0, .int .i64 a1] rfl (by (try simp only [mT, mC, mN]); first | done | rfl) ?_; (with_reducible refine (Zbh.calls k a0 a1 t260 t261 _ A3.out).mono ?_); rintro e w4 ⟨rfl, hb⟩; refine ⟨_, rfl, ?_⟩; replace HB := bs HB.out hb; (try clear hb)))
 go_ret
 exact ⟨by rfl, vb HB.out⟩
def Zao.f (k : Nat)  : Option ((List (S34))) := (Zbg.f k 80 1).bind fun t262 => ((Zbg.f k 76 1).bind fun t263 => ((Zbg.f k 76 2).bind fun t264 => ((Zbg.f k 75 1).bind fun t274 => ((Zbg.f k 66 1).bind fun t278 => (some (([(⟨1, 0, t262, (⟨#[]⟩ : ByteArray), (([0, 1000, 5] : List Int)), (⟨#[112, 105, 110, 101]⟩ : ByteArray)⟩ : S34), (⟨2, 1, t263, t262, ([] : List Int), (⟨#[]⟩ : ByteArray)⟩ : S34), (⟨2, 1, t264, t262, ([] : List Int), (⟨#[]⟩ : ByteArray)⟩ : S34), (⟨3, 2, t263, (⟨#[]⟩ : ByteArray), ([] : List Int), (⟨#[]⟩ : ByteArray)⟩ : S34), (⟨3, 2, t264, (⟨#[]⟩ : ByteArray), ([] : List Int), (⟨#[]⟩ : ByteArray)⟩ : S34), (⟨4, 3, t263, (⟨#[]⟩ : ByteArray), (([0, 1] : List Int)), (⟨#[]⟩ : ByteArray)⟩ : S34), (⟨4, 3, t264, (⟨#[]⟩ : ByteArray), (([0, 5] : List Int)), (⟨#[]⟩ : ByteArray)⟩ : S34), (⟨5, 4, t274, (⟨#[]⟩ : ByteArray), (([2, 6] : List Int)), (⟨#[]⟩ : ByteArray)⟩ : S34), (⟨7, 5, t278, (⟨#[]⟩ : ByteArray), (([3] : List Int)), (⟨#[]⟩ : ByteArray)⟩ : S34), (⟨11, 6, (⟨#[]⟩ : ByteArray), (⟨#[]⟩ : ByteArray), (([0, 0] : List Int)), (⟨#[]⟩ : ByteArray)⟩ : S34)] : List (S34))))))))
theorem Zao.calls (k : Nat)  (r : List (S34)) (w : World) (h : Zao.f k  = some r) :
  Calls Tryz.prog 18 #[] w fun e w' => ∃ v0_ : Value, e = .returned (v0_) ∧ Kd.N k34 34 w' w.heap.size (fun k_ => (w.heap.size ≤ k_)) v0_ r ∧ Below w.heap.size w w' := by
 have hu34 := Tryz.underlying34
 have HB := am (Below.refl w.heap.size w)
 have H : ((Zbg.f k 80 1).bind fun t262 => ((Zbg.f k 76 1).bind fun t263 => ((Zbg.f k 76 2).bind fun t264 => ((Zbg.f k 75 1).bind fun t274 => ((Zbg.f k 66 1).bind fun t278 => (some (([(⟨1, 0, t262, (⟨#[]⟩ : ByteArray), (([0, 1000, 5] : List Int)), (⟨#[112, 105, 110, 101]⟩ : ByteArray)⟩ : S34), (⟨2, 1, t263, t262, ([] : List Int), (⟨#[]⟩ : ByteArray)⟩ : S34), (⟨2, 1, t264, t262, ([] : List Int), (⟨#[]⟩ : ByteArray)⟩ : S34), (⟨3, 2, t263, (⟨#[]⟩ : ByteArray), ([] : List Int), (⟨#[]⟩ : ByteArray)⟩ : S34), (⟨3, 2, t264, (⟨#[]⟩ : ByteArray), ([] : List Int), (⟨#[]⟩ : ByteArray)⟩ : S34), (⟨4, 3, t263, (⟨#[]⟩ : ByteArray), (([0, 1] : List Int)), (⟨#[]⟩ : ByteArray)⟩ : S34), (⟨4, 3, t264, (⟨#[]⟩ : ByteArray), (([0, 5] : List Int)), (⟨#[]⟩ : ByteArray)⟩ : S34), (⟨5, 4, t274, (⟨#[]⟩ : ByteArray), (([2, 6] : List Int)), (⟨#[]⟩ : ByteArray)⟩ : S34), (⟨7, 5, t278, (⟨#[]⟩ : ByteArray), (([3] : List Int)), (⟨#[]⟩ : ByteArray)⟩ : S34), (⟨11, 6, (⟨#[]⟩ : ByteArray), (⟨#[]⟩ : ByteArray), (([0, 0] : List Int)), (⟨#[]⟩ : ByteArray)⟩ : S34)] : List (S34))))))))) = some r := h
 clear h
 replace H := be H
 obtain ⟨t262, A10, H⟩ := H
 try dsimp only at H
 have A1 := am A10
 clear A10
 replace H := be H
 obtain ⟨t263, A20, H⟩ := H
 try dsimp only at H
 have A2 := am A20
 clear A20
 replace H := be H
 obtain ⟨t264, A30, H⟩ := H
 try dsimp only at H
 have A3 := am A30
 clear A30
 obtain ⟨y265, hy265⟩ : ∃ y_ : List Int, y_ = (([0, 1000, 5] : List Int)) := ⟨_, rfl⟩
 replace H : ((Zbg.f k 75 1).bind fun t274 => ((Zbg.f k 66 1).bind fun t278 => (some (([(⟨1, 0, t262, (⟨#[]⟩ : ByteArray), y265, (⟨#[112, 105, 110, 101]⟩ : ByteArray)⟩ : S34), (⟨2, 1, t263, t262, ([] : List Int), (⟨#[]⟩ : ByteArray)⟩ : S34), (⟨2, 1, t264, t262, ([] : List Int), (⟨#[]⟩ : ByteArray)⟩ : S34), (⟨3, 2, t263, (⟨#[]⟩ : ByteArray), ([] : List Int), (⟨#[]⟩ : ByteArray)⟩ : S34), (⟨3, 2, t264, (⟨#[]⟩ : ByteArray), ([] : List Int), (⟨#[]⟩ : ByteArray)⟩ : S34), (⟨4, 3, t263, (⟨#[]⟩ : ByteArray), (([0, 1] : List Int)), (⟨#[]⟩ : ByteArray)⟩ : S34), (⟨4, 3, t264, (⟨#[]⟩ : ByteArray), (([0, 5] : List Int)), (⟨#[]⟩ : ByteArray)⟩ : S34), (⟨5, 4, t274, (⟨#[]⟩ : ByteArray), (([2, 6] : List Int)), (⟨#[]⟩ : ByteArray)⟩ : S34), (⟨7, 5, t278, (⟨#[]⟩ : ByteArray), (([3] : List Int)), (⟨#[]⟩ : ByteArray)⟩ : S34), (⟨11, 6, (⟨#[]⟩ : ByteArray), (⟨#[]⟩ : ByteArray), (([0, 0] : List Int)), (⟨#[]⟩ : ByteArray)⟩ : S34)] : List (S34)))))) = some r := by first | (rw [hy265]; with_reducible exact H) | (have H2_ := (Option.bind_some _ _).symm.trans H; rw [hy265]; with_reducible exact H2_) | (have H2_ := (Option.bind_some _ _).symm.trans H; with_reducible exact H2_) | with_reducible exact H | (rw [hy265]; exact H) | exact H
 have Ny265 := am hy265
 clear hy265
 obtain ⟨y268, hy268⟩ : ∃ y_ : List Int, y_ = (([0, 1] : List Int)) := ⟨_, rfl⟩
 replace H : ((Zbg.f k 75 1).bind fun t274 => ((Zbg.f k 66 1).bind fun t278 => (some (([(⟨1, 0, t262, (⟨#[]⟩ : ByteArray), y265, (⟨#[112, 105, 110, 101]⟩ : ByteArray)⟩ : S34), (⟨2, 1, t263, t262, ([] : List Int), (⟨#[]⟩ : ByteArray)⟩ : S34), (⟨2, 1, t264, t262, ([] : List Int), (⟨#[]⟩ : ByteArray)⟩ : S34), (⟨3, 2, t263, (⟨#[]⟩ : ByteArray), ([] : List Int), (⟨#[]⟩ : ByteArray)⟩ : S34), (⟨3, 2, t264, (⟨#[]⟩ : ByteArray), ([] : List Int), (⟨#[]⟩ : ByteArray)⟩ : S34), (⟨4, 3, t263, (⟨#[]⟩ : ByteArray), y268, (⟨#[]⟩ : ByteArray)⟩ : S34), (⟨4, 3, t264, (⟨#[]⟩ : ByteArray), (([0, 5] : List Int)), (⟨#[]⟩ : ByteArray)⟩ : S34), (⟨5, 4, t274, (⟨#[]⟩ : ByteArray), (([2, 6] : List Int)), (⟨#[]⟩ : ByteArray)⟩ : S34), (⟨7, 5, t278, (⟨#[]⟩ : ByteArray), (([3] : List Int)), (⟨#[]⟩ : ByteArray)⟩ : S34), (⟨11, 6, (⟨#[]⟩ : ByteArray), (⟨#[]⟩ : ByteArray), (([0, 0] : List Int)), (⟨#[]⟩ : ByteArray)⟩ : S34)] : List (S34)))))) = some r := by first | (rw [hy268]; with_reducible exact H) | (have H2_ := (Option.bind_some _ _).symm.trans H; rw [hy268]; with_reducible exact H2_) | (have H2_ := (Option.bind_some _ _).symm.trans H; with_reducible exact H2_) | with_reducible exact H | (rw [hy268]; exact H) | exact H
 have Ny268 := am hy268
 clear hy268
 obtain ⟨y271, hy271⟩ : ∃ y_ : List Int, y_ = (([0, 5] : List Int)) := ⟨_, rfl⟩
 replace H : ((Zbg.f k 75 1).bind fun t274 => ((Zbg.f k 66 1).bind fun t278 => (some (([(⟨1, 0, t262, (⟨#[]⟩ : ByteArray), y265, (⟨#[112, 105, 110, 101]⟩ : ByteArray)⟩ : S34), (⟨2, 1, t263, t262, ([] : List Int), (⟨#[]⟩ : ByteArray)⟩ : S34), (⟨2, 1, t264, t262, ([] : List Int), (⟨#[]⟩ : ByteArray)⟩ : S34), (⟨3, 2, t263, (⟨#[]⟩ : ByteArray), ([] : List Int), (⟨#[]⟩ : ByteArray)⟩ : S34), (⟨3, 2, t264, (⟨#[]⟩ : ByteArray), ([] : List Int), (⟨#[]⟩ : ByteArray)⟩ : S34), (⟨4, 3, t263, (⟨#[]⟩ : ByteArray), y268, (⟨#[]⟩ : ByteArray)⟩ : S34), (⟨4, 3, t264, (⟨#[]⟩ : ByteArray), y271, (⟨#[]⟩ : ByteArray)⟩ : S34), (⟨5, 4, t274, (⟨#[]⟩ : ByteArray), (([2, 6] : List Int)), (⟨#[]⟩ : ByteArray)⟩ : S34), (⟨7, 5, t278, (⟨#[]⟩ : ByteArray), (([3] : List Int)), (⟨#[]⟩ : ByteArray)⟩ : S34), (⟨11, 6, (⟨#[]⟩ : ByteArray), (⟨#[]⟩ : ByteArray), (([0, 0] : List Int)), (⟨#[]⟩ : ByteArray)⟩ : S34)] : List (S34)))))) = some r := by first | (rw [hy271]; with_reducible exact H) | (have H2_ := (Option.bind_some _ _).symm.trans H; rw [hy271]; with_reducible exact H2_) | (have H2_ := (Option.bind_some _ _).symm.trans H; with_reducible exact H2_) | with_reducible exact H | (rw [hy271]; exact H) | exact H
 have Ny271 := am hy271
 clear hy271
 replace H := be H
 obtain ⟨t274, A40, H⟩ := H
 try dsimp only at H
 have A4 := am A40
 clear A40
 obtain ⟨y275, hy275⟩ : ∃ y_ : List Int, y_ = (([2, 6] : List Int)) := ⟨_, rfl⟩
 replace H : ((Zbg.f k 66 1).bind fun t278 => (some (([(⟨1, 0, t262, (⟨#[]⟩ : ByteArray), y265, (⟨#[112, 105, 110, 101]⟩ : ByteArray)⟩ : S34), (⟨2, 1, t263, t262, ([] : List Int), (⟨#[]⟩ : ByteArray)⟩ : S34), (⟨2, 1, t264, t262, ([] : List Int), (⟨#[]⟩ : ByteArray)⟩ : S34), (⟨3, 2, t263, (⟨#[]⟩ : ByteArray), ([] : List Int), (⟨#[]⟩ : ByteArray)⟩ : S34), (⟨3, 2, t264, (⟨#[]⟩ : ByteArray), ([] : List Int), (⟨#[]⟩ : ByteArray)⟩ : S34), (⟨4, 3, t263, (⟨#[]⟩ : ByteArray), y268, (⟨#[]⟩ : ByteArray)⟩ : S34), (⟨4, 3, t264, (⟨#[]⟩ : ByteArray), y271, (⟨#[]⟩ : ByteArray)⟩ : S34), (⟨5, 4, t274, (⟨#[]⟩ : ByteArray), y275, (⟨#[]⟩ : ByteArray)⟩ : S34), (⟨7, 5, t278, (⟨#[]⟩ : ByteArray), (([3] : List Int)), (⟨#[]⟩ : ByteArray)⟩ : S34), (⟨11, 6, (⟨#[]⟩ : ByteArray), (⟨#[]⟩ : ByteArray), (([0, 0] : List Int)), (⟨#[]⟩ : ByteArray)⟩ : S34)] : List (S34))))) = some r := by first | (rw [hy275]; with_reducible exact H) | (have H2_ := (Option.bind_some _ _).symm.trans H; rw [hy275]; with_reducible exact H2_) | (have H2_ := (Option.bind_some _ _).symm.trans H; with_reducible exact H2_) | with_reducible exact H | (rw [hy275]; exact H) | exact H
 have Ny275 := am hy275
 clear hy275
 replace H := be H
 obtain ⟨t278, A50, H⟩ := H
 try dsimp only at H
 have A5 := am A50
 clear A50
 obtain ⟨y279, hy279⟩ : ∃ y_ : List Int, y_ = (([3] : List Int)) := ⟨_, rfl⟩
 replace H : (some (([(⟨1, 0, t262, (⟨#[]⟩ : ByteArray), y265, (⟨#[112, 105, 110, 101]⟩ : ByteArray)⟩ : S34), (⟨2, 1, t263, t262, ([] : List Int), (⟨#[]⟩ : ByteArray)⟩ : S34), (⟨2, 1, t264, t262, ([] : List Int), (⟨#[]⟩ : ByteArray)⟩ : S34), (⟨3, 2, t263, (⟨#[]⟩ : ByteArray), ([] : List Int), (⟨#[]⟩ : ByteArray)⟩ : S34), (⟨3, 2, t264, (⟨#[]⟩ : ByteArray), ([] : List Int), (⟨#[]⟩ : ByteArray)⟩ : S34), (⟨4, 3, t263, (⟨#[]⟩ : ByteArray), y268, (⟨#[]⟩ : ByteArray)⟩ : S34), (⟨4, 3, t264, (⟨#[]⟩ : ByteArray), y271, (⟨#[]⟩ : ByteArray)⟩ : S34), (⟨5, 4, t274, (⟨#[]⟩ : ByteArray), y275, (⟨#[]⟩ : ByteArray)⟩ : S34), (⟨7, 5, t278, (⟨#[]⟩ : ByteArray), y279, (⟨#[]⟩ : ByteArray)⟩ : S34), (⟨11, 6, (⟨#[]⟩ : ByteArray), (⟨#[]⟩ : ByteArray), (([0, 0] : List Int)), (⟨#[]⟩ : ByteArray)⟩ : S34)] : List (S34)))) = some r := by first | (rw [hy279]; with_reducible exact H) | (have H2_ := (Option.bind_some _ _).symm.trans H; rw [hy279]; with_reducible exact H2_) | (have H2_ := (Option.bind_some _ _).symm.trans H; with_reducible exact H2_) | with_reducible exact H | (rw [hy279]; exact H) | exact H
 have Ny279 := am hy279
 clear hy279
 obtain ⟨y282, hy282⟩ : ∃ y_ : List Int, y_ = (([0, 0] : List Int)) := ⟨_, rfl⟩
 replace H : (some (([(⟨1, 0, t262, (⟨#[]⟩ : ByteArray), y265, (⟨#[112, 105, 110, 101]⟩ : ByteArray)⟩ : S34), (⟨2, 1, t263, t262, ([] : List Int), (⟨#[]⟩ : ByteArray)⟩ : S34), (⟨2, 1, t264, t262, ([] : List Int), (⟨#[]⟩ : ByteArray)⟩ : S34), (⟨3, 2, t263, (⟨#[]⟩ : ByteArray), ([] : List Int), (⟨#[]⟩ : ByteArray)⟩ : S34), (⟨3, 2, t264, (⟨#[]⟩ : ByteArray), ([] : List Int), (⟨#[]⟩ : ByteArray)⟩ : S34), (⟨4, 3, t263, (⟨#[]⟩ : ByteArray), y268, (⟨#[]⟩ : ByteArray)⟩ : S34), (⟨4, 3, t264, (⟨#[]⟩ : ByteArray), y271, (⟨#[]⟩ : ByteArray)⟩ : S34), (⟨5, 4, t274, (⟨#[]⟩ : ByteArray), y275, (⟨#[]⟩ : ByteArray)⟩ : S34), (⟨7, 5, t278, (⟨#[]⟩ : ByteArray), y279, (⟨#[]⟩ : ByteArray)⟩ : S34), (⟨11, 6, (⟨#[]⟩ : ByteArray), (⟨#[]⟩ : ByteArray), y282, (⟨#[]⟩ : ByteArray)⟩ : S34)] : List (S34)))) = some r := by first | (rw [hy282]; with_reducible exact H) | (have H2_ := (Option.bind_some _ _).symm.trans H; rw [hy282]; with_reducible exact H2_) | (have H2_ := (Option.bind_some _ _).symm.trans H; with_reducible exact H2_) | with_reducible exact H | (rw [hy282]; exact H) | exact H
 have Ny282 := am hy282
 clear hy282
 obtain ⟨y285, hy285⟩ : ∃ y_ : List (S34), y_ = (([(⟨1, 0, t262, (⟨#[]⟩ : ByteArray), y265, (⟨#[112, 105, 110, 101]⟩ : ByteArray)⟩ : S34), (⟨2, 1, t263, t262, ([] : List Int), (⟨#[]⟩ : ByteArray)⟩ : S34), (⟨2, 1, t264, t262, ([] : List Int), (⟨#[]⟩ : ByteArray)⟩ : S34), (⟨3, 2, t263, (⟨#[]⟩ : ByteArray), ([] : List Int), (⟨#[]⟩ : ByteArray)⟩ : S34), (⟨3, 2, t264, (⟨#[]⟩ : ByteArray), ([] : List Int), (⟨#[]⟩ : ByteArray)⟩ : S34), (⟨4, 3, t263, (⟨#[]⟩ : ByteArray), y268, (⟨#[]⟩ : ByteArray)⟩ : S34), (⟨4, 3, t264, (⟨#[]⟩ : ByteArray), y271, (⟨#[]⟩ : ByteArray)⟩ : S34), (⟨5, 4, t274, (⟨#[]⟩ : ByteArray), y275, (⟨#[]⟩ : ByteArray)⟩ : S34), (⟨7, 5, t278, (⟨#[]⟩ : ByteArray), y279, (⟨#[]⟩ : ByteArray)⟩ : S34), (⟨11, 6, (⟨#[]⟩ : ByteArray), (⟨#[]⟩ : ByteArray), y282, (⟨#[]⟩ : ByteArray)⟩ : S34)] : List (S34))) := ⟨_, rfl⟩
 replace H : (some y285) = some r := by first | (rw [hy285]; with_reducible exact H) | (have H2_ := (Option.bind_some _ _).symm.trans H; rw [hy285]; with_reducible exact H2_) | (have H2_ := (Option.bind_some _ _).symm.trans H; with_reducible exact H2_) | with_reducible exact H | (rw [hy285]; exact H) | exact H
 have Ny285 := am hy285
 clear hy285
 obtain rfl := Option.some.inj H
 go_enter Tryz.func18, Tryz.ntmps18
 go_wp2_with (first | ((with_reducible refine gate_callee (f := 19) rfl ?_); refine goesL_ (some 4) rfl rfl Tryz.func19 (by kernel_rfl) rfl #[.int .u8 80, .int .i64 1] rfl (by (try simp only [mT, mC, mN]); first | done | rfl) ?_; (with_reducible refine (Zbg.calls k 80 1 t262 _ A1.out).mono ?_); rintro e w6 ⟨rfl, hb⟩; refine ⟨_, rfl, ?_⟩; replace HB := bs HB.out hb; (try clear hb)) | ((with_reducible refine gate_callee (f := 19) rfl ?_); refine goesL_ (some 5) rfl rfl Tryz.func19 (by kernel_rfl) rfl #[.int .u8 76, .int .i64 1] rfl (by (try simp only [mT, mC, mN]); first | done | rfl) ?_; (with_reducible refine (Zbg.calls k 76 1 t263 _ A2.out).mono ?_); rintro e w7 ⟨rfl, hb⟩; refine ⟨_, rfl, ?_⟩; replace HB := bs HB.out hb; (try clear hb)) | ((with_reducible refine gate_callee (f := 19) rfl ?_); refine goesL_ (some 6) rfl rfl Tryz.func19 (by kernel_rfl) rfl #[.int .u8 76, .int .i64 2] rfl (by (try simp only [mT, mC, mN]); first | done | rfl) ?_; (with_reducible refine (Zbg.calls k 76 2 t264 _ A3.out).mono ?_); rintro e w8 ⟨rfl, hb⟩; refine ⟨_, rfl, ?_⟩; replace HB := bs HB.out hb; (try clear hb)) | ((with_reducible refine gate_dst (N := 8) rfl ?_); refine Kd.R_lit (Kd.int .i64) _ 3 ?hg (N := 8) ?hd (xs := ([0, 1000, 5] : List Int)) (inner := [.int .i64 0, .int .i64 1000, .int .i64 5]) (ok := fun _ => True) (okp := fun _ => True) ?hr ?hp (fun _ hk => hk) trivial (Below.refl _ _) (Nat.le_refl _) (by simp) ?_; (case hd => rfl); (case hg => rfl); (case hr => go_simp <;> rfl); (case hp => exact (Reps.one (show Kd.M (Kd.int .i64) _ _ _ 0 [.int .i64 0] from rfl) (Reps.one (show Kd.M (Kd.int .i64) _ _ _ 1000 [.int .i64 1000] from rfl) (Reps.one (show Kd.M (Kd.int .i64) _ _ _ 5 [.int .i64 5] from rfl) (Reps.none _ _))))); intro v266 w9 ho10 hb hg_ hnew_; clear hg_ hnew_; (first | rw [← Ny265.out] at ho10 | (simp only [Int.reduceToNat] at ho10; rw [← Ny265.out] at ho10)); have HO267 := am (Kd.R_lower (Kd.R_newM (M := fun k_ => (w.heap.size ≤ k_)) ho10 (below_size (vb HB.out)) (fun k_ h_ => h_)) (below_size (vb HB.out))); replace HB := bs HB.out hb; clear hb ho10; obtain ⟨Ao11, co11, eo11⟩ := Kd.R_slice HO267.out; subst eo11) | ((with_reducible refine gate_dst (N := 21) rfl ?_); refine Kd.R_lit (Kd.int .i64) _ 3 ?hg (N := 21) ?hd (xs := ([0, 1] : List Int)) (inner := [.int .i64 0, .int .i64 1]) (ok := fun _ => True) (okp := fun _ => True) ?hr ?hp (fun _ hk => hk) trivial (Below.refl _ _) (Nat.le_refl _) (by simp) ?_; (case hd => rfl); (case hg => rfl); (case hr => go_simp <;> rfl); (case hp => exact (Reps.one (show Kd.M (Kd.int .i64) _ _ _ 0 [.int .i64 0] from rfl) (Reps.one (show Kd.M (Kd.int .i64) _ _ _ 1 [.int .i64 1] from rfl) (Reps.none _ _)))); intro v269 w12 ho13 hb hg_ hnew_; clear hg_ hnew_; (first | rw [← Ny268.out] at ho13 | (simp only [Int.reduceToNat] at ho13; rw [← Ny268.out] at ho13)); have HO270 := am (Kd.R_lower (Kd.R_new' (Kd.R_newM (M := fun k_ => (w.heap.size ≤ k_)) ho13 (below_size (vb HB.out)) (fun k_ h_ => h_)) (Kd.R_lt (vR HO267.out))) (below_size (vb HB.out))); replace HO267 := am (Kd.R_elder' (vR HO267.out) (Kd.R_base ho13) hb); replace HB := bs HB.out hb; clear hb ho13; obtain ⟨Ao14, co14, eo14⟩ := Kd.R_slice HO270.out; subst eo14) | ((with_reducible refine gate_dst (N := 24) rfl ?_); refine Kd.R_lit (Kd.int .i64) _ 3 ?hg (N := 24) ?hd (xs := ([0, 5] : List Int)) (inner := [.int .i64 0, .int .i64 5]) (ok := fun _ => True) (okp := fun _ => True) ?hr ?hp (fun _ hk => hk) trivial (Below.refl _ _) (Nat.le_refl _) (by simp) ?_; (case hd => rfl); (case hg => rfl); (case hr => go_simp <;> rfl); (case hp => exact (Reps.one (show Kd.M (Kd.int .i64) _ _ _ 0 [.int .i64 0] from rfl) (Reps.one (show Kd.M (Kd.int .i64) _ _ _ 5 [.int .i64 5] from rfl) (Reps.none _ _)))); intro v272 w15 ho16 hb hg_ hnew_; clear hg_ hnew_; (first | rw [← Ny271.out] at ho16 | (simp only [Int.reduceToNat] at ho16; rw [← Ny271.out] at ho16)); have HO273 := am (Kd.R_lower (Kd.R_new' (Kd.R_new' (Kd.R_newM (M := fun k_ => (w.heap.size ≤ k_)) ho16 (below_size (vb HB.out)) (fun k_ h_ => h_)) (Kd.R_lt (vR HO267.out))) (Kd.R_lt (vR HO270.out))) (below_size (vb HB.out))); replace HO267 := am (Kd.R_elder' (vR HO267.out) (Kd.R_base ho16) hb); replace HO270 := am (Kd.R_elder' (vR HO270.out) (Kd.R_base ho16) hb); replace HB := bs HB.out hb; clear hb ho16; obtain ⟨Ao17, co17, eo17⟩ := Kd.R_slice HO273.out; subst eo17) | ((with_reducible refine gate_callee (f := 19) rfl ?_); refine goesL_ (some 26) rfl rfl Tryz.func19 (by kernel_rfl) rfl #[.int .u8 75, .int .i64 1] rfl (by (try simp only [mT, mC, mN]); first | done | rfl) ?_; (with_reducible refine (Zbg.calls k 75 1 t274 _ A4.out).mono ?_); rintro e w18 ⟨rfl, hb⟩; refine ⟨_, rfl, ?_⟩; replace HO267 := kR HO267.out hb; replace HO270 := kR HO270.out hb; replace HO273 := kR HO273.out hb; replace HB := bs HB.out hb; (try clear hb)) | ((with_reducible refine gate_dst (N := 27) rfl ?_); refine Kd.R_lit (Kd.int .i64) _ 3 ?hg (N := 27) ?hd (xs := ([2, 6] : List Int)) (inner := [.int .i64 2, .int .i64 6]) (ok := fun _ => True) (okp := fun _ => True) ?hr ?hp (fun _ hk => hk) trivial (Below.refl _ _) (Nat.le_refl _) (by simp) ?_; (case hd => rfl); (case hg => rfl); (case hr => go_simp <;> rfl); (case hp => exact (Reps.one (show Kd.M (Kd.int .i64) _ _ _ 2 [.int .i64 2] from rfl) (Reps.one (show Kd.M (Kd.int .i64) _ _ _ 6 [.int .i64 6] from rfl) (Reps.none _ _)))); intro v276 w19 ho20 hb hg_ hnew_; clear hg_ hnew_; (first | rw [← Ny275.out] at ho20 | (simp only [Int.reduceToNat] at ho20; rw [← Ny275.out] at ho20)); have HO277 := am (Kd.R_lower (Kd.R_new' (Kd.R_new' (Kd.R_new' (Kd.R_newM (M := fun k_ => (w.heap.size ≤ k_)) ho20 (below_size (vb HB.out)) (fun k_ h_ => h_)) (Kd.R_lt (vR HO267.out))) (Kd.R_lt (vR HO270.out))) (Kd.R_lt (vR HO273.out))) (below_size (vb HB.out))); replace HO267 := am (Kd.R_elder' (vR HO267.out) (Kd.R_base ho20) hb); replace HO270 := am (Kd.R_elder' (vR HO270.out) (Kd.R_base ho20) hb); replace HO273 := am (Kd.R_elder' (vR HO273.out) (Kd.R_base ho20) hb); replace HB := bs HB.out hb; clear hb ho20; obtain ⟨Ao21, co21, eo21⟩ := Kd.R_slice HO277.out; subst eo21) | ((with_reducible refine gate_callee (f := 19) rfl ?_); refine goesL_ (some 29) rfl rfl Tryz.func19 (by kernel_rfl) rfl #[.int .u8 66, .int .i64 1] rfl (by (try simp only [mT, mC, mN]); first | done | rfl) ?_; (with_reducible refine (Zbg.calls k 66 1 t278 _ A5.out).mono ?_); rintro e w22 ⟨rfl, hb⟩; refine ⟨_, rfl, ?_⟩; replace HO267 := kR HO267.out hb; replace HO270 := kR HO270.out hb; replace HO273 := kR HO273.out hb; replace HO277 := kR HO277.out hb; replace HB := bs HB.out hb; (try clear hb)) | ((with_reducible refine gate_dst (N := 30) rfl ?_); refine Kd.R_lit (Kd.int .i64) _ 3 ?hg (N := 30) ?hd (xs := ([3] : List Int)) (inner := [.int .i64 3]) (ok := fun _ => True) (okp := fun _ => True) ?hr ?hp (fun _ hk => hk) trivial (Below.refl _ _) (Nat.le_refl _) (by simp) ?_; (case hd => rfl); (case hg => rfl); (case hr => go_simp <;> rfl); (case hp => exact (Reps.one (show Kd.M (Kd.int .i64) _ _ _ 3 [.int .i64 3] from rfl) (Reps.none _ _))); intro v280 w23 ho24 hb hg_ hnew_; clear hg_ hnew_; (first | rw [← Ny279.out] at ho24 | (simp only [Int.reduceToNat] at ho24; rw [← Ny279.out] at ho24)); have HO281 := am (Kd.R_lower (Kd.R_new' (Kd.R_new' (Kd.R_new' (Kd.R_new' (Kd.R_newM (M := fun k_ => (w.heap.size ≤ k_)) ho24 (below_size (vb HB.out)) (fun k_ h_ => h_)) (Kd.R_lt (vR HO267.out))) (Kd.R_lt (vR HO270.out))) (Kd.R_lt (vR HO273.out))) (Kd.R_lt (vR HO277.out))) (below_size (vb HB.out))); replace HO267 := am (Kd.R_elder' (vR HO267.out) (Kd.R_base ho24) hb); replace HO270 := am (Kd.R_elder' (vR HO270.out) (Kd.R_base ho24) hb); replace HO273 := am (Kd.R_elder' (vR HO273.out) (Kd.R_base ho24) hb); replace HO277 := am (Kd.R_elder' (vR HO277.out) (Kd.R_base ho24) hb); replace HB := bs HB.out hb; clear hb ho24; obtain ⟨Ao25, co25, eo25⟩ := Kd.R_slice HO281.out; subst eo25) | ((with_reducible refine gate_dst (N := 32) rfl ?_); refine Kd.R_lit (Kd.int .i64) _ 3 ?hg (N := 32) ?hd (xs := ([0, 0] : List Int)) (inner := [.int .i64 0, .int .i64 0]) (ok := fun _ => True) (okp := fun _ => True) ?hr ?hp (fun _ hk => hk) trivial (Below.refl _ _) (Nat.le_refl _) (by simp) ?_; (case hd => rfl); (case hg => rfl); (case hr => go_simp <;> rfl); (case hp => exact (Reps.one (show Kd.M (Kd.int .i64) _ _ _ 0 [.int .i64 0] from rfl) (Reps.one (show Kd.M (Kd.int .i64) _ _ _ 0 [.int .i64 0] from rfl) (Reps.none _ _)))); intro v283 w26 ho27 hb hg_ hnew_; clear hg_ hnew_; (first | rw [← Ny282.out] at ho27 | (simp only [Int.reduceToNat] at ho27; rw [← Ny282.out] at ho27)); have HO284 := am (Kd.R_lower (Kd.R_new' (Kd.R_new' (Kd.R_new' (Kd.R_new' (Kd.R_new' (Kd.R_newM (M := fun k_ => (w.heap.size ≤ k_)) ho27 (below_size (vb HB.out)) (fun k_ h_ => h_)) (Kd.R_lt (vR HO267.out))) (Kd.R_lt (vR HO270.out))) (Kd.R_lt (vR HO273.out))) (Kd.R_lt (vR HO277.out))) (Kd.R_lt (vR HO281.out))) (below_size (vb HB.out))); replace HO267 := am (Kd.R_elder' (vR HO267.out) (Kd.R_base ho27) hb); replace HO270 := am (Kd.R_elder' (vR HO270.out) (Kd.R_base ho27) hb); replace HO273 := am (Kd.R_elder' (vR HO273.out) (Kd.R_base ho27) hb); replace HO277 := am (Kd.R_elder' (vR HO277.out) (Kd.R_base ho27) hb); replace HO281 := am (Kd.R_elder' (vR HO281.out) (Kd.R_base ho27) hb); replace HB := bs HB.out hb; clear hb ho27; obtain ⟨Ao28, co28, eo28⟩ := Kd.R_slice HO284.out; subst eo28) | ((with_reducible refine gate_dst (N := 34) rfl ?_); refine Kd.N_lit k34 _ 34 ?hg (N' := 34) ?hd (xs := ([(⟨1, 0, t262, (⟨#[]⟩ : ByteArray), y265, (⟨#[112, 105, 110, 101]⟩ : ByteArray)⟩ : S34), (⟨2, 1, t263, t262, ([] : List Int), (⟨#[]⟩ : ByteArray)⟩ : S34), (⟨2, 1, t264, t262, ([] : List Int), (⟨#[]⟩ : ByteArray)⟩ : S34), (⟨3, 2, t263, (⟨#[]⟩ : ByteArray), ([] : List Int), (⟨#[]⟩ : ByteArray)⟩ : S34), (⟨3, 2, t264, (⟨#[]⟩ : ByteArray), ([] : List Int), (⟨#[]⟩ : ByteArray)⟩ : S34), (⟨4, 3, t263, (⟨#[]⟩ : ByteArray), y268, (⟨#[]⟩ : ByteArray)⟩ : S34), (⟨4, 3, t264, (⟨#[]⟩ : ByteArray), y271, (⟨#[]⟩ : ByteArray)⟩ : S34), (⟨5, 4, t274, (⟨#[]⟩ : ByteArray), y275, (⟨#[]⟩ : ByteArray)⟩ : S34), (⟨7, 5, t278, (⟨#[]⟩ : ByteArray), y279, (⟨#[]⟩ : ByteArray)⟩ : S34), (⟨11, 6, (⟨#[]⟩ : ByteArray), (⟨#[]⟩ : ByteArray), y282, (⟨#[]⟩ : ByteArray)⟩ : S34)] : List (S34))) (inner := [.int .i64 1, .int .i64 0, .string t262, .string (⟨#[]⟩ : ByteArray), .slice Ao11 y265.length co11, .string (⟨#[112, 105, 110, 101]⟩ : ByteArray), .int .i64 2, .int .i64 1, .string t263, .string t262, .slice none 0 0, .string (⟨#[]⟩ : ByteArray), .int .i64 2, .int .i64 1, .string t264, .string t262, .slice none 0 0, .string (⟨#[]⟩ : ByteArray), .int .i64 3, .int .i64 2, .string t263, .string (⟨#[]⟩ : ByteArray), .slice none 0 0, .string (⟨#[]⟩ : ByteArray), .int .i64 3, .int .i64 2, .string t264, .string (⟨#[]⟩ : ByteArray), .slice none 0 0, .string (⟨#[]⟩ : ByteArray), .int .i64 4, .int .i64 3, .string t263, .string (⟨#[]⟩ : ByteArray), .slice Ao14 y268.length co14, .string (⟨#[]⟩ : ByteArray), .int .i64 4, .int .i64 3, .string t264, .string (⟨#[]⟩ : ByteArray), .slice Ao17 y271.length co17, .string (⟨#[]⟩ : ByteArray), .int .i64 5, .int .i64 4, .string t274, .string (⟨#[]⟩ : ByteArray), .slice Ao21 y275.length co21, .string (⟨#[]⟩ : ByteArray), .int .i64 7, .int .i64 5, .string t278, .string (⟨#[]⟩ : ByteArray), .slice Ao25 y279.length co25, .string (⟨#[]⟩ : ByteArray), .int .i64 11, .int .i64 6, .string (⟨#[]⟩ : ByteArray), .string (⟨#[]⟩ : ByteArray), .slice Ao28 y282.length co28, .string (⟨#[]⟩ : ByteArray)]) (ok := (fun k_ => (w.heap.size ≤ k_))) (okp := (fun k_ => (w.heap.size ≤ k_))) ?hr ?hp (fun _ hk => hk) ((show ∀ k_, w26.heap.size ≤ k_ → (fun k_ => (w.heap.size ≤ k_)) k_ from fun k_ hk => (Nat.le_trans (below_size (vb HB.out)) hk)) _ (Nat.le_refl _)) (Below.refl _ _) (Nat.le_refl _) (by simp) ?_; (case hd => rfl); (case hg => rfl); (case hr => go_simp <;> rfl); (case hp => exact (Reps.c6 (show Kd.FK k34 _ _ (⟨1, 0, t262, (⟨#[]⟩ : ByteArray), y265, (⟨#[112, 105, 110, 101]⟩ : ByteArray)⟩ : S34) [.int .i64 1, .int .i64 0, .string t262, .string (⟨#[]⟩ : ByteArray), .slice Ao11 y265.length co11, .string (⟨#[112, 105, 110, 101]⟩ : ByteArray)] from (k34_mkF _ _ (⟨1, 0, t262, (⟨#[]⟩ : ByteArray), y265, (⟨#[112, 105, 110, 101]⟩ : ByteArray)⟩ : S34) (Kd.R_reads' (Kd.R_mono (ok' := (fun k_ => (w.heap.size ≤ k_))) (HO267.out) (fun k_ hk => hk.1.1.1.1.1.1))).2.1 (Kd.R_F (Kd.R_mono (ok' := (fun k_ => (w.heap.size ≤ k_))) (HO267.out) (fun k_ hk => hk.1.1.1.1.1.1))))) (Reps.c6 (show Kd.FK k34 _ _ (⟨2, 1, t263, t262, ([] : List Int), (⟨#[]⟩ : ByteArray)⟩ : S34) [.int .i64 2, .int .i64 1, .string t263, .string t262, .slice none 0 0, .string (⟨#[]⟩ : ByteArray)] from (k34_mkF _ _ (⟨2, 1, t263, t262, ([] : List Int), (⟨#[]⟩ : ByteArray)⟩ : S34) (Nat.le_refl _) (Kd.F_nil _ _ _))) (Reps.c6 (show Kd.FK k34 _ _ (⟨2, 1, t264, t262, ([] : List Int), (⟨#[]⟩ : ByteArray)⟩ : S34) [.int .i64 2, .int .i64 1, .string t264, .string t262, .slice none 0 0, .string (⟨#[]⟩ : ByteArray)] from (k34_mkF _ _ (⟨2, 1, t264, t262, ([] : List Int), (⟨#[]⟩ : ByteArray)⟩ : S34) (Nat.le_refl _) (Kd.F_nil _ _ _))) (Reps.c6 (show Kd.FK k34 _ _ (⟨3, 2, t263, (⟨#[]⟩ : ByteArray), ([] : List Int), (⟨#[]⟩ : ByteArray)⟩ : S34) [.int .i64 3, .int .i64 2, .string t263, .string (⟨#[]⟩ : ByteArray), .slice none 0 0, .string (⟨#[]⟩ : ByteArray)] from (k34_mkF _ _ (⟨3, 2, t263, (⟨#[]⟩ : ByteArray), ([] : List Int), (⟨#[]⟩ : ByteArray)⟩ : S34) (Nat.le_refl _) (Kd.F_nil _ _ _))) (Reps.c6 (show Kd.FK k34 _ _ (⟨3, 2, t264, (⟨#[]⟩ : ByteArray), ([] : List Int), (⟨#[]⟩ : ByteArray)⟩ : S34) [.int .i64 3, .int .i64 2, .string t264, .string (⟨#[]⟩ : ByteArray), .slice none 0 0, .string (⟨#[]⟩ : ByteArray)] from (k34_mkF _ _ (⟨3, 2, t264, (⟨#[]⟩ : ByteArray), ([] : List Int), (⟨#[]⟩ : ByteArray)⟩ : S34) (Nat.le_refl _) (Kd.F_nil _ _ _))) (Reps.c6 (show Kd.FK k34 _ _ (⟨4, 3, t263, (⟨#[]⟩ : ByteArray), y268, (⟨#[]⟩ : ByteArray)⟩ : S34) [.int .i64 4, .int .i64 3, .string t263, .string (⟨#[]⟩ : ByteArray), .slice Ao14 y268.length co14, .string (⟨#[]⟩ : ByteArray)] from (k34_mkF _ _ (⟨4, 3, t263, (⟨#[]⟩ : ByteArray), y268, (⟨#[]⟩ : ByteArray)⟩ : S34) (Kd.R_reads' (Kd.R_mono (ok' := (fun k_ => (w.heap.size ≤ k_))) (HO270.out) (fun k_ hk => hk.1.1.1.1.1.1))).2.1 (Kd.R_F (Kd.R_mono (ok' := (fun k_ => (w.heap.size ≤ k_))) (HO270.out) (fun k_ hk => hk.1.1.1.1.1.1))))) (Reps.c6 (show Kd.FK k34 _ _ (⟨4, 3, t264, (⟨#[]⟩ : ByteArray), y271, (⟨#[]⟩ : ByteArray)⟩ : S34) [.int .i64 4, .int .i64 3, .string t264, .string (⟨#[]⟩ : ByteArray), .slice Ao17 y271.length co17, .string (⟨#[]⟩ : ByteArray)] from (k34_mkF _ _ (⟨4, 3, t264, (⟨#[]⟩ : ByteArray), y271, (⟨#[]⟩ : ByteArray)⟩ : S34) (Kd.R_reads' (Kd.R_mono (ok' := (fun k_ => (w.heap.size ≤ k_))) (HO273.out) (fun k_ hk => hk.1.1.1.1.1.1))).2.1 (Kd.R_F (Kd.R_mono (ok' := (fun k_ => (w.heap.size ≤ k_))) (HO273.out) (fun k_ hk => hk.1.1.1.1.1.1))))) (Reps.c6 (show Kd.FK k34 _ _ (⟨5, 4, t274, (⟨#[]⟩ : ByteArray), y275, (⟨#[]⟩ : ByteArray)⟩ : S34) [.int .i64 5, .int .i64 4, .string t274, .string (⟨#[]⟩ : ByteArray), .slice Ao21 y275.length co21, .string (⟨#[]⟩ : ByteArray)] from (k34_mkF _ _ (⟨5, 4, t274, (⟨#[]⟩ : ByteArray), y275, (⟨#[]⟩ : ByteArray)⟩ : S34) (Kd.R_reads' (Kd.R_mono (ok' := (fun k_ => (w.heap.size ≤ k_))) (HO277.out) (fun k_ hk => hk.1.1.1.1.1.1))).2.1 (Kd.R_F (Kd.R_mono (ok' := (fun k_ => (w.heap.size ≤ k_))) (HO277.out) (fun k_ hk => hk.1.1.1.1.1.1))))) (Reps.c6 (show Kd.FK k34 _ _ (⟨7, 5, t278, (⟨#[]⟩ : ByteArray), y279, (⟨#[]⟩ : ByteArray)⟩ : S34) [.int .i64 7, .int .i64 5, .string t278, .string (⟨#[]⟩ : ByteArray), .slice Ao25 y279.length co25, .string (⟨#[]⟩ : ByteArray)] from (k34_mkF _ _ (⟨7, 5, t278, (⟨#[]⟩ : ByteArray), y279, (⟨#[]⟩ : ByteArray)⟩ : S34) (Kd.R_reads' (Kd.R_mono (ok' := (fun k_ => (w.heap.size ≤ k_))) (HO281.out) (fun k_ hk => hk.1.1.1.1.1.1))).2.1 (Kd.R_F (Kd.R_mono (ok' := (fun k_ => (w.heap.size ≤ k_))) (HO281.out) (fun k_ hk => hk.1.1.1.1.1.1))))) (Reps.c6 (show Kd.FK k34 _ _ (⟨11, 6, (⟨#[]⟩ : ByteArray), (⟨#[]⟩ : ByteArray), y282, (⟨#[]⟩ : ByteArray)⟩ : S34) [.int .i64 11, .int .i64 6, .string (⟨#[]⟩ : ByteArray), .string (⟨#[]⟩ : ByteArray), .slice Ao28 y282.length co28, .string (⟨#[]⟩ : ByteArray)] from (k34_mkF _ _ (⟨11, 6, (⟨#[]⟩ : ByteArray), (⟨#[]⟩ : ByteArray), y282, (⟨#[]⟩ : ByteArray)⟩ : S34) (Kd.R_reads' (Kd.R_mono (ok' := (fun k_ => (w.heap.size ≤ k_))) (HO284.out) (fun k_ hk => hk.1.1.1.1.1.1))).2.1 (Kd.R_F (Kd.R_mono (ok' := (fun k_ => (w.heap.size ≤ k_))) (HO284.out) (fun k_ hk => hk.1.1.1.1.1.1))))) (Reps.none _ _)))))))))))); intro v286 w29 ho30 hb hg_ hnew_; clear hg_ hnew_; (first | rw [← Ny285.out] at ho30 | (simp only [Int.reduceToNat] at ho30; rw [← Ny285.out] at ho30)); have HO287 := am (Kd.N_lower ho30 (below_size (vb HB.out))); replace HB := bs HB.out hb; clear HO267 HO270 HO273 HO277 HO281 HO284; clear hb ho30))
 go_ret
 exact ⟨_, by rfl, vN HO287.out, vb HB.out⟩
end Go.Proofs.YtjgifmakhnkmdaaGreatDoor.XRep
