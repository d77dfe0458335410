import Derived.Test.YtjgifmakhnkmdaaGreatDoorZXRepx1
import Derived.Test.YtjgifmakhnkmdaaGreatDoorZCmp
namespace Go.Proofs.YtjgifmakhnkmdaaGreatDoor.XRep
set_option maxHeartbeats 8000000
set_option maxRecDepth 100000
open Go.RowKit Go.Proofs.YtjgifmakhnkmdaaGreatDoorW.PrintWords Go.Proofs.YtjgifmakhnkmdaaGreatDoorW.PrintLast Go.Proofs.YtjgifmakhnkmdaaGreatDoorW.PrintMore Go.Proofs.YtjgifmakhnkmdaaGreatDoor.Cmp
set_option linter.unusedVariables false
set_option linter.unusedSimpArgs false
def Zbz.f (a0 : Int) : Option (Bool) := if a0 ≥ 0 then (some (decide (a0 ≤ 10000000))) else (some false)
theorem Zbz.calls (a0 : Int) (r : Bool) (w : World) (h : Zbz.f a0 = some r) :
  Calls Tryz.prog 70 #[.int .i64 a0] w fun e w' => e = .returned (.bool r) ∧ Drawn0 w w' := by
 have H : (if a0 ≥ 0 then (some (decide (a0 ≤ 10000000))) else (some false)) = some r := h
 clear h
 by_cases c2 : a0 ≥ 0
 ·rw [if_pos c2] at H
  have c2b0 : decide (0 ≤ a0) = true := de c2
  clear c2
  obtain rfl := Option.some.inj H
  go_enter Tryz.func70, Tryz.ntmps70
  go_wp2
  go_ret
  exact ⟨by first | rfl | (simp; done) | (simp [*]; done), by repeat (first | exact Drawn0.refl _ | apply Drawn0.step)⟩
 rw [if_neg c2] at H
 have c2b0 : decide (0 ≤ a0) = false := df c2
 clear c2
 obtain rfl := Option.some.inj H
 go_enter Tryz.func70, Tryz.ntmps70
 go_wp2
 go_ret
 exact ⟨by first | rfl | (simp; done) | (simp [*]; done), by repeat (first | exact Drawn0.refl _ | apply Drawn0.step)⟩
def Zct.f (a0 : Int) : Option (ByteArray) := some (strOfNums (([(wrap64 (48 + (wrap64 (Int.tdiv a0 10)))) % 256, (wrap64 (48 + (Int.tmod a0 10))) % 256] : List Int)))
theorem Zct.calls (a0 : Int) (r : ByteArray) (w : World) (h : Zct.f a0 = some r) :
  Calls Tryz.prog 71 #[.int .i64 a0] w fun e w' => e = .returned (.string r) ∧ Below w.heap.size w w' := by
 have HB := am (Below.refl w.heap.size w)
 have H : (some (strOfNums (([(wrap64 (48 + (wrap64 (Int.tdiv a0 10)))) % 256, (wrap64 (48 + (Int.tmod a0 10))) % 256] : List Int)))) = some r := h
 clear h
 obtain ⟨y688, hy688⟩ : ∃ y_ : List Int, y_ = (([(wrap64 (48 + (wrap64 (Int.tdiv a0 10)))) % 256, (wrap64 (48 + (Int.tmod a0 10))) % 256] : List Int)) := ⟨_, rfl⟩
 replace H : (some (strOfNums y688)) = some r := by first | (rw [hy688]; with_reducible exact H) | (have H2_ := (Option.bind_some _ _).symm.trans H; rw [hy688]; with_reducible exact H2_) | (have H2_ := (Option.bind_some _ _).symm.trans H; with_reducible exact H2_) | with_reducible exact H | (rw [hy688]; exact H) | exact H
 have Ny688 := am hy688
 clear hy688
 obtain rfl := Option.some.inj H
 go_enter Tryz.func71, Tryz.ntmps71
 go_wp2_with (first | ((with_reducible refine gate_dst (N := 11) rfl ?_); refine Kd.R_lit (Kd.int .u8) _ 5 ?hg (N := 11) ?hd (xs := ([(wrap64 (48 + (wrap64 (Int.tdiv a0 10)))) % 256, (wrap64 (48 + (Int.tmod a0 10))) % 256] : List Int)) (inner := [.int .u8 ((wrap64 (48 + (wrap64 (Int.tdiv a0 10)))) % 256), .int .u8 ((wrap64 (48 + (Int.tmod a0 10))) % 256)]) (ok := fun _ => True) (okp := fun _ => True) ?hr ?hp (fun _ hk => hk) trivial (Below.refl _ _) (Nat.le_refl _) (by simp) ?_; (case hd => rfl); (case hg => rfl); (case hr => go_simp <;> rfl); (case hp => exact (Reps.one (show Kd.M (Kd.int .u8) _ _ _ ((wrap64 (48 + (wrap64 (Int.tdiv a0 10)))) % 256) [.int .u8 ((wrap64 (48 + (wrap64 (Int.tdiv a0 10)))) % 256)] from rfl) (Reps.one (show Kd.M (Kd.int .u8) _ _ _ ((wrap64 (48 + (Int.tmod a0 10))) % 256) [.int .u8 ((wrap64 (48 + (Int.tmod a0 10))) % 256)] from rfl) (Reps.none _ _)))); intro v689 w2 ho3 hb hg_ hnew_; clear hg_ hnew_; (first | rw [← Ny688.out] at ho3 | (simp only [Int.reduceToNat] at ho3; rw [← Ny688.out] at ho3)); have HO690 := am (Kd.R_lower ho3 (below_size (vb HB.out))); replace HB := bs HB.out hb; clear hb ho3; have hcv4 := own_string (P := Tryz.prog) Tryz.underlying57 Tryz.underlying5 Tryz.underlying9 (Kd.own_of_R HO690.out)))
 go_ret
 exact ⟨by rfl, vb HB.out⟩
theorem bsz_ (b : UInt8) : (⟨#[b]⟩ : ByteArray).size = 1 := rfl
def Zby.f (a0 : Int) : Option (ByteArray) := (Zbz.f a0).bind fun t691 => (if t691 = true then ((Zbr.f (wrap64 (Int.tdiv a0 1440))).bind fun t692 => (if 1 + t692.size ≤ 9223372036854775807 then (if ((⟨#[100]⟩ : ByteArray) ++ t692).size + 1 ≤ 9223372036854775807 then ((Zct.f (wrap64 (Int.tdiv (Int.tmod a0 1440) 60))).bind fun t693 => (if (((⟨#[100]⟩ : ByteArray) ++ t692) ++ (⟨#[32]⟩ : ByteArray)).size + t693.size ≤ 9223372036854775807 then (if ((((⟨#[100]⟩ : ByteArray) ++ t692) ++ (⟨#[32]⟩ : ByteArray)) ++ t693).size + 1 ≤ 9223372036854775807 then ((Zct.f (Int.tmod a0 60)).bind fun t694 => (if (((((⟨#[100]⟩ : ByteArray) ++ t692) ++ (⟨#[32]⟩ : ByteArray)) ++ t693) ++ (⟨#[58]⟩ : ByteArray)).size + t694.size ≤ 9223372036854775807 then (some ((((((⟨#[100]⟩ : ByteArray) ++ t692) ++ (⟨#[32]⟩ : ByteArray)) ++ t693) ++ (⟨#[58]⟩ : ByteArray)) ++ t694)) else (none))) else (none)) else (none))) else (none)) else (none))) else (some (⟨#[]⟩ : ByteArray)))
theorem Zby.calls (a0 : Int) (r : ByteArray) (w : World) (hgl : Glob w) (h : Zby.f a0 = some r) :
  Calls Tryz.prog 37 #[.int .i64 a0] w fun e w' => e = .returned (.string r) ∧ Below w.heap.size w w' := by
 have HB := am (Below.refl w.heap.size w)
 have H : ((Zbz.f a0).bind fun t691 => (if t691 = true then ((Zbr.f (wrap64 (Int.tdiv a0 1440))).bind fun t692 => (if 1 + t692.size ≤ 9223372036854775807 then (if ((⟨#[100]⟩ : ByteArray) ++ t692).size + 1 ≤ 9223372036854775807 then ((Zct.f (wrap64 (Int.tdiv (Int.tmod a0 1440) 60))).bind fun t693 => (if (((⟨#[100]⟩ : ByteArray) ++ t692) ++ (⟨#[32]⟩ : ByteArray)).size + t693.size ≤ 9223372036854775807 then (if ((((⟨#[100]⟩ : ByteArray) ++ t692) ++ (⟨#[32]⟩ : ByteArray)) ++ t693).size + 1 ≤ 9223372036854775807 then ((Zct.f (Int.tmod a0 60)).bind fun t694 => (if (((((⟨#[100]⟩ : ByteArray) ++ t692) ++ (⟨#[32]⟩ : ByteArray)) ++ t693) ++ (⟨#[58]⟩ : ByteArray)).size + t694.size ≤ 9223372036854775807 then (some ((((((⟨#[100]⟩ : ByteArray) ++ t692) ++ (⟨#[32]⟩ : ByteArray)) ++ t693) ++ (⟨#[58]⟩ : ByteArray)) ++ t694)) else (none))) else (none)) else (none))) else (none)) else (none))) else (some (⟨#[]⟩ : ByteArray)))) = some r := h
 clear h
 replace H := be H
 obtain ⟨t691, A20, H⟩ := H
 try dsimp only at H
 have A2 := am A20
 clear A20
 by_cases c3 : t691 = true
 rotate_left
 ·replace c3 := Bool.eq_false_iff.mpr c3
  subst c3
  rw [if_neg (show ¬ (false = true) by decide)] at H
  obtain rfl := Option.some.inj H
  go_enter Tryz.func37, Tryz.ntmps37
  go_wp2_with (first | ((with_reducible refine gate_callee (f := 70) rfl ?_); refine goesL_ (some 4) rfl rfl Tryz.func70 (by kernel_rfl) rfl #[.int .i64 a0] rfl (by (try simp only [mT, mC, mN]); first | done | rfl) ?_; (with_reducible refine (Zbz.calls a0 false _ A2.out).mono ?_); rintro e w' ⟨rfl, ⟨nd, rfl⟩⟩; refine ⟨_, rfl, ?_⟩))
  go_ret
  exact ⟨by rfl, vb HB.out⟩
 subst c3
 rw [if_pos rfl] at H
 replace H := be H
 obtain ⟨t692, A40, H⟩ := H
 try dsimp only at H
 have A4 := am A40
 clear A40
 by_cases c5 : 1 + t692.size ≤ 9223372036854775807
 rotate_left
 ·rw [if_neg c5] at H
  exact absurd H (by simp)
 rw [if_pos c5] at H
 have c5b0 := eq_true c5
 have c5b1 : decide (1 + t692.size ≤ 9223372036854775807) = true := de c5
 try have c5b2 : (9223372036854775807 < 1 + t692.size) = False := eq_false (Nat.not_lt.2 c5)
 try have c5z := c5b2
 try simp only [ByteArray.size_append, bsz_] at c5z
 by_cases c6 : ((⟨#[100]⟩ : ByteArray) ++ t692).size + 1 ≤ 9223372036854775807
 rotate_left
 ·rw [if_neg c6] at H
  exact absurd H (by simp)
 rw [if_pos c6] at H
 have c6b0 := eq_true c6
 have c6b1 : decide (((⟨#[100]⟩ : ByteArray) ++ t692).size + 1 ≤ 9223372036854775807) = true := de c6
 try have c6b2 : (9223372036854775807 < ((⟨#[100]⟩ : ByteArray) ++ t692).size + 1) = False := eq_false (Nat.not_lt.2 c6)
 try have c6z := c6b2
 try simp only [ByteArray.size_append, bsz_] at c6z
 replace H := be H
 obtain ⟨t693, A70, H⟩ := H
 try dsimp only at H
 have A7 := am A70
 clear A70
 by_cases c8 : (((⟨#[100]⟩ : ByteArray) ++ t692) ++ (⟨#[32]⟩ : ByteArray)).size + t693.size ≤ 9223372036854775807
 rotate_left
 ·rw [if_neg c8] at H
  exact absurd H (by simp)
 rw [if_pos c8] at H
 have c8b0 := eq_true c8
 have c8b1 : decide ((((⟨#[100]⟩ : ByteArray) ++ t692) ++ (⟨#[32]⟩ : ByteArray)).size + t693.size ≤ 9223372036854775807) = true := de c8
 try have c8b2 : (9223372036854775807 < (((⟨#[100]⟩ : ByteArray) ++ t692) ++ (⟨#[32]⟩ : ByteArray)).size + t693.size) = False := eq_false (Nat.not_lt.2 c8)
 try have c8z := c8b2
 try simp only [ByteArray.size_append, bsz_] at c8z
 by_cases c9 : ((((⟨#[100]⟩ : ByteArray) ++ t692) ++ (⟨#[32]⟩ : ByteArray)) ++ t693).size + 1 ≤ 9223372036854775807
 rotate_left
 ·rw [if_neg c9] at H
  exact absurd H (by simp)
 rw [if_pos c9] at H
 have c9b0 := eq_true c9
 have c9b1 : decide (((((⟨#[100]⟩ : ByteArray) ++ t692) ++ (⟨#[32]⟩ : ByteArray)) ++ t693).size + 1 ≤ 9223372036854775807) = true := de c9
 try have c9b2 : (9223372036854775807 < ((((⟨#[100]⟩ : ByteArray) ++ t692) ++ (⟨#[32]⟩ : ByteArray)) ++ t693).size + 1) = False := eq_false (Nat.not_lt.2 c9)
 try have c9z := c9b2
 try simp only [ByteArray.size_append, bsz_] at c9z
 replace H := be H
 obtain ⟨t694, A100, H⟩ := H
 try dsimp only at H
 have A10 := am A100
 clear A100
 by_cases c11 : (((((⟨#[100]⟩ : ByteArray) ++ t692) ++ (⟨#[32]⟩ : ByteArray)) ++ t693) ++ (⟨#[58]⟩ : ByteArray)).size + t694.size ≤ 9223372036854775807
 rotate_left
 ·rw [if_neg c11] at H
  exact absurd H (by simp)
 rw [if_pos c11] at H
 have c11b0 := eq_true c11
 have c11b1 : decide ((((((⟨#[100]⟩ : ByteArray) ++ t692) ++ (⟨#[32]⟩ : ByteArray)) ++ t693) ++ (⟨#[58]⟩ : ByteArray)).size + t694.size ≤ 9223372036854775807) = true := de c11
 try have c11b2 : (9223372036854775807 < (((((⟨#[100]⟩ : ByteArray) ++ t692) ++ (⟨#[32]⟩ : ByteArray)) ++ t693) ++ (⟨#[58]⟩ : ByteArray)).size + t694.size) = False := eq_false (Nat.not_lt.2 c11)
 try have c11z := c11b2
 try simp only [ByteArray.size_append, bsz_] at c11z
 obtain rfl := Option.some.inj H
 go_enter Tryz.func37, Tryz.ntmps37
 go_wp2_with (first | ((with_reducible refine gate_callee (f := 70) rfl ?_); refine goesL_ (some 4) rfl rfl Tryz.func70 (by kernel_rfl) rfl #[.int .i64 a0] rfl (by (try simp only [mT, mC, mN]); first | done | rfl) ?_; (with_reducible refine (Zbz.calls a0 true _ A2.out).mono ?_); rintro e w' ⟨rfl, ⟨nd, rfl⟩⟩; refine ⟨_, rfl, ?_⟩) | ((with_reducible refine gate_callee (f := 39) rfl ?_); refine goesL_ (some 8) rfl rfl Tryz.func39 (by kernel_rfl) rfl #[.int .i64 (wrap64 (Int.tdiv a0 1440))] rfl (by (try simp only [mT, mC, mN]); first | done | rfl) ?_; (with_reducible refine (Zbr.calls (wrap64 (Int.tdiv a0 1440)) t692 _ (Glob.below hgl (vb HB.out)) A4.out).mono ?_); rintro e w12 ⟨rfl, hb⟩; refine ⟨_, rfl, ?_⟩; replace HB := bs HB.out hb; (try clear hb)) | ((with_reducible refine gate_callee (f := 71) rfl ?_); refine goesL_ (some 14) rfl rfl Tryz.func71 (by kernel_rfl) rfl #[.int .i64 (wrap64 (Int.tdiv (Int.tmod a0 1440) 60))] rfl (by (try simp only [mT, mC, mN]); first | done | rfl) ?_; (with_reducible refine (Zct.calls (wrap64 (Int.tdiv (Int.tmod a0 1440) 60)) t693 _ A7.out).mono ?_); rintro e w13 ⟨rfl, hb⟩; refine ⟨_, rfl, ?_⟩; replace HB := bs HB.out hb; (try clear hb)) | ((with_reducible refine gate_callee (f := 71) rfl ?_); refine goesL_ (some 19) rfl rfl Tryz.func71 (by kernel_rfl) rfl #[.int .i64 (Int.tmod a0 60)] rfl (by (try simp only [mT, mC, mN]); first | done | rfl) ?_; (with_reducible refine (Zct.calls (Int.tmod a0 60) t694 _ A10.out).mono ?_); rintro e w14 ⟨rfl, hb⟩; refine ⟨_, rfl, ?_⟩; replace HB := bs HB.out hb; (try clear hb)))
 go_ret
 exact ⟨by rfl, vb HB.out⟩
mutual
def Zcq.l0 : Nat → ByteArray → List ByteArray → Int → Int → Int → Int → ByteArray → ByteArray → List Int → ByteArray → Option (ByteArray)
 | 0, _, _, _, _, _, _, _, _, _, _ => none
 | k + 1, x3, x23, x24, x25, x696000, x696001, x696002, x696003, x696004, x696005 => if x25 < x24 then (if 0 ≤ x25 then (if x25 < (x23.length : Int) then (if (rdOf ByteArray.empty x23 x25).toList = ([] : List UInt8) then (Zcq.l0 k x3 x23 x24 (wrap64 (x25 + 1)) x696000 x696001 x696002 x696003 x696004 x696005) else (if 1 + (rdOf ByteArray.empty x23 x25).size ≤ 9223372036854775807 then (if x3.size + ((⟨#[32]⟩ : ByteArray) ++ (rdOf ByteArray.empty x23 x25)).size ≤ 9223372036854775807 then (Zcq.l0 k (x3 ++ ((⟨#[32]⟩ : ByteArray) ++ (rdOf ByteArray.empty x23 x25))) x23 x24 (wrap64 (x25 + 1)) x696000 x696001 x696002 x696003 x696004 x696005) else (none)) else (none))) else (none)) else (none)) else (Zcq.l1 k x3 x696004 (x696004.length : Int) 0)
def Zcq.l1 : Nat → ByteArray → List Int → Int → Int → Option (ByteArray)
 | 0, _, _, _, _ => none
 | k + 1, x3, x37, x38, x39 => if x39 < x38 then (if 0 ≤ x39 then (if x39 < (x37.length : Int) then ((Zbr.f (rd x37 x39)).bind fun t704 => (if 1 + t704.size ≤ 9223372036854775807 then (if x3.size + ((⟨#[32]⟩ : ByteArray) ++ t704).size ≤ 9223372036854775807 then (Zcq.l1 k (x3 ++ ((⟨#[32]⟩ : ByteArray) ++ t704)) x37 x38 (wrap64 (x39 + 1))) else (none)) else (none))) else (none)) else (none)) else (if x3.size + 1 ≤ 9223372036854775807 then (some (x3 ++ (⟨#[10]⟩ : ByteArray))) else (none))
end
def Zcq.f (k : Nat) (a0_0 : Int) (a0_1 : Int) (a0_2 : ByteArray) (a0_3 : ByteArray) (l0_4 : List Int) (a0_5 : ByteArray) : Option (ByteArray) := (Zcj.f a0_0 a0_1 a0_2 a0_3 l0_4 a0_5).bind fun t696 => (if t696 = 0 then ((Zby.f a0_1).bind fun t697 => (if t697.size + 1 ≤ 9223372036854775807 then ((Zcr.f a0_0).bind fun t698 => (if (t697 ++ (⟨#[32]⟩ : ByteArray)).size + t698.size ≤ 9223372036854775807 then ((some (([a0_2, a0_3] : List ByteArray) : List ByteArray)).bind fun y699 => (Zcq.l0 k ((t697 ++ (⟨#[32]⟩ : ByteArray)) ++ t698) y699 (y699.length : Int) 0 a0_0 a0_1 a0_2 a0_3 l0_4 a0_5)) else (none))) else (none))) else (some (⟨#[]⟩ : ByteArray)))
def Zcq.T3 : Bool × List (List Nat × List Nat) := (true, [([], []), ([0], [0]), ([1], [1]), ([2], [2]), ([], []), ([4], [4]), ([5, 2], [5]), ([3, 6], [3, 6]), ([7, 6, 0, 1, 2, 3, 4, 5, 6, 7], [7])])
def Zcq.B3 : List Nat := [0, 1, 3, 7, 0, 16, 55, 127, 255]
theorem Zcq.tab3 : rtab .any (opsOf Tryz.f16 3) = Zcq.T3 := by kernel_rfl
theorem Zcq.bits3 : waitsOk Zcq.T3.2 Zcq.B3 = true := by kernel_rfl
theorem Zcq.calls (k : Nat) (a0_0 : Int) (a0_1 : Int) (a0_2 : ByteArray) (a0_3 : ByteArray) (A0_4 : Option Addr) (c0_4 : Nat) (l0_4 : List Int) (a0_5 : ByteArray) (r : ByteArray) (w : World) (hgl : Glob w) (hr0_4 : Kd.C (Kd.int .i64) w A0_4 l0_4.length l0_4) (hc0_4 : l0_4.length ≤ c0_4) (h : Zcq.f k a0_0 a0_1 a0_2 a0_3 l0_4 a0_5 = some r) :
  Calls Tryz.prog 16 #[.agg #[.int .i64 a0_0, .int .i64 a0_1, .string a0_2, .string a0_3, .slice A0_4 l0_4.length c0_4, .string a0_5]] w fun e w' => e = .returned (.string r) ∧ Below w.heap.size w w' := by
 have hu34 := Tryz.underlying34
 have HR0_4 := am hr0_4
 have HC0_4 := am hc0_4
 clear hr0_4 hc0_4
 have HB := am (Below.refl w.heap.size w)
 have H : ((Zcj.f a0_0 a0_1 a0_2 a0_3 l0_4 a0_5).bind fun t696 => (if t696 = 0 then ((Zby.f a0_1).bind fun t697 => (if t697.size + 1 ≤ 9223372036854775807 then ((Zcr.f a0_0).bind fun t698 => (if (t697 ++ (⟨#[32]⟩ : ByteArray)).size + t698.size ≤ 9223372036854775807 then ((some (([a0_2, a0_3] : List ByteArray) : List ByteArray)).bind fun y699 => (Zcq.l0 k ((t697 ++ (⟨#[32]⟩ : ByteArray)) ++ t698) y699 (y699.length : Int) 0 a0_0 a0_1 a0_2 a0_3 l0_4 a0_5)) else (none))) else (none))) else (some (⟨#[]⟩ : ByteArray)))) = some r := h
 clear h
 replace H := be H
 obtain ⟨t696, A20, H⟩ := H
 try dsimp only at H
 have A2 := am A20
 clear A20
 by_cases c3 : t696 = 0
 rotate_left
 ·rw [if_neg c3] at H
  have c3b0 : (t696 == 0) = false := beq_eq_false_iff_ne.mpr c3
  have c3b1 : (t696 != 0) = true := bne_iff_ne.mpr c3
  obtain rfl := Option.some.inj H
  go_enter Tryz.func16, Tryz.ntmps16
  go_wp2_with (first | ((with_reducible refine gate_dst (N := 1) rfl ?_); refine box_event ?hg (N := 1) ?hd (cs := #[.int .i64 a0_0, .int .i64 a0_1, .string a0_2, .string a0_3, .slice A0_4 l0_4.length c0_4, .string a0_5]) (t := 34) ?hr ?_; (case hd => rfl); (case hg => rfl); (case hr => go_simp <;> rfl); intro gb695 hg w33 hbox hb; have BK695 := am hbox; have GW695 := gef hg HB.out; have GE695 := gef hg HB.out; replace HB := bs HB.out hb; clear hb hbox hg; obtain ⟨hcz34_0, hcz34_1, hcz34_2, hcz34_3, hcz34_4, hcz34_5, hfz34_0, hfz34_1, hfz34_2, hfz34_3, hfz34_4, hfz34_5⟩ := bk6 BK695.out) | ((with_reducible refine gate_callee (f := 36) rfl ?_); refine goesL_ (some 9) rfl rfl Tryz.func36 (by kernel_rfl) rfl #[.agg #[.int .i64 a0_0, .int .i64 a0_1, .string a0_2, .string a0_3, .slice A0_4 l0_4.length c0_4, .string a0_5]] rfl (by (try simp only [mT, mC, mN]); first | done | rfl) ?_; (with_reducible refine (Zcj.calls a0_0 a0_1 a0_2 a0_3 _ _ l0_4 a0_5 t696 _ ?side1 ?side2 A2.out).mono ?_); (case side1 => exact vC (Kd.C_below HR0_4.out HB.out)); (case side2 => exact HC0_4.out); rintro e w35 ⟨rfl, hb⟩; refine ⟨_, rfl, ?_⟩; replace BK695 := kb BK695.out hb; replace HB := bs HB.out hb; (try clear hb)))
  go_ret
  exact ⟨by rfl, vb HB.out⟩
 rw [if_pos c3] at H
 have c3b0 : (t696 == 0) = true := beq_iff_eq.mpr c3
 have c3b1 : (t696 != 0) = false := bne_eq_false_iff_eq.mpr c3
 clear c3
 replace H := be H
 obtain ⟨t697, A40, H⟩ := H
 try dsimp only at H
 have A4 := am A40
 clear A40
 by_cases c5 : t697.size + 1 ≤ 9223372036854775807
 rotate_left
 ·rw [if_neg c5] at H
  exact absurd H (by simp)
 rw [if_pos c5] at H
 have c5b0 := eq_true c5
 have c5b1 : decide (t697.size + 1 ≤ 9223372036854775807) = true := de c5
 try have c5b2 : (9223372036854775807 < t697.size + 1) = False := eq_false (Nat.not_lt.2 c5)
 try have c5z := c5b2
 try simp only [ByteArray.size_append, bsz_] at c5z
 replace H := be H
 obtain ⟨t698, A60, H⟩ := H
 try dsimp only at H
 have A6 := am A60
 clear A60
 by_cases c7 : (t697 ++ (⟨#[32]⟩ : ByteArray)).size + t698.size ≤ 9223372036854775807
 rotate_left
 ·rw [if_neg c7] at H
  exact absurd H (by simp)
 rw [if_pos c7] at H
 have c7b0 := eq_true c7
 have c7b1 : decide ((t697 ++ (⟨#[32]⟩ : ByteArray)).size + t698.size ≤ 9223372036854775807) = true := de c7
 try have c7b2 : (9223372036854775807 < (t697 ++ (⟨#[32]⟩ : ByteArray)).size + t698.size) = False := eq_false (Nat.not_lt.2 c7)
 try have c7z := c7b2
 try simp only [ByteArray.size_append, bsz_] at c7z
 obtain ⟨y699, hy699⟩ : ∃ y_ : List ByteArray, y_ = (([a0_2, a0_3] : List ByteArray)) := ⟨_, rfl⟩
 replace H : (Zcq.l0 k ((t697 ++ (⟨#[32]⟩ : ByteArray)) ++ t698) y699 (y699.length : Int) 0 a0_0 a0_1 a0_2 a0_3 l0_4 a0_5) = some r := by first | (rw [hy699]; with_reducible exact H) | (have H2_ := (Option.bind_some _ _).symm.trans H; rw [hy699]; with_reducible exact H2_) | (have H2_ := (Option.bind_some _ _).symm.trans H; with_reducible exact H2_) | with_reducible exact H | (rw [hy699]; exact H) | exact H
 have Ny699 := am hy699
 clear hy699
 have H' := am H
 clear H
 go_enter Tryz.func16, Tryz.ntmps16
 try go_wp2_with (first | ((with_reducible refine gate_dst (N := 1) rfl ?_); refine box_event ?hg (N := 1) ?hd (cs := #[.int .i64 a0_0, .int .i64 a0_1, .string a0_2, .string a0_3, .slice A0_4 l0_4.length c0_4, .string a0_5]) (t := 34) ?hr ?_; (case hd => rfl); (case hg => rfl); (case hr => go_simp <;> rfl); intro gb695 hg w8 hbox hb; have BK695 := am hbox; have GW695 := gef hg HB.out; have GE695 := gef hg HB.out; replace HB := bs HB.out hb; clear hb hbox hg; obtain ⟨hcz9_0, hcz9_1, hcz9_2, hcz9_3, hcz9_4, hcz9_5, hfz9_0, hfz9_1, hfz9_2, hfz9_3, hfz9_4, hfz9_5⟩ := bk6 BK695.out) | ((with_reducible refine gate_callee (f := 36) rfl ?_); refine goesL_ (some 9) rfl rfl Tryz.func36 (by kernel_rfl) rfl #[.agg #[.int .i64 a0_0, .int .i64 a0_1, .string a0_2, .string a0_3, .slice A0_4 l0_4.length c0_4, .string a0_5]] rfl (by (try simp only [mT, mC, mN]); first | done | rfl) ?_; (with_reducible refine (Zcj.calls a0_0 a0_1 a0_2 a0_3 _ _ l0_4 a0_5 t696 _ ?side1 ?side2 A2.out).mono ?_); (case side1 => exact vC (Kd.C_below HR0_4.out HB.out)); (case side2 => exact HC0_4.out); rintro e w10 ⟨rfl, hb⟩; refine ⟨_, rfl, ?_⟩; replace BK695 := kb BK695.out hb; replace HB := bs HB.out hb; (try clear hb)))
 replace BK695 := am (blk_drew BK695.out)
 replace HB := am (below_drew1 HB.out)
 refine start_ (n := 9) (S := fun w' => w'.cell? ⟨gb695, 0, none⟩ = some (.int .i64 a0_0) ∧ w'.cell? ⟨gb695, 1, none⟩ = some (.int .i64 a0_1) ∧ w'.cell? ⟨gb695, 2, none⟩ = some (.string a0_2) ∧ w'.cell? ⟨gb695, 3, none⟩ = some (.string a0_3) ∧ w'.cell? ⟨gb695, 4, none⟩ = some (.slice A0_4 l0_4.length c0_4) ∧ w'.cell? ⟨gb695, 5, none⟩ = some (.string a0_5)) (ds := []) #[false, false, false, false, false, false, false, false, false] (by kernel_rfl) rfl rfl ⟨(blk_cell BK695.out 0).trans rfl, (blk_cell BK695.out 1).trans rfl, (blk_cell BK695.out 2).trans rfl, (blk_cell BK695.out 3).trans rfl, (blk_cell BK695.out 4).trans rfl, (blk_cell BK695.out 5).trans rfl⟩ (fun hHeld => ?_); refine with_tabW Zcq.tab3 Zcq.bits3 (fun HT_ HW_ => ?_)
 generalize w10.drew = w11 at BK695 HB hHeld ⊢
 refine pure_ (i := 0) (N := some 11) (v := ?_) (a' := ?_) #[true, false, false, false, false, false, false, false, false] rfl rfl (any_of HT_.out (by kernel_rfl)) (fun _ _ _ h => h) (Or.inl ⟨by rfl, ?_⟩) ?_ ?_
 rotate_left
 ·intro w'
  go_simp
  with_reducible rfl
 rotate_left
 ·simp only [Act.put, List.setIfInBounds_toArray, List.set_cons_zero, List.set_cons_succ, i64_w]
  rfl
 refine pure_ (i := 4) (N := some 15) (v := ?_) (a' := ?_) #[true, false, false, false, true, false, false, false, false] rfl rfl (any_of HT_.out (by kernel_rfl)) (fun _ _ _ h => h) (Or.inl ⟨by rfl, ?_⟩) ?_ ?_
 rotate_left
 ·intro w'
  go_simp
  with_reducible rfl
 rotate_left
 ·simp only [Act.put, List.setIfInBounds_toArray, List.set_cons_zero, List.set_cons_succ, i64_w]
  rfl
 refine take_ (i := 1) (N := some 12) (v := ?_) (a' := ?_) #[true, true, false, false, true, false, false, false, false] rfl rfl (take_ofW HT_.out HW_.out (by kernel_rfl)) (fun _ _ _ h => h) (Or.inl ⟨by rfl, ?_⟩) hHeld ?_ ?_
 rotate_left
 ·rintro w' ⟨s0, s1, s2, s3, s4, s5⟩
  go_simp
  with_reducible rfl
 rotate_left
 ·simp only [Act.put, List.setIfInBounds_toArray, List.set_cons_zero, List.set_cons_succ, i64_w]
  rfl
 refine take_ (i := 5) (N := some 16) (v := ?_) (a' := ?_) #[true, true, false, false, true, true, false, false, false] rfl rfl (take_ofW HT_.out HW_.out (by kernel_rfl)) (fun _ _ _ h => h) (Or.inl ⟨by rfl, ?_⟩) hHeld ?_ ?_
 rotate_left
 ·rintro w' ⟨s0, s1, s2, s3, s4, s5⟩
  go_simp
  with_reducible rfl
 rotate_left
 ·simp only [Act.put, List.setIfInBounds_toArray, List.set_cons_zero, List.set_cons_succ, i64_w]
  rfl
 refine one_ (i := 2) (N := some 13) #[true, true, true, false, true, true, false, false, false] rfl rfl (one_of HT_.out (by kernel_rfl)) (by decide) (fun K hK => ?_)
 refine goes_ Tryz.func37 (by kernel_rfl) rfl #[.int .i64 a0_1] (by rfl) rfl rfl (by (try simp only [List.map_toArray, List.map_cons, List.map_nil]); first | done | rfl | (simp only [List.length_drop, List.length_take]; rfl)) ?_
 with_reducible refine (Zby.calls a0_1 t697 _ (Glob.below hgl (vb HB.out)) A4.out).mono ?_
 rintro e w12 ⟨rfl, hb⟩
 refine ⟨_, rfl, ?_⟩
 replace BK695 := kb BK695.out hb
 replace HB := bs HB.out hb
 (try clear hb)
 (try clear hb2)
 (try clear hk)
 (try clear hi)
 refine hK.out _ _ ⟨(blk_cell BK695.out 0).trans rfl, (blk_cell BK695.out 1).trans rfl, (blk_cell BK695.out 2).trans rfl, (blk_cell BK695.out 3).trans rfl, (blk_cell BK695.out 4).trans rfl, (blk_cell BK695.out 5).trans rfl⟩ (fun hHeld => ?_)
 clear hK K
 refine norm_ (a' := ?_) ?_ ?_
 rotate_left
 ·show Act.put _ (some 13) _ = _
  simp only [Act.put, List.setIfInBounds_toArray, List.set_cons_zero, List.set_cons_succ, i64_w]
  rfl
 refine pure_ (i := 3) (N := some 14) (v := ?_) (a' := ?_) #[true, true, true, true, true, true, false, false, false] rfl rfl (any_of HT_.out (by kernel_rfl)) (fun _ _ _ h => h) (Or.inl ⟨by rfl, ?_⟩) ?_ ?_
 rotate_left
 ·intro w'
  go_simp
  with_reducible rfl
 rotate_left
 ·simp only [Act.put, List.setIfInBounds_toArray, List.set_cons_zero, List.set_cons_succ, i64_w]
  rfl
 refine one_ (i := 6) (N := some 17) #[true, true, true, true, true, true, true, false, false] rfl rfl (one_of HT_.out (by kernel_rfl)) (by decide) (fun K hK => ?_)
 refine goes_ Tryz.func38 (by kernel_rfl) rfl #[.int .i64 a0_0] (by rfl) rfl rfl (by (try simp only [List.map_toArray, List.map_cons, List.map_nil]); first | done | rfl | (simp only [List.length_drop, List.length_take]; rfl)) ?_
 with_reducible refine (Zcr.calls a0_0 t698 _ A6.out).mono ?_
 rintro e w13 ⟨rfl, hb⟩
 refine ⟨_, rfl, ?_⟩
 replace BK695 := kb BK695.out hb
 replace HB := bs HB.out hb
 (try clear hb)
 (try clear hb2)
 (try clear hk)
 (try clear hi)
 refine hK.out _ _ ⟨(blk_cell BK695.out 0).trans rfl, (blk_cell BK695.out 1).trans rfl, (blk_cell BK695.out 2).trans rfl, (blk_cell BK695.out 3).trans rfl, (blk_cell BK695.out 4).trans rfl, (blk_cell BK695.out 5).trans rfl⟩ (fun hHeld => ?_)
 clear hK K
 refine norm_ (a' := ?_) ?_ ?_
 rotate_left
 ·show Act.put _ (some 17) _ = _
  simp only [Act.put, List.setIfInBounds_toArray, List.set_cons_zero, List.set_cons_succ, i64_w]
  rfl
 refine pure_ (i := 7) (N := some 18) (v := ?_) (a' := ?_) #[true, true, true, true, true, true, true, true, false] rfl rfl (any_of HT_.out (by kernel_rfl)) (fun _ _ _ h => h) (Or.inl ⟨by rfl, ?_⟩) ?_ ?_
 rotate_left
 ·intro w'
  go_simp
  with_reducible rfl
 rotate_left
 ·simp only [Act.put, List.setIfInBounds_toArray, List.set_cons_zero, List.set_cons_succ, i64_w]
  rfl
 refine pure_ (i := 8) (N := some 3) (v := ?_) (a' := ?_) #[true, true, true, true, true, true, true, true, true] rfl rfl (any_of HT_.out (by kernel_rfl)) (fun _ _ _ h => h) (Or.inl ⟨by rfl, ?_⟩) ?_ ?_
 rotate_left
 ·intro w'
  go_simp
  with_reducible rfl
 rotate_left
 ·simp only [Act.put, List.setIfInBounds_toArray, List.set_cons_zero, List.set_cons_succ, i64_w]
  rfl
 refine done_ (done_of HT_.out (by kernel_rfl)) ?_
 obtain ⟨hcz14_0, hcz14_1, hcz14_2, hcz14_3, hcz14_4, hcz14_5, hfz14_0, hfz14_1, hfz14_2, hfz14_3, hfz14_4, hfz14_5⟩ := bk6 BK695.out
 try go_wp2_with (first | ((with_reducible refine gate_dst (N := 23) rfl ?_); refine Kd.R_lit Kd.string _ 9 ?hg (N := 23) ?hd (xs := ([a0_2, a0_3] : List ByteArray)) (inner := [.string a0_2, .string a0_3]) (ok := fun _ => True) (okp := fun _ => True) ?hr ?hp (fun _ hk => hk) trivial (Below.refl _ _) (Nat.le_refl _) (by simp) ?_; (case hd => rfl); (case hg => rfl); (case hr => go_simp <;> rfl); (case hp => exact (Reps.one (show Kd.M Kd.string _ _ _ a0_2 [.string a0_2] from rfl) (Reps.one (show Kd.M Kd.string _ _ _ a0_3 [.string a0_3] from rfl) (Reps.none _ _)))); intro v700 w15 ho16 hb hg_ hnew_; clear hg_ hnew_; (first | rw [← Ny699.out] at ho16 | (simp only [Int.reduceToNat] at ho16; rw [← Ny699.out] at ho16)); have HO701 := am (Kd.R_lower ho16 (below_size (vb HB.out))); replace BK695 := kb BK695.out hb; replace HB := bs HB.out hb; clear hb ho16; obtain ⟨Ao17, co17, eo17⟩ := Kd.R_slice HO701.out; subst eo17))
 go_loopg [3, 25] k (fun kq v3 v25 w' => ∃ (x3_1 : ByteArray) (x25_1 : Int), v3 = .string x3_1 ∧ v25 = .int .i64 x25_1 ∧ Aside0 (Zcq.l0 kq x3_1 y699 (y699.length : Int) x25_1 a0_0 a0_1 a0_2 a0_3 l0_4 a0_5 = some r) ∧ Aside0 (kq ≤ k) ∧ Aside0 (Kd.R Kd.string 9 w' w.heap.size (fun _ => True) (.slice Ao17 y699.length co17) y699) ∧ Aside0 (w'.heap[gb695]? = some (.cells #[.int .i64 a0_0, .int .i64 a0_1, .string a0_2, .string a0_3, (.slice A0_4 l0_4.length c0_4), .string a0_5] 34 (0, 0))) ∧ Aside0 (Below w.heap.size w w'))
 case atStart => exact ⟨((t697 ++ (⟨#[32]⟩ : ByteArray)) ++ t698), (0), (by first | rfl | (simp; done) | simp [*]), (by first | rfl | (simp; done) | simp [*]), H', ⟨Nat.le_refl _⟩, ⟨vR HO701.out⟩, ⟨vk BK695.out⟩, ⟨vb HB.out⟩⟩
 case round =>
  clear H'
  (try clear c1); (try clear p2); (try clear c3); (try clear c3b0); (try clear c3b1); (try clear c5); (try clear c5b0); (try clear c5b1); (try clear c5b2); (try clear c7); (try clear c7b0); (try clear c7b1); (try clear c7b2); (try clear c16); (try clear hcz14_0); (try clear hcz14_1); (try clear hcz14_2); (try clear hcz14_3); (try clear hcz14_4); (try clear hcz14_5); (try clear hcz9_0); (try clear hcz9_1); (try clear hcz9_2); (try clear hcz9_3); (try clear hcz9_4); (try clear hcz9_5); (try clear hfz14_0); (try clear hfz14_1); (try clear hfz14_2); (try clear hfz14_3); (try clear hfz14_4); (try clear hfz14_5); (try clear hfz9_0); (try clear hfz9_1); (try clear hfz9_2); (try clear hfz9_3); (try clear hfz9_4); (try clear hfz9_5)
  obtain ⟨x3_1, x25_1, rfl, rfl, HA, HK1, HO_23, BK695, HB⟩ := hrel
  cases gk with
  | zero => exact absurd HA.out (by simp [Zcq.l0])
  | succ k1 =>
   have H := HA.out
   clear HA
   simp only [Zcq.l0] at H
   by_cases c18 : x25_1 < (y699.length : Int)
   ·rw [if_pos c18] at H
    have c18b0 : decide (x25_1 < (y699.length : Int)) = true := de c18
    clear c18
    by_cases c19 : 0 ≤ x25_1
    rotate_left
    ·rw [if_neg c19] at H
     exact absurd H (by simp)
    rw [if_pos c19] at H
    have c19b0 : decide (0 ≤ x25_1) = true := de c19
    clear c19
    by_cases c20 : x25_1 < (y699.length : Int)
    rotate_left
    ·rw [if_neg c20] at H
     exact absurd H (by simp)
    rw [if_pos c20] at H
    have c20b0 : decide (x25_1 < (y699.length : Int)) = true := de c20
    clear c20
    by_cases c21 : (rdOf ByteArray.empty y699 x25_1).toList = ([] : List UInt8)
    ·rw [if_pos c21] at H
     have c21b0 : ((rdOf ByteArray.empty y699 x25_1).toList == ([] : List UInt8)) = true := beq_iff_eq.mpr c21
     have c21b1 : ((rdOf ByteArray.empty y699 x25_1).toList != ([] : List UInt8)) = false := bne_eq_false_iff_eq.mpr c21
     clear c21
     have H' := am H
     clear H
     have p702 : 0 ≤ (x25_1 : Int) := od (by with_reducible assumption)
     have q702 : x25_1 < (y699.length : Int) := od (by with_reducible assumption)
     obtain ⟨ad702, e702, hx702_0⟩ := Kd.at_string (Kd.R_reads' HO_23.out).2.2 x25_1 p702 q702
     cases e702
     replace p702 := eq_true p702
     replace q702 := eq_true q702
     go_wp2
     go_roundg k1
     case measure => have := HK1.out; omega
     case rel => exact ⟨(x3_1), (wrap64 (x25_1 + 1)), (by first | rfl | (simp; done) | simp [*]), (by first | rfl | (simp; done) | simp [*]), H', ⟨by have := HK1.out; omega⟩, ⟨vR HO_23.out⟩, ⟨vk BK695.out⟩, ⟨vb HB.out⟩⟩
    rw [if_neg c21] at H
    have c21b0 : ((rdOf ByteArray.empty y699 x25_1).toList == ([] : List UInt8)) = false := beq_eq_false_iff_ne.mpr c21
    have c21b1 : ((rdOf ByteArray.empty y699 x25_1).toList != ([] : List UInt8)) = true := bne_iff_ne.mpr c21
    by_cases c22 : 1 + (rdOf ByteArray.empty y699 x25_1).size ≤ 9223372036854775807
    rotate_left
    ·rw [if_neg c22] at H
     exact absurd H (by simp)
    rw [if_pos c22] at H
    have c22b0 := eq_true c22
    have c22b1 : decide (1 + (rdOf ByteArray.empty y699 x25_1).size ≤ 9223372036854775807) = true := de c22
    try have c22b2 : (9223372036854775807 < 1 + (rdOf ByteArray.empty y699 x25_1).size) = False := eq_false (Nat.not_lt.2 c22)
    try have c22z := c22b2
    try simp only [ByteArray.size_append, bsz_] at c22z
    by_cases c23 : x3_1.size + ((⟨#[32]⟩ : ByteArray) ++ (rdOf ByteArray.empty y699 x25_1)).size ≤ 9223372036854775807
    rotate_left
    ·rw [if_neg c23] at H
     exact absurd H (by simp)
    rw [if_pos c23] at H
    have c23b0 := eq_true c23
    have c23b1 : decide (x3_1.size + ((⟨#[32]⟩ : ByteArray) ++ (rdOf ByteArray.empty y699 x25_1)).size ≤ 9223372036854775807) = true := de c23
    try have c23b2 : (9223372036854775807 < x3_1.size + ((⟨#[32]⟩ : ByteArray) ++ (rdOf ByteArray.empty y699 x25_1)).size) = False := eq_false (Nat.not_lt.2 c23)
    try have c23z := c23b2
    try simp only [ByteArray.size_append, bsz_] at c23z
    have H' := am H
    clear H
    have p702 : 0 ≤ (x25_1 : Int) := od (by with_reducible assumption)
    have q702 : x25_1 < (y699.length : Int) := od (by with_reducible assumption)
    obtain ⟨ad702, e702, hx702_0⟩ := Kd.at_string (Kd.R_reads' HO_23.out).2.2 x25_1 p702 q702
    cases e702
    replace p702 := eq_true p702
    replace q702 := eq_true q702
    go_wp2
    go_roundg k1
    case measure => have := HK1.out; omega
    case rel => exact ⟨(x3_1 ++ ((⟨#[32]⟩ : ByteArray) ++ (rdOf ByteArray.empty y699 x25_1))), (wrap64 (x25_1 + 1)), (by first | rfl | (simp; done) | simp [*]), (by first | rfl | (simp; done) | simp [*]), H', ⟨by have := HK1.out; omega⟩, ⟨vR HO_23.out⟩, ⟨vk BK695.out⟩, ⟨vb HB.out⟩⟩
   rw [if_neg c18] at H
   have c18b0 : decide (x25_1 < (y699.length : Int)) = false := df c18
   clear c18
   have H' := am H
   clear H
   obtain ⟨hcz24_0, hcz24_1, hcz24_2, hcz24_3, hcz24_4, hcz24_5, hfz24_0, hfz24_1, hfz24_2, hfz24_3, hfz24_4, hfz24_5⟩ := bk6 BK695.out
   go_wp2
   go_loopg [3, 39] k1 (fun kq v3 v39 w' => ∃ (x3_2 : ByteArray) (x39_2 : Int), v3 = .string x3_2 ∧ v39 = .int .i64 x39_2 ∧ Aside0 (Zcq.l1 kq x3_2 l0_4 (l0_4.length : Int) x39_2 = some r) ∧ Aside0 (kq ≤ k1) ∧ Aside0 (w'.heap[gb695]? = some (.cells #[.int .i64 a0_0, .int .i64 a0_1, .string a0_2, .string a0_3, (.slice A0_4 l0_4.length c0_4), .string a0_5] 34 (0, 0))) ∧ Aside0 (Below w.heap.size w w'))
   case atStart => exact ⟨(x3_1), (0), (by first | rfl | (simp; done) | simp [*]), (by first | rfl | (simp; done) | simp [*]), H', ⟨Nat.le_refl _⟩, ⟨vk BK695.out⟩, ⟨vb HB.out⟩⟩
   case round =>
    clear H'
    (try clear c1); (try clear c2); (try clear p2); (try clear c3); (try clear c3b0); (try clear c3b1); (try clear c5); (try clear c5b0); (try clear c5b1); (try clear c5b2); (try clear p6); (try clear c7); (try clear c7b0); (try clear c7b1); (try clear c7b2); (try clear p7); (try clear q7); (try clear hx7); (try clear c16); (try clear c18); (try clear c18b0); (try clear c19); (try clear c19b0); (try clear c20); (try clear c20b0); (try clear c21); (try clear c21b0); (try clear c21b1); (try clear c22); (try clear c22b0); (try clear c22b1); (try clear c22b2); (try clear c23); (try clear c23b0); (try clear c23b1); (try clear c23b2); (try clear hcz14_0); (try clear hcz14_1); (try clear hcz14_2); (try clear hcz14_3); (try clear hcz14_4); (try clear hcz14_5); (try clear hcz24_0); (try clear hcz24_1); (try clear hcz24_2); (try clear hcz24_3); (try clear hcz24_4); (try clear hcz24_5); (try clear hcz9_0); (try clear hcz9_1); (try clear hcz9_2); (try clear hcz9_3); (try clear hcz9_4); (try clear hcz9_5); (try clear hfz14_0); (try clear hfz14_1); (try clear hfz14_2); (try clear hfz14_3); (try clear hfz14_4); (try clear hfz14_5); (try clear hfz24_0); (try clear hfz24_1); (try clear hfz24_2); (try clear hfz24_3); (try clear hfz24_4); (try clear hfz24_5); (try clear hfz9_0); (try clear hfz9_1); (try clear hfz9_2); (try clear hfz9_3); (try clear hfz9_4); (try clear hfz9_5); (try clear hx702_0); (try clear p2); (try clear p702); (try clear q702)
    obtain ⟨x3_2, x39_2, rfl, rfl, HA, HK2, BK695, HB⟩ := hrel
    cases gk with
    | zero => exact absurd HA.out (by simp [Zcq.l1])
    | succ k2 =>
     have H := HA.out
     clear HA
     simp only [Zcq.l1] at H
     by_cases c25 : x39_2 < (l0_4.length : Int)
     rotate_left
     ·rw [if_neg c25] at H
      have c25b0 : decide (x39_2 < (l0_4.length : Int)) = false := df c25
      clear c25
      by_cases c32 : x3_2.size + 1 ≤ 9223372036854775807
      rotate_left
      ·rw [if_neg c32] at H
       exact absurd H (by simp)
      rw [if_pos c32] at H
      have c32b0 := eq_true c32
      have c32b1 : decide (x3_2.size + 1 ≤ 9223372036854775807) = true := de c32
      try have c32b2 : (9223372036854775807 < x3_2.size + 1) = False := eq_false (Nat.not_lt.2 c32)
      try have c32z := c32b2
      try simp only [ByteArray.size_append, bsz_] at c32z
      obtain rfl := Option.some.inj H
      go_wp2
      go_ret
      exact ⟨by rfl, vb HB.out⟩
     rw [if_pos c25] at H
     have c25b0 : decide (x39_2 < (l0_4.length : Int)) = true := de c25
     clear c25
     by_cases c26 : 0 ≤ x39_2
     rotate_left
     ·rw [if_neg c26] at H
      exact absurd H (by simp)
     rw [if_pos c26] at H
     have c26b0 : decide (0 ≤ x39_2) = true := de c26
     clear c26
     by_cases c27 : x39_2 < (l0_4.length : Int)
     rotate_left
     ·rw [if_neg c27] at H
      exact absurd H (by simp)
     rw [if_pos c27] at H
     have c27b0 : decide (x39_2 < (l0_4.length : Int)) = true := de c27
     clear c27
     replace H := be H
     obtain ⟨t704, A280, H⟩ := H
     try dsimp only at H
     have A28 := am A280
     clear A280
     by_cases c29 : 1 + t704.size ≤ 9223372036854775807
     rotate_left
     ·rw [if_neg c29] at H
      exact absurd H (by simp)
     rw [if_pos c29] at H
     have c29b0 := eq_true c29
     have c29b1 : decide (1 + t704.size ≤ 9223372036854775807) = true := de c29
     try have c29b2 : (9223372036854775807 < 1 + t704.size) = False := eq_false (Nat.not_lt.2 c29)
     try have c29z := c29b2
     try simp only [ByteArray.size_append, bsz_] at c29z
     by_cases c30 : x3_2.size + ((⟨#[32]⟩ : ByteArray) ++ t704).size ≤ 9223372036854775807
     rotate_left
     ·rw [if_neg c30] at H
      exact absurd H (by simp)
     rw [if_pos c30] at H
     have c30b0 := eq_true c30
     have c30b1 : decide (x3_2.size + ((⟨#[32]⟩ : ByteArray) ++ t704).size ≤ 9223372036854775807) = true := de c30
     try have c30b2 : (9223372036854775807 < x3_2.size + ((⟨#[32]⟩ : ByteArray) ++ t704).size) = False := eq_false (Nat.not_lt.2 c30)
     try have c30z := c30b2
     try simp only [ByteArray.size_append, bsz_] at c30z
     have H' := am H
     clear H
     have p703 : 0 ≤ (x39_2 : Int) := od (by with_reducible assumption)
     have q703 : x39_2 < (l0_4.length : Int) := od (by with_reducible assumption)
     obtain ⟨ad703, e703, hx703_0⟩ := Kd.at_int HR0_4.out x39_2 p703 q703
     cases e703
     replace hx703_0 := cb HB.out hx703_0
     replace p703 := eq_true p703
     replace q703 := eq_true q703
     go_wp2_with (first | ((with_reducible refine gate_callee (f := 39) rfl ?_); refine goesL_ (some 45) rfl rfl Tryz.func39 (by kernel_rfl) rfl #[.int .i64 (rd l0_4 x39_2)] rfl (by (try simp only [mT, mC, mN]); first | done | rfl) ?_; (with_reducible refine (Zbr.calls (rd l0_4 x39_2) t704 _ (Glob.below hgl (vb HB.out)) A28.out).mono ?_); rintro e w31 ⟨rfl, hb⟩; refine ⟨_, rfl, ?_⟩; replace BK695 := kb BK695.out hb; replace HB := bs HB.out hb; (try clear hb)))
     go_roundg k2
     case measure => have := HK1.out; have := HK2.out; omega
     case rel => exact ⟨(x3_2 ++ ((⟨#[32]⟩ : ByteArray) ++ t704)), (wrap64 (x39_2 + 1)), (by first | rfl | (simp; done) | simp [*]), (by first | rfl | (simp; done) | simp [*]), H', ⟨by have := HK1.out; have := HK2.out; omega⟩, ⟨vk BK695.out⟩, ⟨vb HB.out⟩⟩
end Go.Proofs.YtjgifmakhnkmdaaGreatDoor.XRep
