import Derived.Test.YtjgifmakhnkmdaaGreatDoorZExtX
import Derived.Test.YtjgifmakhnkmdaaGreatDoorZExtS
import Derived.Test.YtjgifmakhnkmdaaGreatDoorZCutS
import Derived.Test.YtjgifmakhnkmdaaGreatDoorZCmp
namespace Go.Proofs.YtjgifmakhnkmdaaGreatDoor.XRep
open Go.RowKit Go.Proofs.YtjgifmakhnkmdaaGreatDoorW.PrintWords Go.Proofs.YtjgifmakhnkmdaaGreatDoorW.PrintLast Go.Proofs.YtjgifmakhnkmdaaGreatDoorW.PrintMore Go.Proofs.YtjgifmakhnkmdaaGreatDoor.Cmp
set_option linter.unusedVariables false
set_option linter.unusedSimpArgs false
mutual
def Zaa.l0 : Nat → List (S34) → List (S34) → ByteArray → Int → ByteArray → Int → Option (Bool)
 | 0, _, _, _, _, _, _ => none
 | k + 1, x0, x5, x7, x9, x10, x11 => if x11 < (x0.length : Int) then (Zaa.j1 k x0 x5 x7 x9 x10 x11 (decide (x9 < (x5.length : Int)))) else (Zaa.j1 k x0 x5 x7 x9 x10 x11 false)
def Zaa.j1 : Nat → List (S34) → List (S34) → ByteArray → Int → ByteArray → Int → Bool → Option (Bool)
 | 0, _, _, _, _, _, _, _ => none
 | k + 1, x0, x5, x7, x9, x10, x11, x41 => if x41 = true then (if 0 ≤ x9 then (if x9 < (x5.length : Int) then (if 0 ≤ x11 then (if x11 < (x0.length : Int) then ((Zag.f k ((rd_T34 x5 x9).f0) ((rd_T34 x5 x9).f1) ((rd_T34 x5 x9).f2) ((rd_T34 x5 x9).f3) ((rd_T34 x5 x9).f4) ((rd_T34 x5 x9).f5) ((rd_T34 x0 x11).f0) ((rd_T34 x0 x11).f1) ((rd_T34 x0 x11).f2) ((rd_T34 x0 x11).f3) ((rd_T34 x0 x11).f4) ((rd_T34 x0 x11).f5)).bind fun t716 => (if t716 = true then ((Zcq.f k ((rd_T34 x5 x9).f0) ((rd_T34 x5 x9).f1) ((rd_T34 x5 x9).f2) ((rd_T34 x5 x9).f3) ((rd_T34 x5 x9).f4) ((rd_T34 x5 x9).f5)).bind fun t718 => (if x10.size + t718.size ≤ 9223372036854775807 then (Zaa.l0 k x0 x5 x7 (wrap64 (x9 + 1)) (x10 ++ t718) (wrap64 (x11 + 1))) else (none))) else (Zaa.l0 k x0 x5 x7 x9 x10 (wrap64 (x11 + 1))))) else (none)) else (none)) else (none)) else (none)) else (if x9 = (x5.length : Int) then (if x7.toList = x10.toList then ((Zaz.f).bind fun t713 => (some t713)) else (some false)) else (some false))
end
def Zaa.f (k : Nat) (l0 : List (S34)) (a1 : ByteArray) : Option (Bool) := (Zba.f k l0 a1).bind fun t705 => (if t705 = true then ((Zbs.f l0 a1).bind fun bt707 => ((Zce.f l0 a1).bind fun bt711 => (if bt707.2 = bt711.2 then (Zaa.l0 k l0 bt707.1 bt711.1 0 (⟨#[]⟩ : ByteArray) 0) else (some false)))) else ((Zaz.f).bind fun t706 => (some t706)))
def Zaa.T11 : Bool × List (List Nat × List Nat) := (true, [([], []), ([], []), ([0, 1], [0, 1]), ([2], [2]), ([], []), ([], []), ([4, 5], [4, 5]), ([6], [6]), ([3, 7], [3, 7])])
def Zaa.B11 : List Nat := [0, 0, 3, 7, 0, 0, 48, 112, 255]
theorem Zaa.tab11 : rtab .any (opsOf Tryz.f5 11) = Zaa.T11 := by kernel_rfl
theorem Zaa.bits11 : waitsOk Zaa.T11.2 Zaa.B11 = true := by kernel_rfl
set_option maxHeartbeats 8000000 in
set_option maxRecDepth 100000 in
theorem Zaa.calls (k : Nat) (A0 : Option Addr) (c0 : Nat) (l0 : List (S34)) (a1 : ByteArray) (r : Bool) (w : World) (hgl : Glob w) (hr0 : Kd.C k34 w A0 l0.length l0) (hc0 : l0.length ≤ c0) (h : Zaa.f k l0 a1 = some r) :
  Calls Tryz.prog 5 #[.slice A0 l0.length c0, .string a1] w fun e w' => e = .returned (.bool r) ∧ Below w.heap.size w w' := by
 have hu34 := Tryz.underlying34
 have HR0 := am hr0
 have HC0 := am hc0
 clear hr0 hc0
 have HB := am (Below.refl w.heap.size w)
 have H : ((Zba.f k l0 a1).bind fun t705 => (if t705 = true then ((Zbs.f l0 a1).bind fun bt707 => ((Zce.f l0 a1).bind fun bt711 => (if bt707.2 = bt711.2 then (Zaa.l0 k l0 bt707.1 bt711.1 0 (⟨#[]⟩ : ByteArray) 0) else (some false)))) else ((Zaz.f).bind fun t706 => (some t706)))) = some r := h
 clear h
 replace H := be H
 obtain ⟨t705, A30, H⟩ := H
 try dsimp only at H
 have A3 := am A30
 clear A30
 by_cases c4 : t705 = true
 rotate_left
 ·replace c4 := Bool.eq_false_iff.mpr c4
  subst c4
  rw [if_neg (show ¬ (false = true) by decide)] at H
  replace H := be H
  obtain ⟨t706, A400, H⟩ := H
  try dsimp only at H
  have A40 := am A400
  clear A400
  obtain rfl := Option.some.inj H
  go_enter Tryz.func5, Tryz.ntmps5
  go_wp2_with (first | ((with_reducible refine gate_callee (f := 6) rfl ?_); refine goesL_ (some 14) rfl rfl Tryz.func6 (by kernel_rfl) rfl #[.slice A0 l0.length c0, .string a1] rfl (by (try simp only [mT, mC, mN]); first | done | rfl) ?_; (with_reducible refine (Zba.calls k _ _ l0 a1 false _ ?side1 ?side2 A3.out).mono ?_); (case side1 => exact vC HR0.out); (case side2 => exact HC0.out); rintro e w41 ⟨rfl, hb⟩; refine ⟨_, rfl, ?_⟩; replace HB := bs HB.out hb; (try clear hb)) | ((with_reducible refine gate_callee (f := 7) rfl ?_); refine goesL_ (some 16) rfl rfl Tryz.func7 (by kernel_rfl) rfl #[] rfl (by (try simp only [mT, mC, mN]); first | done | rfl) ?_; (with_reducible refine (Zaz.calls  t706 _ (Glob.below hgl (vb HB.out)) A40.out).mono ?_); rintro e w42 ⟨rfl, hb⟩; refine ⟨_, rfl, ?_⟩; replace HB := bs HB.out hb; (try clear hb)))
  go_ret
  exact ⟨by rfl, vb HB.out⟩
 subst c4
 rw [if_pos rfl] at H
 replace H := be H
 obtain ⟨⟨t707, t708⟩, A50, H⟩ := H
 try dsimp only at H
 have A5 := am A50
 clear A50
 replace H := be H
 obtain ⟨⟨t711, t712⟩, A60, H⟩ := H
 try dsimp only at H
 have A6 := am A60
 clear A60
 by_cases c7 : t708 = t712
 rotate_left
 ·rw [if_neg c7] at H
  have c7b0 : (t708 == t712) = false := beq_eq_false_iff_ne.mpr c7
  have c7b1 : (t708 != t712) = true := bne_iff_ne.mpr c7
  obtain rfl := Option.some.inj H
  go_enter Tryz.func5, Tryz.ntmps5
  go_wp2_with (first | ((with_reducible refine gate_callee (f := 6) rfl ?_); refine goesL_ (some 14) rfl rfl Tryz.func6 (by kernel_rfl) rfl #[.slice A0 l0.length c0, .string a1] rfl (by (try simp only [mT, mC, mN]); first | done | rfl) ?_; (with_reducible refine (Zba.calls k _ _ l0 a1 true _ ?side1 ?side2 A3.out).mono ?_); (case side1 => exact vC HR0.out); (case side2 => exact HC0.out); rintro e w37 ⟨rfl, hb⟩; refine ⟨_, rfl, ?_⟩; replace HB := bs HB.out hb; (try clear hb)) | ((with_reducible refine gate_callee (f := 8) rfl ?_); refine goesL_ (some 20) rfl rfl Tryz.func8 (by kernel_rfl) rfl #[.slice A0 l0.length c0, .string a1] rfl (by (try simp only [mT, mC, mN]); first | done | rfl) ?_; (with_reducible refine (Zbs.calls _ _ l0 a1 t707 t708 _ ?side1 ?side2 A5.out).mono ?_); (case side1 => exact vC (Kd.C_below HR0.out HB.out)); (case side2 => exact HC0.out); rintro e w38 ⟨v709, rfl, ho0, hb⟩; refine ⟨_, rfl, ?_⟩; have HO710 := am (Kd.N_lower ho0 (below_size (vb HB.out))); replace HB := bs HB.out hb; (try clear hb)) | ((with_reducible refine gate_callee (f := 11) rfl ?_); refine goesL_ (some 26) rfl rfl Tryz.func11 (by kernel_rfl) rfl #[.slice A0 l0.length c0, .string a1] rfl (by (try simp only [mT, mC, mN]); first | done | rfl) ?_; (with_reducible refine (Zce.calls _ _ l0 a1 t711 t712 _ (Glob.below hgl (vb HB.out)) ?side1 ?side2 A6.out).mono ?_); (case side1 => exact vC (Kd.C_below HR0.out HB.out)); (case side2 => exact HC0.out); rintro e w39 ⟨rfl, hb⟩; refine ⟨_, rfl, ?_⟩; replace HO710 := kN HO710.out hb; replace HB := bs HB.out hb; (try clear hb)))
  go_ret
  exact ⟨by rfl, vb HB.out⟩
 rw [if_pos c7] at H
 have c7b0 : (t708 == t712) = true := beq_iff_eq.mpr c7
 have c7b1 : (t708 != t712) = false := bne_eq_false_iff_eq.mpr c7
 clear c7
 have H' := am H
 clear H
 go_enter Tryz.func5, Tryz.ntmps5
 go_wp2_with (first | ((with_reducible refine gate_callee (f := 6) rfl ?_); refine goesL_ (some 14) rfl rfl Tryz.func6 (by kernel_rfl) rfl #[.slice A0 l0.length c0, .string a1] rfl (by (try simp only [mT, mC, mN]); first | done | rfl) ?_; (with_reducible refine (Zba.calls k _ _ l0 a1 true _ ?side1 ?side2 A3.out).mono ?_); (case side1 => exact vC HR0.out); (case side2 => exact HC0.out); rintro e w8 ⟨rfl, hb⟩; refine ⟨_, rfl, ?_⟩; replace HB := bs HB.out hb; (try clear hb)) | ((with_reducible refine gate_callee (f := 8) rfl ?_); refine goesL_ (some 20) rfl rfl Tryz.func8 (by kernel_rfl) rfl #[.slice A0 l0.length c0, .string a1] rfl (by (try simp only [mT, mC, mN]); first | done | rfl) ?_; (with_reducible refine (Zbs.calls _ _ l0 a1 t707 t708 _ ?side1 ?side2 A5.out).mono ?_); (case side1 => exact vC (Kd.C_below HR0.out HB.out)); (case side2 => exact HC0.out); rintro e w9 ⟨v709, rfl, ho0, hb⟩; refine ⟨_, rfl, ?_⟩; have HO710 := am (Kd.N_lower ho0 (below_size (vb HB.out))); replace HB := bs HB.out hb; (try clear hb)) | ((with_reducible refine gate_callee (f := 11) rfl ?_); refine goesL_ (some 26) rfl rfl Tryz.func11 (by kernel_rfl) rfl #[.slice A0 l0.length c0, .string a1] rfl (by (try simp only [mT, mC, mN]); first | done | rfl) ?_; (with_reducible refine (Zce.calls _ _ l0 a1 t711 t712 _ (Glob.below hgl (vb HB.out)) ?side1 ?side2 A6.out).mono ?_); (case side1 => exact vC (Kd.C_below HR0.out HB.out)); (case side2 => exact HC0.out); rintro e w10 ⟨rfl, hb⟩; refine ⟨_, rfl, ?_⟩; replace HO710 := kN HO710.out hb; replace HB := bs HB.out hb; (try clear hb)))
 go_loopg [9, 10, 11] k (fun kq v9 v10 v11 w' => ∃ (x9_1 : Int) (x10_1 : ByteArray) (x11_1 : Int), v9 = .int .i64 x9_1 ∧ v10 = .string x10_1 ∧ v11 = .int .i64 x11_1 ∧ Aside0 (Zaa.l0 kq l0 t707 t711 x9_1 x10_1 x11_1 = some r) ∧ Aside0 (kq ≤ k) ∧ Aside0 (Kd.N k34 34 w' w.heap.size (fun _ => True) v709 t707) ∧ Aside0 (Below w.heap.size w w'))
 case atStart => exact ⟨(0), ((⟨#[]⟩ : ByteArray)), (0), (by first | rfl | (simp; done) | simp [*]), (by first | rfl | (simp; done) | simp [*]), (by first | rfl | (simp; done) | simp [*]), H', ⟨Nat.le_refl _⟩, ⟨vN HO710.out⟩, ⟨vb HB.out⟩⟩
 case round =>
  clear H'
  (try clear c1); (try clear p2); (try clear c4); (try clear c5); (try clear c6); (try clear c7); (try clear c7b0); (try clear c7b1); (try clear c8)
  obtain ⟨x9_1, x10_1, x11_1, rfl, rfl, rfl, HA, HK1, HO_5, HB⟩ := hrel
  cases gk with
  | zero => exact absurd HA.out (by simp [Zaa.l0])
  | succ k1 =>
   have H := HA.out
   clear HA
   simp only [Zaa.l0] at H
   have HC11 := am H
   clear H
   go_upto_region 9 with (fail)
   go_cut [41] (fun v41 wc => ∃ (kq : Nat) (x41_10 : Bool), v41 = .bool x41_10 ∧ Aside0 (Zaa.j1 kq l0 t707 t711 x9_1 x10_1 x11_1 x41_10 = some r) ∧ Aside0 (kq ≤ k1) ∧ Aside0 (Kd.N k34 34 wc w.heap.size (fun _ => True) v709 t707) ∧ Aside0 (Below w.heap.size w wc))
   case first =>
    have H := HC11.out
    clear HC11
    by_cases c12 : x11_1 < (l0.length : Int)
    rotate_left
    ·rw [if_neg c12] at H
     have c12b0 : decide (x11_1 < (l0.length : Int)) = false := df c12
     clear c12
     (first | rw [c12b0] | (simp only [i64_w]; rw [c12b0]) | skip)
     have H' := am H
     clear H
     go_wp2
     go_meet
     case rel => exact ⟨_, (false), (by first | rfl | (simp; done) | simp [*]), H', ⟨by have := HK1.out; first | omega | exact Nat.le_refl _⟩, ⟨vN HO_5.out⟩, ⟨vb HB.out⟩⟩
    rw [if_pos c12] at H
    have c12b0 : decide (x11_1 < (l0.length : Int)) = true := de c12
    clear c12
    (first | rw [c12b0] | (simp only [i64_w]; rw [c12b0]) | skip)
    have H' := am H
    clear H
    obtain ⟨Ao13, co13, eo13⟩ := Kd.N_slice HO_5.out
    subst eo13
    go_wp2
    go_meet
    case rel => exact ⟨_, (decide (x9_1 < (t707.length : Int))), (by first | rfl | (simp; done) | simp [*]), H', ⟨by have := HK1.out; first | omega | exact Nat.le_refl _⟩, ⟨vN HO_5.out⟩, ⟨vb HB.out⟩⟩
   case rest =>
    clear HC11
    (try clear c1); (try clear p2); (try clear c4); (try clear c5); (try clear c6); (try clear c7); (try clear c7b0); (try clear c7b1); (try clear c8); (try clear c11); (try clear c12); (try clear c12b0); (try clear p2)
    obtain ⟨kq, x41_10, rfl, HA, HJ10, HO_5, HB⟩ := hcut
    cases kq with
    | zero => exact absurd HA.out (by simp [Zaa.j1])
    | succ kj10 =>
     have H := HA.out
     clear HA
     simp only [Zaa.j1] at H
     by_cases c14 : x41_10 = true
     rotate_left
     ·replace c14 := Bool.eq_false_iff.mpr c14
      subst c14
      rw [if_neg (show ¬ (false = true) by decide)] at H
      by_cases c30 : x9_1 = (t707.length : Int)
      rotate_left
      ·rw [if_neg c30] at H
       have c30b0 : (x9_1 == (t707.length : Int)) = false := beq_eq_false_iff_ne.mpr c30
       have c30b1 : (x9_1 != (t707.length : Int)) = true := bne_iff_ne.mpr c30
       obtain rfl := Option.some.inj H
       obtain ⟨Ao36, co36, eo36⟩ := Kd.N_slice HO_5.out
       subst eo36
       go_wp2
       go_ret
       exact ⟨by rfl, vb HB.out⟩
      rw [if_pos c30] at H
      have c30b0 : (x9_1 == (t707.length : Int)) = true := beq_iff_eq.mpr c30
      have c30b1 : (x9_1 != (t707.length : Int)) = false := bne_eq_false_iff_eq.mpr c30
      clear c30
      by_cases c31 : t711.toList = x10_1.toList
      rotate_left
      ·rw [if_neg c31] at H
       have c31b0 : (t711.toList == x10_1.toList) = false := beq_eq_false_iff_ne.mpr c31
       have c31b1 : (t711.toList != x10_1.toList) = true := bne_iff_ne.mpr c31
       obtain rfl := Option.some.inj H
       obtain ⟨Ao35, co35, eo35⟩ := Kd.N_slice HO_5.out
       subst eo35
       go_wp2
       go_ret
       exact ⟨by rfl, vb HB.out⟩
      rw [if_pos c31] at H
      have c31b0 : (t711.toList == x10_1.toList) = true := beq_iff_eq.mpr c31
      have c31b1 : (t711.toList != x10_1.toList) = false := bne_eq_false_iff_eq.mpr c31
      clear c31
      replace H := be H
      obtain ⟨t713, A320, H⟩ := H
      try dsimp only at H
      have A32 := am A320
      clear A320
      obtain rfl := Option.some.inj H
      obtain ⟨Ao33, co33, eo33⟩ := Kd.N_slice HO_5.out
      subst eo33
      go_wp2_with (first | (go_at_call 7; (with_reducible refine (Zaz.calls  t713 _ (Glob.below hgl (vb HB.out)) A32.out).mono ?_); rintro e w34 ⟨rfl, hb⟩; replace HO_5 := kN HO_5.out hb; replace HB := bs HB.out hb; (try clear hb)))
      go_ret
      exact ⟨by rfl, vb HB.out⟩
     subst c14
     rw [if_pos rfl] at H
     by_cases c15 : 0 ≤ x9_1
     rotate_left
     ·rw [if_neg c15] at H
      exact absurd H (by simp)
     rw [if_pos c15] at H
     have c15b0 : decide (0 ≤ x9_1) = true := de c15
     clear c15
     by_cases c16 : x9_1 < (t707.length : Int)
     rotate_left
     ·rw [if_neg c16] at H
      exact absurd H (by simp)
     rw [if_pos c16] at H
     have c16b0 : decide (x9_1 < (t707.length : Int)) = true := de c16
     clear c16
     by_cases c17 : 0 ≤ x11_1
     rotate_left
     ·rw [if_neg c17] at H
      exact absurd H (by simp)
     rw [if_pos c17] at H
     have c17b0 : decide (0 ≤ x11_1) = true := de c17
     clear c17
     by_cases c18 : x11_1 < (l0.length : Int)
     rotate_left
     ·rw [if_neg c18] at H
      exact absurd H (by simp)
     rw [if_pos c18] at H
     have c18b0 : decide (x11_1 < (l0.length : Int)) = true := de c18
     clear c18
     replace H := be H
     obtain ⟨t716, A190, H⟩ := H
     try dsimp only at H
     have A19 := am A190
     clear A190
     by_cases c20 : t716 = true
     rotate_left
     ·replace c20 := Bool.eq_false_iff.mpr c20
      subst c20
      rw [if_neg (show ¬ (false = true) by decide)] at H
      have H' := am H
      clear H
      try go_wp2
      replace HO_5 := am (Kd.N_drew HO_5.out)
      replace HB := am (below_drew1 HB.out)
      obtain ⟨Ao28, co28, eo28⟩ := Kd.N_slice HO_5.out
      (first | subst eo28 | (injection eo28 with f1_ f2_ f3_; have f4_ := f1_.symm; have f5_ := f3_.symm; clear f1_ f2_ f3_; subst f4_; subst f5_))
      have p714 : 0 ≤ (x9_1 : Int) := od (by with_reducible assumption)
      have q714 : x9_1 < (t707.length : Int) := od (by with_reducible assumption)
      obtain ⟨ad714, A714_4, c714_4, e714, hx714_0, hx714_1, hx714_2, hx714_3, hx714_4, hx714_5, hl714_4, hi714_4⟩ := at_T34 (Kd.N_reads' HO_5.out).2.2 x9_1 p714 q714
      cases e714
      obtain ⟨ce714, hce714, hMe714, hcc714⟩ := Kd.N_get HO_5.out z34 x9_1 p714 (by first | exact q714 | exact od (by with_reducible assumption) | (have e_ := (Kd.N_reads' HO_5.out).1; omega))
      obtain ⟨ua714_4, uc714_4, rfl, ul714_4, ge714_4⟩ := k34_openF hMe714
      have hv714_4 := hcc714 4 _ rfl
      rw [add_field _ _ 4 (by omega)] at hv714_4
      replace hv714_4 := Option.some.inj (hv714_4.symm.trans hx714_4)
      injection hv714_4 with hva_ hvn_ hvc_
      rw [hva_] at ge714_4
      rw [hvc_] at ul714_4
      have HL714_4 := am (show Kd.V (Kd.int .i64) 3 _ w.heap.size _ _ ((rd_T34 t707 x9_1).f4) from Kd.V_mk ul714_4 ge714_4)
      clear hva_ hvn_ hvc_ ge714_4 ul714_4
      clear hcc714 hce714
      have HR714_4 := am hi714_4
      have HC714_4 := am hl714_4
      clear hi714_4 hl714_4
      replace p714 := eq_true p714
      replace q714 := eq_true q714
      have p715 : 0 ≤ (x11_1 : Int) := od (by with_reducible assumption)
      have q715 : x11_1 < (l0.length : Int) := od (by with_reducible assumption)
      obtain ⟨ad715, A715_4, c715_4, e715, hx715_0, hx715_1, hx715_2, hx715_3, hx715_4, hx715_5, hl715_4, hi715_4⟩ := at_T34 HR0.out x11_1 p715 q715
      have hw715_5 := hx715_5
      have hw715_4 := hx715_4
      have hw715_3 := hx715_3
      have hw715_2 := hx715_2
      have hw715_1 := hx715_1
      have hw715_0 := hx715_0
      cases e715
      replace hx715_0 := cb HB.out hx715_0
      replace hx715_1 := cb HB.out hx715_1
      replace hx715_2 := cb HB.out hx715_2
      replace hx715_3 := cb HB.out hx715_3
      replace hx715_4 := cb HB.out hx715_4
      replace hx715_5 := cb HB.out hx715_5
      have HR715_4 := am hi715_4
      have HC715_4 := am hl715_4
      clear hi715_4 hl715_4
      replace p715 := eq_true p715
      replace q715 := eq_true q715
      refine start_ (n := 9) (S := fun w' => w'.cell? (ad714.add ((x9_1).toNat * 6)) = some (.int .i64 ((rd_T34 t707 x9_1).f0)) ∧ w'.cell? ⟨(ad714.add ((x9_1).toNat * 6)).block, (ad714.add ((x9_1).toNat * 6)).off + 1, none⟩ = some (.int .i64 ((rd_T34 t707 x9_1).f1)) ∧ w'.cell? ⟨(ad714.add ((x9_1).toNat * 6)).block, (ad714.add ((x9_1).toNat * 6)).off + 2, none⟩ = some (.string ((rd_T34 t707 x9_1).f2)) ∧ w'.cell? ⟨(ad714.add ((x9_1).toNat * 6)).block, (ad714.add ((x9_1).toNat * 6)).off + 3, none⟩ = some (.string ((rd_T34 t707 x9_1).f3)) ∧ w'.cell? ⟨(ad714.add ((x9_1).toNat * 6)).block, (ad714.add ((x9_1).toNat * 6)).off + 4, none⟩ = some (.slice A714_4 ((rd_T34 t707 x9_1).f4).length c714_4) ∧ w'.cell? ⟨(ad714.add ((x9_1).toNat * 6)).block, (ad714.add ((x9_1).toNat * 6)).off + 5, none⟩ = some (.string ((rd_T34 t707 x9_1).f5)) ∧ w'.cell? (ad715.add ((x11_1).toNat * 6)) = some (.int .i64 ((rd_T34 l0 x11_1).f0)) ∧ w'.cell? ⟨(ad715.add ((x11_1).toNat * 6)).block, (ad715.add ((x11_1).toNat * 6)).off + 1, none⟩ = some (.int .i64 ((rd_T34 l0 x11_1).f1)) ∧ w'.cell? ⟨(ad715.add ((x11_1).toNat * 6)).block, (ad715.add ((x11_1).toNat * 6)).off + 2, none⟩ = some (.string ((rd_T34 l0 x11_1).f2)) ∧ w'.cell? ⟨(ad715.add ((x11_1).toNat * 6)).block, (ad715.add ((x11_1).toNat * 6)).off + 3, none⟩ = some (.string ((rd_T34 l0 x11_1).f3)) ∧ w'.cell? ⟨(ad715.add ((x11_1).toNat * 6)).block, (ad715.add ((x11_1).toNat * 6)).off + 4, none⟩ = some (.slice A715_4 ((rd_T34 l0 x11_1).f4).length c715_4) ∧ w'.cell? ⟨(ad715.add ((x11_1).toNat * 6)).block, (ad715.add ((x11_1).toNat * 6)).off + 5, none⟩ = some (.string ((rd_T34 l0 x11_1).f5))) (ds := []) #[false, false, false, false, false, false, false, false, false] (by kernel_rfl) rfl rfl ⟨hx714_0, hx714_1, hx714_2, hx714_3, hx714_4, hx714_5, ((HB.out.cell (World.block_lt_of_cell? w _ hw715_0)).trans hw715_0), ((HB.out.cell (World.block_lt_of_cell? w _ hw715_1)).trans hw715_1), ((HB.out.cell (World.block_lt_of_cell? w _ hw715_2)).trans hw715_2), ((HB.out.cell (World.block_lt_of_cell? w _ hw715_3)).trans hw715_3), ((HB.out.cell (World.block_lt_of_cell? w _ hw715_4)).trans hw715_4), ((HB.out.cell (World.block_lt_of_cell? w _ hw715_5)).trans hw715_5)⟩ (fun hHeld => ?_); refine with_tabW Zaa.tab11 Zaa.bits11 (fun HT_ HW_ => ?_)
      generalize wc.drew = w27 at HO_5 HB HL714_4 HR714_4 HR715_4 hx714_0 hx714_1 hx714_2 hx714_3 hx714_4 hx714_5 hx715_0 hx715_1 hx715_2 hx715_3 hx715_4 hx715_5 hHeld ⊢
      refine pure_ (i := 0) (N := some 44) (v := ?_) (a' := ?_) #[true, false, false, false, false, false, false, false, false] rfl rfl (any_of HT_.out (by kernel_rfl)) (fun _ _ _ h => h) (Or.inl ⟨by rfl, ?_⟩) ?_ ?_
      rotate_left
      ·intro w'
       go_simp
       with_reducible rfl
      rotate_left
      ·simp only [Act.put, List.setIfInBounds_toArray, List.set_cons_zero, List.set_cons_succ, i64_w]
       rfl
      refine pure_ (i := 1) (N := some 45) (v := ?_) (a' := ?_) #[true, true, false, false, false, false, false, false, false] rfl rfl (any_of HT_.out (by kernel_rfl)) (fun _ _ _ h => h) (Or.inl ⟨by rfl, ?_⟩) ?_ ?_
      rotate_left
      ·intro w'
       go_simp
       with_reducible rfl
      rotate_left
      ·simp only [Act.put, List.setIfInBounds_toArray, List.set_cons_zero, List.set_cons_succ, i64_w]
       rfl
      refine pure_ (i := 2) (N := some 46) (v := ?_) (a' := ?_) #[true, true, true, false, false, false, false, false, false] rfl rfl (any_of HT_.out (by kernel_rfl)) (fun _ _ _ h => h) (Or.inl ⟨by rfl, ?_⟩) ?_ ?_
      rotate_left
      ·intro w'
       go_simp
       with_reducible rfl
      rotate_left
      ·simp only [Act.put, List.setIfInBounds_toArray, List.set_cons_zero, List.set_cons_succ, i64_w]
       rfl
      refine pure_ (i := 4) (N := some 48) (v := ?_) (a' := ?_) #[true, true, true, false, true, false, false, false, false] rfl rfl (any_of HT_.out (by kernel_rfl)) (fun _ _ _ h => h) (Or.inl ⟨by rfl, ?_⟩) ?_ ?_
      rotate_left
      ·intro w'
       go_simp
       with_reducible rfl
      rotate_left
      ·simp only [Act.put, List.setIfInBounds_toArray, List.set_cons_zero, List.set_cons_succ, i64_w]
       rfl
      refine pure_ (i := 5) (N := some 49) (v := ?_) (a' := ?_) #[true, true, true, false, true, true, false, false, false] rfl rfl (any_of HT_.out (by kernel_rfl)) (fun _ _ _ h => h) (Or.inl ⟨by rfl, ?_⟩) ?_ ?_
      rotate_left
      ·intro w'
       go_simp
       with_reducible rfl
      rotate_left
      ·simp only [Act.put, List.setIfInBounds_toArray, List.set_cons_zero, List.set_cons_succ, i64_w]
       rfl
      refine pure_ (i := 6) (N := some 50) (v := ?_) (a' := ?_) #[true, true, true, false, true, true, true, false, false] rfl rfl (any_of HT_.out (by kernel_rfl)) (fun _ _ _ h => h) (Or.inl ⟨by rfl, ?_⟩) ?_ ?_
      rotate_left
      ·intro w'
       go_simp
       with_reducible rfl
      rotate_left
      ·simp only [Act.put, List.setIfInBounds_toArray, List.set_cons_zero, List.set_cons_succ, i64_w]
       rfl
      refine take_ (i := 3) (N := some 47) (v := ?_) (a' := ?_) #[true, true, true, true, true, true, true, false, false] rfl rfl (take_ofW HT_.out HW_.out (by kernel_rfl)) (fun _ _ _ h => h) (Or.inl ⟨by rfl, ?_⟩) hHeld ?_ ?_
      rotate_left
      ·rintro w' ⟨s0, s1, s2, s3, s4, s5, s6, s7, s8, s9, s10, s11⟩
       go_simp
       with_reducible rfl
      rotate_left
      ·simp only [Act.put, List.setIfInBounds_toArray, List.set_cons_zero, List.set_cons_succ, i64_w]
       rfl
      refine take_ (i := 7) (N := some 51) (v := ?_) (a' := ?_) #[true, true, true, true, true, true, true, true, false] rfl rfl (take_ofW HT_.out HW_.out (by kernel_rfl)) (fun _ _ _ h => h) (Or.inl ⟨by rfl, ?_⟩) hHeld ?_ ?_
      rotate_left
      ·rintro w' ⟨s0, s1, s2, s3, s4, s5, s6, s7, s8, s9, s10, s11⟩
       go_simp
       with_reducible rfl
      rotate_left
      ·simp only [Act.put, List.setIfInBounds_toArray, List.set_cons_zero, List.set_cons_succ, i64_w]
       rfl
      refine one_ (i := 8) (N := some 52) #[true, true, true, true, true, true, true, true, true] rfl rfl (one_of HT_.out (by kernel_rfl)) (by decide) (fun K hK => ?_)
      refine goes_ Tryz.func15 (by kernel_rfl) rfl #[.agg #[.int .i64 ((rd_T34 t707 x9_1).f0), .int .i64 ((rd_T34 t707 x9_1).f1), .string ((rd_T34 t707 x9_1).f2), .string ((rd_T34 t707 x9_1).f3), .slice A714_4 ((rd_T34 t707 x9_1).f4).length c714_4, .string ((rd_T34 t707 x9_1).f5)], .agg #[.int .i64 ((rd_T34 l0 x11_1).f0), .int .i64 ((rd_T34 l0 x11_1).f1), .string ((rd_T34 l0 x11_1).f2), .string ((rd_T34 l0 x11_1).f3), .slice A715_4 ((rd_T34 l0 x11_1).f4).length c715_4, .string ((rd_T34 l0 x11_1).f5)]] (by rfl) rfl rfl (by (try simp only [List.map_toArray, List.map_cons, List.map_nil]); first | done | rfl | (simp only [List.length_drop, List.length_take]; rfl)) ?_
      with_reducible refine (Zag.calls kj10 ((rd_T34 t707 x9_1).f0) ((rd_T34 t707 x9_1).f1) ((rd_T34 t707 x9_1).f2) ((rd_T34 t707 x9_1).f3) _ _ ((rd_T34 t707 x9_1).f4) ((rd_T34 t707 x9_1).f5) ((rd_T34 l0 x11_1).f0) ((rd_T34 l0 x11_1).f1) ((rd_T34 l0 x11_1).f2) ((rd_T34 l0 x11_1).f3) _ _ ((rd_T34 l0 x11_1).f4) ((rd_T34 l0 x11_1).f5) false _ ?side1 ?side2 ?side3 ?side4 A19.out).mono ?_
      (case side1 => exact vC HR714_4.out)
      (case side2 => exact HC714_4.out)
      (case side3 => exact vC (Kd.C_below HR715_4.out HB.out))
      (case side4 => exact HC715_4.out)
      rintro e w29 ⟨rfl, hb⟩
      have HS0_ := (hb.cell (World.block_lt_of_cell? _ _ (hHeld.1))).trans (hHeld.1)
      have HS1_ := (hb.cell (World.block_lt_of_cell? _ _ (hHeld.2.1))).trans (hHeld.2.1)
      have HS2_ := (hb.cell (World.block_lt_of_cell? _ _ (hHeld.2.2.1))).trans (hHeld.2.2.1)
      have HS3_ := (hb.cell (World.block_lt_of_cell? _ _ (hHeld.2.2.2.1))).trans (hHeld.2.2.2.1)
      have HS4_ := (hb.cell (World.block_lt_of_cell? _ _ (hHeld.2.2.2.2.1))).trans (hHeld.2.2.2.2.1)
      have HS5_ := (hb.cell (World.block_lt_of_cell? _ _ (hHeld.2.2.2.2.2.1))).trans (hHeld.2.2.2.2.2.1)
      refine ⟨_, rfl, ?_⟩
      replace HO_5 := kN HO_5.out hb
      replace HL714_4 := kV HL714_4.out hb
      replace HR714_4 := kC HR714_4.out hb
      replace HB := bs HB.out hb
      (try clear hb)
      (try clear hb2)
      (try clear hk)
      (try clear hi)
      refine hK.out _ _ ⟨HS0_, HS1_, HS2_, HS3_, HS4_, HS5_, ((HB.out.cell (World.block_lt_of_cell? w _ hw715_0)).trans hw715_0), ((HB.out.cell (World.block_lt_of_cell? w _ hw715_1)).trans hw715_1), ((HB.out.cell (World.block_lt_of_cell? w _ hw715_2)).trans hw715_2), ((HB.out.cell (World.block_lt_of_cell? w _ hw715_3)).trans hw715_3), ((HB.out.cell (World.block_lt_of_cell? w _ hw715_4)).trans hw715_4), ((HB.out.cell (World.block_lt_of_cell? w _ hw715_5)).trans hw715_5)⟩ (fun hHeld => ?_)
      clear hK K
      refine norm_ (a' := ?_) ?_ ?_
      rotate_left
      ·show Act.put _ (some 52) _ = _
       simp only [Act.put, List.setIfInBounds_toArray, List.set_cons_zero, List.set_cons_succ, i64_w]
       rfl
      refine done_ (done_of HT_.out (by kernel_rfl)) ?_
      try go_wp2
      go_roundg kj10
      case measure => have := HK1.out; have := HJ10.out; omega
      case rel => exact ⟨(x9_1), (x10_1), (wrap64 (x11_1 + 1)), (by first | rfl | (simp; done) | simp [*]), (by first | rfl | (simp; done) | simp [*]), (by first | rfl | (simp; done) | simp [*]), H', ⟨by have := HK1.out; have := HJ10.out; omega⟩, ⟨vN HO_5.out⟩, ⟨vb HB.out⟩⟩
     subst c20
     rw [if_pos rfl] at H
     replace H := be H
     obtain ⟨t718, A210, H⟩ := H
     try dsimp only at H
     have A21 := am A210
     clear A210
     by_cases c22 : x10_1.size + t718.size ≤ 9223372036854775807
     rotate_left
     ·rw [if_neg c22] at H
      exact absurd H (by simp)
     rw [if_pos c22] at H
     have c22b0 := eq_true c22
     have c22b1 : decide (x10_1.size + t718.size ≤ 9223372036854775807) = true := de c22
     try have c22b2 : (9223372036854775807 < x10_1.size + t718.size) = False := eq_false (Nat.not_lt.2 c22)
     have H' := am H
     clear H
     try go_wp2
     replace HO_5 := am (Kd.N_drew HO_5.out)
     replace HB := am (below_drew1 HB.out)
     obtain ⟨Ao24, co24, eo24⟩ := Kd.N_slice HO_5.out
     (first | subst eo24 | (injection eo24 with f1_ f2_ f3_; have f4_ := f1_.symm; have f5_ := f3_.symm; clear f1_ f2_ f3_; subst f4_; subst f5_))
     have p714 : 0 ≤ (x9_1 : Int) := od (by with_reducible assumption)
     have q714 : x9_1 < (t707.length : Int) := od (by with_reducible assumption)
     obtain ⟨ad714, A714_4, c714_4, e714, hx714_0, hx714_1, hx714_2, hx714_3, hx714_4, hx714_5, hl714_4, hi714_4⟩ := at_T34 (Kd.N_reads' HO_5.out).2.2 x9_1 p714 q714
     cases e714
     obtain ⟨ce714, hce714, hMe714, hcc714⟩ := Kd.N_get HO_5.out z34 x9_1 p714 (by first | exact q714 | exact od (by with_reducible assumption) | (have e_ := (Kd.N_reads' HO_5.out).1; omega))
     obtain ⟨ua714_4, uc714_4, rfl, ul714_4, ge714_4⟩ := k34_openF hMe714
     have hv714_4 := hcc714 4 _ rfl
     rw [add_field _ _ 4 (by omega)] at hv714_4
     replace hv714_4 := Option.some.inj (hv714_4.symm.trans hx714_4)
     injection hv714_4 with hva_ hvn_ hvc_
     rw [hva_] at ge714_4
     rw [hvc_] at ul714_4
     have HL714_4 := am (show Kd.V (Kd.int .i64) 3 _ w.heap.size _ _ ((rd_T34 t707 x9_1).f4) from Kd.V_mk ul714_4 ge714_4)
     clear hva_ hvn_ hvc_ ge714_4 ul714_4
     clear hcc714 hce714
     have HR714_4 := am hi714_4
     have HC714_4 := am hl714_4
     clear hi714_4 hl714_4
     replace p714 := eq_true p714
     replace q714 := eq_true q714
     have p715 : 0 ≤ (x11_1 : Int) := od (by with_reducible assumption)
     have q715 : x11_1 < (l0.length : Int) := od (by with_reducible assumption)
     obtain ⟨ad715, A715_4, c715_4, e715, hx715_0, hx715_1, hx715_2, hx715_3, hx715_4, hx715_5, hl715_4, hi715_4⟩ := at_T34 HR0.out x11_1 p715 q715
     have hw715_5 := hx715_5
     have hw715_4 := hx715_4
     have hw715_3 := hx715_3
     have hw715_2 := hx715_2
     have hw715_1 := hx715_1
     have hw715_0 := hx715_0
     cases e715
     replace hx715_0 := cb HB.out hx715_0
     replace hx715_1 := cb HB.out hx715_1
     replace hx715_2 := cb HB.out hx715_2
     replace hx715_3 := cb HB.out hx715_3
     replace hx715_4 := cb HB.out hx715_4
     replace hx715_5 := cb HB.out hx715_5
     have HR715_4 := am hi715_4
     have HC715_4 := am hl715_4
     clear hi715_4 hl715_4
     replace p715 := eq_true p715
     replace q715 := eq_true q715
     refine start_ (n := 9) (S := fun w' => w'.cell? (ad714.add ((x9_1).toNat * 6)) = some (.int .i64 ((rd_T34 t707 x9_1).f0)) ∧ w'.cell? ⟨(ad714.add ((x9_1).toNat * 6)).block, (ad714.add ((x9_1).toNat * 6)).off + 1, none⟩ = some (.int .i64 ((rd_T34 t707 x9_1).f1)) ∧ w'.cell? ⟨(ad714.add ((x9_1).toNat * 6)).block, (ad714.add ((x9_1).toNat * 6)).off + 2, none⟩ = some (.string ((rd_T34 t707 x9_1).f2)) ∧ w'.cell? ⟨(ad714.add ((x9_1).toNat * 6)).block, (ad714.add ((x9_1).toNat * 6)).off + 3, none⟩ = some (.string ((rd_T34 t707 x9_1).f3)) ∧ w'.cell? ⟨(ad714.add ((x9_1).toNat * 6)).block, (ad714.add ((x9_1).toNat * 6)).off + 4, none⟩ = some (.slice A714_4 ((rd_T34 t707 x9_1).f4).length c714_4) ∧ w'.cell? ⟨(ad714.add ((x9_1).toNat * 6)).block, (ad714.add ((x9_1).toNat * 6)).off + 5, none⟩ = some (.string ((rd_T34 t707 x9_1).f5)) ∧ w'.cell? (ad715.add ((x11_1).toNat * 6)) = some (.int .i64 ((rd_T34 l0 x11_1).f0)) ∧ w'.cell? ⟨(ad715.add ((x11_1).toNat * 6)).block, (ad715.add ((x11_1).toNat * 6)).off + 1, none⟩ = some (.int .i64 ((rd_T34 l0 x11_1).f1)) ∧ w'.cell? ⟨(ad715.add ((x11_1).toNat * 6)).block, (ad715.add ((x11_1).toNat * 6)).off + 2, none⟩ = some (.string ((rd_T34 l0 x11_1).f2)) ∧ w'.cell? ⟨(ad715.add ((x11_1).toNat * 6)).block, (ad715.add ((x11_1).toNat * 6)).off + 3, none⟩ = some (.string ((rd_T34 l0 x11_1).f3)) ∧ w'.cell? ⟨(ad715.add ((x11_1).toNat * 6)).block, (ad715.add ((x11_1).toNat * 6)).off + 4, none⟩ = some (.slice A715_4 ((rd_T34 l0 x11_1).f4).length c715_4) ∧ w'.cell? ⟨(ad715.add ((x11_1).toNat * 6)).block, (ad715.add ((x11_1).toNat * 6)).off + 5, none⟩ = some (.string ((rd_T34 l0 x11_1).f5))) (ds := []) #[false, false, false, false, false, false, false, false, false] (by kernel_rfl) rfl rfl ⟨hx714_0, hx714_1, hx714_2, hx714_3, hx714_4, hx714_5, ((HB.out.cell (World.block_lt_of_cell? w _ hw715_0)).trans hw715_0), ((HB.out.cell (World.block_lt_of_cell? w _ hw715_1)).trans hw715_1), ((HB.out.cell (World.block_lt_of_cell? w _ hw715_2)).trans hw715_2), ((HB.out.cell (World.block_lt_of_cell? w _ hw715_3)).trans hw715_3), ((HB.out.cell (World.block_lt_of_cell? w _ hw715_4)).trans hw715_4), ((HB.out.cell (World.block_lt_of_cell? w _ hw715_5)).trans hw715_5)⟩ (fun hHeld => ?_); refine with_tabW Zaa.tab11 Zaa.bits11 (fun HT_ HW_ => ?_)
     generalize wc.drew = w23 at HO_5 HB HL714_4 HR714_4 HR715_4 hx714_0 hx714_1 hx714_2 hx714_3 hx714_4 hx714_5 hx715_0 hx715_1 hx715_2 hx715_3 hx715_4 hx715_5 hHeld ⊢
     refine pure_ (i := 0) (N := some 44) (v := ?_) (a' := ?_) #[true, false, false, false, false, false, false, false, false] rfl rfl (any_of HT_.out (by kernel_rfl)) (fun _ _ _ h => h) (Or.inl ⟨by rfl, ?_⟩) ?_ ?_
     rotate_left
     ·intro w'
      go_simp
      with_reducible rfl
     rotate_left
     ·simp only [Act.put, List.setIfInBounds_toArray, List.set_cons_zero, List.set_cons_succ, i64_w]
      rfl
     refine pure_ (i := 1) (N := some 45) (v := ?_) (a' := ?_) #[true, true, false, false, false, false, false, false, false] rfl rfl (any_of HT_.out (by kernel_rfl)) (fun _ _ _ h => h) (Or.inl ⟨by rfl, ?_⟩) ?_ ?_
     rotate_left
     ·intro w'
      go_simp
      with_reducible rfl
     rotate_left
     ·simp only [Act.put, List.setIfInBounds_toArray, List.set_cons_zero, List.set_cons_succ, i64_w]
      rfl
     refine pure_ (i := 2) (N := some 46) (v := ?_) (a' := ?_) #[true, true, true, false, false, false, false, false, false] rfl rfl (any_of HT_.out (by kernel_rfl)) (fun _ _ _ h => h) (Or.inl ⟨by rfl, ?_⟩) ?_ ?_
     rotate_left
     ·intro w'
      go_simp
      with_reducible rfl
     rotate_left
     ·simp only [Act.put, List.setIfInBounds_toArray, List.set_cons_zero, List.set_cons_succ, i64_w]
      rfl
     refine pure_ (i := 4) (N := some 48) (v := ?_) (a' := ?_) #[true, true, true, false, true, false, false, false, false] rfl rfl (any_of HT_.out (by kernel_rfl)) (fun _ _ _ h => h) (Or.inl ⟨by rfl, ?_⟩) ?_ ?_
     rotate_left
     ·intro w'
      go_simp
      with_reducible rfl
     rotate_left
     ·simp only [Act.put, List.setIfInBounds_toArray, List.set_cons_zero, List.set_cons_succ, i64_w]
      rfl
     refine pure_ (i := 5) (N := some 49) (v := ?_) (a' := ?_) #[true, true, true, false, true, true, false, false, false] rfl rfl (any_of HT_.out (by kernel_rfl)) (fun _ _ _ h => h) (Or.inl ⟨by rfl, ?_⟩) ?_ ?_
     rotate_left
     ·intro w'
      go_simp
      with_reducible rfl
     rotate_left
     ·simp only [Act.put, List.setIfInBounds_toArray, List.set_cons_zero, List.set_cons_succ, i64_w]
      rfl
     refine pure_ (i := 6) (N := some 50) (v := ?_) (a' := ?_) #[true, true, true, false, true, true, true, false, false] rfl rfl (any_of HT_.out (by kernel_rfl)) (fun _ _ _ h => h) (Or.inl ⟨by rfl, ?_⟩) ?_ ?_
     rotate_left
     ·intro w'
      go_simp
      with_reducible rfl
     rotate_left
     ·simp only [Act.put, List.setIfInBounds_toArray, List.set_cons_zero, List.set_cons_succ, i64_w]
      rfl
     refine take_ (i := 3) (N := some 47) (v := ?_) (a' := ?_) #[true, true, true, true, true, true, true, false, false] rfl rfl (take_ofW HT_.out HW_.out (by kernel_rfl)) (fun _ _ _ h => h) (Or.inl ⟨by rfl, ?_⟩) hHeld ?_ ?_
     rotate_left
     ·rintro w' ⟨s0, s1, s2, s3, s4, s5, s6, s7, s8, s9, s10, s11⟩
      go_simp
      with_reducible rfl
     rotate_left
     ·simp only [Act.put, List.setIfInBounds_toArray, List.set_cons_zero, List.set_cons_succ, i64_w]
      rfl
     refine take_ (i := 7) (N := some 51) (v := ?_) (a' := ?_) #[true, true, true, true, true, true, true, true, false] rfl rfl (take_ofW HT_.out HW_.out (by kernel_rfl)) (fun _ _ _ h => h) (Or.inl ⟨by rfl, ?_⟩) hHeld ?_ ?_
     rotate_left
     ·rintro w' ⟨s0, s1, s2, s3, s4, s5, s6, s7, s8, s9, s10, s11⟩
      go_simp
      with_reducible rfl
     rotate_left
     ·simp only [Act.put, List.setIfInBounds_toArray, List.set_cons_zero, List.set_cons_succ, i64_w]
      rfl
     refine one_ (i := 8) (N := some 52) #[true, true, true, true, true, true, true, true, true] rfl rfl (one_of HT_.out (by kernel_rfl)) (by decide) (fun K hK => ?_)
     refine goes_ Tryz.func15 (by kernel_rfl) rfl #[.agg #[.int .i64 ((rd_T34 t707 x9_1).f0), .int .i64 ((rd_T34 t707 x9_1).f1), .string ((rd_T34 t707 x9_1).f2), .string ((rd_T34 t707 x9_1).f3), .slice A714_4 ((rd_T34 t707 x9_1).f4).length c714_4, .string ((rd_T34 t707 x9_1).f5)], .agg #[.int .i64 ((rd_T34 l0 x11_1).f0), .int .i64 ((rd_T34 l0 x11_1).f1), .string ((rd_T34 l0 x11_1).f2), .string ((rd_T34 l0 x11_1).f3), .slice A715_4 ((rd_T34 l0 x11_1).f4).length c715_4, .string ((rd_T34 l0 x11_1).f5)]] (by rfl) rfl rfl (by (try simp only [List.map_toArray, List.map_cons, List.map_nil]); first | done | rfl | (simp only [List.length_drop, List.length_take]; rfl)) ?_
     with_reducible refine (Zag.calls kj10 ((rd_T34 t707 x9_1).f0) ((rd_T34 t707 x9_1).f1) ((rd_T34 t707 x9_1).f2) ((rd_T34 t707 x9_1).f3) _ _ ((rd_T34 t707 x9_1).f4) ((rd_T34 t707 x9_1).f5) ((rd_T34 l0 x11_1).f0) ((rd_T34 l0 x11_1).f1) ((rd_T34 l0 x11_1).f2) ((rd_T34 l0 x11_1).f3) _ _ ((rd_T34 l0 x11_1).f4) ((rd_T34 l0 x11_1).f5) true _ ?side1 ?side2 ?side3 ?side4 A19.out).mono ?_
     (case side1 => exact vC HR714_4.out)
     (case side2 => exact HC714_4.out)
     (case side3 => exact vC (Kd.C_below HR715_4.out HB.out))
     (case side4 => exact HC715_4.out)
     rintro e w25 ⟨rfl, hb⟩
     have HS0_ := (hb.cell (World.block_lt_of_cell? _ _ (hHeld.1))).trans (hHeld.1)
     have HS1_ := (hb.cell (World.block_lt_of_cell? _ _ (hHeld.2.1))).trans (hHeld.2.1)
     have HS2_ := (hb.cell (World.block_lt_of_cell? _ _ (hHeld.2.2.1))).trans (hHeld.2.2.1)
     have HS3_ := (hb.cell (World.block_lt_of_cell? _ _ (hHeld.2.2.2.1))).trans (hHeld.2.2.2.1)
     have HS4_ := (hb.cell (World.block_lt_of_cell? _ _ (hHeld.2.2.2.2.1))).trans (hHeld.2.2.2.2.1)
     have HS5_ := (hb.cell (World.block_lt_of_cell? _ _ (hHeld.2.2.2.2.2.1))).trans (hHeld.2.2.2.2.2.1)
     refine ⟨_, rfl, ?_⟩
     replace HO_5 := kN HO_5.out hb
     replace HL714_4 := kV HL714_4.out hb
     replace HR714_4 := kC HR714_4.out hb
     replace HB := bs HB.out hb
     (try clear hb)
     (try clear hb2)
     (try clear hk)
     (try clear hi)
     refine hK.out _ _ ⟨HS0_, HS1_, HS2_, HS3_, HS4_, HS5_, ((HB.out.cell (World.block_lt_of_cell? w _ hw715_0)).trans hw715_0), ((HB.out.cell (World.block_lt_of_cell? w _ hw715_1)).trans hw715_1), ((HB.out.cell (World.block_lt_of_cell? w _ hw715_2)).trans hw715_2), ((HB.out.cell (World.block_lt_of_cell? w _ hw715_3)).trans hw715_3), ((HB.out.cell (World.block_lt_of_cell? w _ hw715_4)).trans hw715_4), ((HB.out.cell (World.block_lt_of_cell? w _ hw715_5)).trans hw715_5)⟩ (fun hHeld => ?_)
     clear hK K
     refine norm_ (a' := ?_) ?_ ?_
     rotate_left
     ·show Act.put _ (some 52) _ = _
      simp only [Act.put, List.setIfInBounds_toArray, List.set_cons_zero, List.set_cons_succ, i64_w]
      rfl
     refine done_ (done_of HT_.out (by kernel_rfl)) ?_
     clear hHeld HS0_ HS1_ HS2_ HS3_ HS4_ HS5_
     have p717 : 0 ≤ (x9_1 : Int) := od (by with_reducible assumption)
     have q717 : x9_1 < (t707.length : Int) := od (by with_reducible assumption)
     obtain ⟨ad717, A717_4, c717_4, e717, hx717_0, hx717_1, hx717_2, hx717_3, hx717_4, hx717_5, hl717_4, hi717_4⟩ := at_T34 (Kd.N_reads' HO_5.out).2.2 x9_1 p717 q717
     obtain rfl : ad714 = ad717 := (by injection e717)
     obtain ⟨ce717, hce717, hMe717, hcc717⟩ := Kd.N_get HO_5.out z34 x9_1 p717 (by first | exact q717 | exact od (by with_reducible assumption) | (have e_ := (Kd.N_reads' HO_5.out).1; omega))
     obtain ⟨ua717_4, uc717_4, rfl, ul717_4, ge717_4⟩ := k34_openF hMe717
     have hv717_4 := hcc717 4 _ rfl
     rw [add_field _ _ 4 (by omega)] at hv717_4
     replace hv717_4 := Option.some.inj (hv717_4.symm.trans hx717_4)
     injection hv717_4 with hva_ hvn_ hvc_
     rw [hva_] at ge717_4
     rw [hvc_] at ul717_4
     have HL717_4 := am (show Kd.V (Kd.int .i64) 3 _ w.heap.size _ _ ((rd_T34 t707 x9_1).f4) from Kd.V_mk ul717_4 ge717_4)
     clear hva_ hvn_ hvc_ ge717_4 ul717_4
     clear hcc717 hce717
     have HR717_4 := am hi717_4
     have HC717_4 := am hl717_4
     clear hi717_4 hl717_4
     replace p717 := eq_true p717
     replace q717 := eq_true q717
     try go_wp2_with (first | ((with_reducible refine gate_callee (f := 16) rfl ?_); refine goesL_ (some 58) rfl rfl Tryz.func16 (by kernel_rfl) rfl #[.agg #[.int .i64 ((rd_T34 t707 x9_1).f0), .int .i64 ((rd_T34 t707 x9_1).f1), .string ((rd_T34 t707 x9_1).f2), .string ((rd_T34 t707 x9_1).f3), .slice A717_4 ((rd_T34 t707 x9_1).f4).length c717_4, .string ((rd_T34 t707 x9_1).f5)]] rfl (by (try simp only [mT, mC, mN]); first | done | rfl) ?_; (with_reducible refine (Zcq.calls kj10 ((rd_T34 t707 x9_1).f0) ((rd_T34 t707 x9_1).f1) ((rd_T34 t707 x9_1).f2) ((rd_T34 t707 x9_1).f3) _ _ ((rd_T34 t707 x9_1).f4) ((rd_T34 t707 x9_1).f5) t718 _ (Glob.below hgl (vb HB.out)) ?side1 ?side2 A21.out).mono ?_); (case side1 => exact vC HR717_4.out); (case side2 => exact HC717_4.out); rintro e w26 ⟨rfl, hb⟩; refine ⟨_, rfl, ?_⟩; replace HO_5 := kN HO_5.out hb; replace HL714_4 := kV HL714_4.out hb; replace HL717_4 := kV HL717_4.out hb; replace HR714_4 := kC HR714_4.out hb; replace HR717_4 := kC HR717_4.out hb; replace HB := bs HB.out hb; (try clear hb)))
     go_roundg kj10
     case measure => have := HK1.out; have := HJ10.out; omega
     case rel => exact ⟨(wrap64 (x9_1 + 1)), (x10_1 ++ t718), (wrap64 (x11_1 + 1)), (by first | rfl | (simp; done) | simp [*]), (by first | rfl | (simp; done) | simp [*]), (by first | rfl | (simp; done) | simp [*]), H', ⟨by have := HK1.out; have := HJ10.out; omega⟩, ⟨vN HO_5.out⟩, ⟨vb HB.out⟩⟩
end Go.Proofs.YtjgifmakhnkmdaaGreatDoor.XRep
