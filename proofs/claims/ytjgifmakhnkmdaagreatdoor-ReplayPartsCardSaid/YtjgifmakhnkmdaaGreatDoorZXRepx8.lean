import Derived.Test.YtjgifmakhnkmdaaGreatDoorZXRepx0
import Derived.Test.YtjgifmakhnkmdaaGreatDoorZXRepx7
import Derived.Test.YtjgifmakhnkmdaaGreatDoorZCmp
namespace Go.Proofs.YtjgifmakhnkmdaaGreatDoor.XRep
open Go.RowKit Go.Proofs.YtjgifmakhnkmdaaGreatDoorW.PrintWords Go.Proofs.YtjgifmakhnkmdaaGreatDoorW.PrintLast Go.Proofs.YtjgifmakhnkmdaaGreatDoorW.PrintMore Go.Proofs.YtjgifmakhnkmdaaGreatDoor.Cmp
set_option linter.unusedVariables false
set_option linter.unusedSimpArgs false
mutual
def Zbf.l0 : Nat → Int → List (S106) → List (S165) → Option (Bool)
 | 0, _, _, _ => none
 | k + 1, x5, x236000, x236001 => if x5 < (x236000.length : Int) then (if x5 > 7 then (Zbf.j1 k x5 true x236000 x236001) else (if 0 ≤ x5 then (Zbf.j1 k x5 (decide (((rd_T106 x236000 x5).f0) > 3000)) x236000 x236001) else (none))) else (some true)
def Zbf.j1 : Nat → Int → Bool → List (S106) → List (S165) → Option (Bool)
 | 0, _, _, _, _ => none
 | k + 1, x5, x32, x236000, x236001 => if x32 = true then (some false) else (Zbf.l1 k x5 0 x236000 x236001)
def Zbf.l1 : Nat → Int → Int → List (S106) → List (S165) → Option (Bool)
 | 0, _, _, _, _ => none
 | k + 1, x5, x6, x236000, x236001 => if 0 ≤ x5 then (if x5 < (x236000.length : Int) then (if x6 < (((rd_T106 x236000 x5).f1).length : Int) then (if 0 ≤ x6 then (if ((rd_T110 ((rd_T106 x236000 x5).f1) x6).f0.f0) < (-160) then (some false) else (if ((rd_T110 ((rd_T106 x236000 x5).f1) x6).f0.f0) > 160 then (some false) else (if ((rd_T110 ((rd_T106 x236000 x5).f1) x6).f0.f1) < (-160) then (some false) else (if ((rd_T110 ((rd_T106 x236000 x5).f1) x6).f0.f1) > 160 then (some false) else (Zbf.l1 k x5 (wrap64 (x6 + 1)) x236000 x236001))))) else (none)) else (Zbf.l0 k (wrap64 (x5 + 1)) x236000 x236001)) else (none)) else (none)
end
def Zbf.f (k : Nat) (a0 : ByteArray) : Option (Bool) := (Zav.f k a0).bind fun bt228 => (if bt228.2.2 = 0 then (Zbf.l0 k 0 bt228.1 bt228.2.1) else (some true))
set_option maxHeartbeats 8000000 in
set_option maxRecDepth 100000 in
theorem Zbf.calls (k : Nat) (a0 : ByteArray) (r : Bool) (w : World) (h : Zbf.f k a0 = some r) :
  Calls Tryz.prog 40 #[.string a0] w fun e w' => e = .returned (.bool r) ∧ Below w.heap.size w w' := by
 have hu101 := Tryz.underlying101
 have hu108 := Tryz.underlying108
 have HB := am (Below.refl w.heap.size w)
 have H : ((Zav.f k a0).bind fun bt228 => (if bt228.2.2 = 0 then (Zbf.l0 k 0 bt228.1 bt228.2.1) else (some true))) = some r := h
 clear h
 replace H := be H
 obtain ⟨⟨t228, t231, t234⟩, A20, H⟩ := H
 try dsimp only at H
 have A2 := am A20
 clear A20
 by_cases c3 : t234 = 0
 rotate_left
 ·rw [if_neg c3] at H
  have c3b0 : (t234 == 0) = false := beq_eq_false_iff_ne.mpr c3
  have c3b1 : (t234 != 0) = true := bne_iff_ne.mpr c3
  obtain rfl := Option.some.inj H
  go_enter Tryz.func40, Tryz.ntmps40
  go_wp2_with (first | ((with_reducible refine gate_callee (f := 73) rfl ?_); refine goesL_ (some 10) rfl rfl Tryz.func73 (by kernel_rfl) rfl #[.string a0] rfl (by (try simp only [mT, mC, mN]); first | done | rfl) ?_; (with_reducible refine (Zav.calls k a0 t228 t231 t234 _ A2.out).mono ?_); rintro e w46 ⟨v229, v232, rfl, ho0, ho1, hb⟩; refine ⟨_, rfl, ?_⟩; have HO230 := am (Kd.S_lower ho0 (below_size (vb HB.out))); have HO233 := am (Kd.R_lower ho1 (below_size (vb HB.out))); replace HB := bs HB.out hb; (try clear hb)) | ((with_reducible refine gate_dst (N := 3) rfl ?_); refine box_event ?hg (N := 3) ?hd (cs := #[.slice none 0 0, .slice none 0 0]) (t := 101) ?hr ?_; (case hd => rfl); (case hg => rfl); (case hr => go_simp <;> rfl); intro gb235 hg w47 hbox hb; replace HO230 := kS HO230.out hb; replace HO233 := kR HO233.out hb; have BK235 := am hbox; have GW235 := gef hg HB.out; have GE235 := gef hg HB.out; replace HB := bs HB.out hb; clear hb hbox hg; obtain ⟨Ao48, co48, eo48⟩ := Kd.S_slice HO230.out; subst eo48; obtain ⟨hcz49_0, hcz49_1, hfz49_0, hfz49_1⟩ := bk2 BK235.out; obtain ⟨Ao50, co50, eo50⟩ := Kd.R_slice HO233.out; subst eo50))
  go_ret
  exact ⟨by rfl, vb HB.out⟩
 rw [if_pos c3] at H
 have c3b0 : (t234 == 0) = true := beq_iff_eq.mpr c3
 have c3b1 : (t234 != 0) = false := bne_eq_false_iff_eq.mpr c3
 clear c3
 have H' := am H
 clear H
 go_enter Tryz.func40, Tryz.ntmps40
 go_wp2_with (first | ((with_reducible refine gate_callee (f := 73) rfl ?_); refine goesL_ (some 10) rfl rfl Tryz.func73 (by kernel_rfl) rfl #[.string a0] rfl (by (try simp only [mT, mC, mN]); first | done | rfl) ?_; (with_reducible refine (Zav.calls k a0 t228 t231 t234 _ A2.out).mono ?_); rintro e w4 ⟨v229, v232, rfl, ho0, ho1, hb⟩; refine ⟨_, rfl, ?_⟩; have HO230 := am (Kd.S_lower ho0 (below_size (vb HB.out))); have HO233 := am (Kd.R_lower ho1 (below_size (vb HB.out))); replace HB := bs HB.out hb; (try clear hb)) | ((with_reducible refine gate_dst (N := 3) rfl ?_); refine box_event ?hg (N := 3) ?hd (cs := #[.slice none 0 0, .slice none 0 0]) (t := 101) ?hr ?_; (case hd => rfl); (case hg => rfl); (case hr => go_simp <;> rfl); intro gb235 hg w5 hbox hb; replace HO230 := kS HO230.out hb; replace HO233 := kR HO233.out hb; have BK235 := am hbox; have GW235 := gef hg HB.out; have GE235 := gef hg HB.out; replace HB := bs HB.out hb; clear hb hbox hg; obtain ⟨Ao6, co6, eo6⟩ := Kd.S_slice HO230.out; subst eo6; obtain ⟨hcz7_0, hcz7_1, hfz7_0, hfz7_1⟩ := bk2 BK235.out; obtain ⟨Ao8, co8, eo8⟩ := Kd.R_slice HO233.out; subst eo8))
 go_loopg [5] k (fun kq v5 w' => ∃ (x5_1 : Int), v5 = .int .i64 x5_1 ∧ Aside0 (Zbf.l0 kq x5_1 t228 t231 = some r) ∧ Aside0 (kq ≤ k) ∧ Aside0 (Kd.S k106 106 w' w.heap.size (fun _ => True) (.slice Ao6 t228.length co6) t228) ∧ Aside0 (Kd.R k165 165 w' w.heap.size (fun _ => True) (.slice Ao8 t231.length co8) t231) ∧ Aside0 (w'.heap[gb235]? = some (.cells #[(.slice Ao6 t228.length co6), (.slice Ao8 t231.length co8)] 101 (0, 0))) ∧ Aside0 (Below w.heap.size w w'))
 case atStart => exact ⟨(0), (by first | rfl | (simp; done) | simp [*]), H', ⟨Nat.le_refl _⟩, ⟨vS (Kd.S_mono (Kd.S_far (p := ⟨gb235, 1, none⟩) (Kd.S_far (p := ⟨gb235, 0, none⟩) (Kd.S_types HO230.out BK235.out (by decide)) (fun _ hk => hk.2) (.slice Ao6 t228.length co6)) (fun _ hk => hk.2) (.slice Ao8 t231.length co8)) (fun _ hk => trivial))⟩, ⟨vR (Kd.R_mono (Kd.R_far (p := ⟨gb235, 1, none⟩) (Kd.R_far (p := ⟨gb235, 0, none⟩) (Kd.R_types HO233.out BK235.out (by decide)) (fun _ hk => hk.2) (.slice Ao6 t228.length co6)) (fun _ hk => hk.2) (.slice Ao8 t231.length co8)) (fun _ hk => trivial))⟩, ⟨by exact (vt (bp (vt (bp (vt BK235.out) 0)) 1)).trans rfl⟩, ⟨vb HB.out⟩⟩
 case round =>
  clear H'
  (try clear p2); (try clear c3); (try clear c3b0); (try clear c3b1); (try clear c4); (try clear c7); (try clear hcz7_0); (try clear hcz7_1); (try clear hfz7_0); (try clear hfz7_1)
  obtain ⟨x5_1, rfl, HA, HK1, HO_236000, HO_236001, BK235, HB⟩ := hrel
  cases gk with
  | zero => exact absurd HA.out (by simp [Zbf.l0])
  | succ k1 =>
   have H := HA.out
   clear HA
   simp only [Zbf.l0] at H
   by_cases c9 : x5_1 < (t228.length : Int)
   rotate_left
   ·rw [if_neg c9] at H
    have c9b0 : decide (x5_1 < (t228.length : Int)) = false := df c9
    clear c9
    obtain rfl := Option.some.inj H
    obtain ⟨hcz45_0, hcz45_1, hfz45_0, hfz45_1⟩ := bk2 BK235.out
    go_wp2
    go_ret
    exact ⟨by rfl, vb HB.out⟩
   rw [if_pos c9] at H
   have c9b0 : decide (x5_1 < (t228.length : Int)) = true := de c9
   clear c9
   have HC10 := am H
   clear H
   obtain ⟨hcz11_0, hcz11_1, hfz11_0, hfz11_1⟩ := bk2 BK235.out
   go_upto_region 7 with (fail)
   go_cut [32] (fun v32 wc => ∃ (kq : Nat) (x32_9 : Bool), v32 = .bool x32_9 ∧ Aside0 (Zbf.j1 kq x5_1 x32_9 t228 t231 = some r) ∧ Aside0 (kq ≤ k1) ∧ Aside0 (Kd.S k106 106 wc w.heap.size (fun _ => True) (.slice Ao6 t228.length co6) t228) ∧ Aside0 (Kd.R k165 165 wc w.heap.size (fun _ => True) (.slice Ao8 t231.length co8) t231) ∧ Aside0 (wc.heap[gb235]? = some (.cells #[(.slice Ao6 t228.length co6), (.slice Ao8 t231.length co8)] 101 (0, 0))) ∧ Aside0 (Below w.heap.size w wc))
   case first =>
    have H := HC10.out
    clear HC10
    by_cases c12 : x5_1 > 7
    ·rw [if_pos c12] at H
     have c12b0 : decide (7 < x5_1) = true := de c12
     clear c12
     (first | rw [c12b0] | (simp only [i64_w]; rw [c12b0]) | skip)
     have H' := am H
     clear H
     go_wp2
     go_meet
     case rel => exact ⟨_, (true), (by first | rfl | (simp; done) | simp [*]), H', ⟨by have := HK1.out; first | omega | exact Nat.le_refl _⟩, ⟨vS HO_236000.out⟩, ⟨vR HO_236001.out⟩, ⟨vk BK235.out⟩, ⟨vb HB.out⟩⟩
    rw [if_neg c12] at H
    have c12b0 : decide (7 < x5_1) = false := df c12
    clear c12
    (first | rw [c12b0] | (simp only [i64_w]; rw [c12b0]) | skip)
    by_cases c13 : 0 ≤ x5_1
    rotate_left
    ·rw [if_neg c13] at H
     exact absurd H (by simp)
    rw [if_pos c13] at H
    have c13b0 : decide (0 ≤ x5_1) = true := de c13
    clear c13
    have H' := am H
    clear H
    obtain ⟨hcz14_0, hcz14_1, hfz14_0, hfz14_1⟩ := bk2 BK235.out
    have p236 : 0 ≤ (x5_1 : Int) := od (by with_reducible assumption)
    have q236 : x5_1 < (t228.length : Int) := od (by with_reducible assumption)
    obtain ⟨ad236, A236_1, c236_1, e236, hx236_0, hx236_1, hl236_1, hi236_1⟩ := at_T106 (Kd.S_reads' HO_236000.out).2.2 x5_1 p236 q236
    cases e236
    obtain ⟨ce236, hce236, hMe236, hcc236⟩ := Kd.S_get HO_236000.out z106 x5_1 p236 (by first | exact q236 | exact od (by with_reducible assumption) | (have e_ := (Kd.S_reads' HO_236000.out).1; omega))
    obtain ⟨ve236_1, rfl, ge236_1⟩ := k106_openM hMe236
    have hv236_1 := hcc236 1 _ rfl
    rw [add_field _ _ 1 (by omega)] at hv236_1
    replace hv236_1 := Option.some.inj (hv236_1.symm.trans hx236_1)
    rw [hv236_1] at ge236_1
    have HL236_1 := am (show Kd.R k110 110 _ _ _ _ ((rd_T106 t228 x5_1).f1) from ge236_1)
    clear hv236_1 ge236_1
    clear hcc236 hce236
    have HR236_1 := am hi236_1
    have HC236_1 := am hl236_1
    clear hi236_1 hl236_1
    replace p236 := eq_true p236
    replace q236 := eq_true q236
    go_wp2
    go_meet
    case rel => exact ⟨_, (decide (((rd_T106 t228 x5_1).f0) > 3000)), (by first | rfl | (simp; done) | simp [*]), H', ⟨by have := HK1.out; first | omega | exact Nat.le_refl _⟩, ⟨vS HO_236000.out⟩, ⟨vR HO_236001.out⟩, ⟨vk BK235.out⟩, ⟨vb HB.out⟩⟩
   case rest =>
    clear HC10
    (try clear c1); (try clear c2); (try clear p2); (try clear q2); (try clear hx2); (try clear c3); (try clear c3b0); (try clear c3b1); (try clear c4); (try clear c7); (try clear c9); (try clear c9b0); (try clear c12); (try clear c12b0); (try clear c13); (try clear c13b0); (try clear hcz11_0); (try clear hcz11_1); (try clear hcz14_0); (try clear hcz14_1); (try clear hcz7_0); (try clear hcz7_1); (try clear hfz11_0); (try clear hfz11_1); (try clear hfz14_0); (try clear hfz14_1); (try clear hfz7_0); (try clear hfz7_1); (try clear hx236_0); (try clear hx236_1); (try clear p2); (try clear p236); (try clear q236)
    obtain ⟨kq, x32_9, rfl, HA, HJ9, HO_236000, HO_236001, BK235, HB⟩ := hcut
    cases kq with
    | zero => exact absurd HA.out (by simp [Zbf.j1])
    | succ kj9 =>
     have H := HA.out
     clear HA
     simp only [Zbf.j1] at H
     by_cases c15 : x32_9 = true
     ·subst c15
      rw [if_pos rfl] at H
      obtain rfl := Option.some.inj H
      go_wp2
      go_ret
      exact ⟨by rfl, vb HB.out⟩
     replace c15 := Bool.eq_false_iff.mpr c15
     subst c15
     rw [if_neg (show ¬ (false = true) by decide)] at H
     have H' := am H
     clear H
     go_wp2
     go_loopg [6] kj9 (fun kq v6 w' => ∃ (x6_3 : Int), v6 = .int .i64 x6_3 ∧ Aside0 (Zbf.l1 kq x5_1 x6_3 t228 t231 = some r) ∧ Aside0 (kq ≤ kj9) ∧ Aside0 (Kd.S k106 106 w' w.heap.size (fun _ => True) (.slice Ao6 t228.length co6) t228) ∧ Aside0 (Kd.R k165 165 w' w.heap.size (fun _ => True) (.slice Ao8 t231.length co8) t231) ∧ Aside0 (w'.heap[gb235]? = some (.cells #[(.slice Ao6 t228.length co6), (.slice Ao8 t231.length co8)] 101 (0, 0))) ∧ Aside0 (Below w.heap.size w w'))
     case atStart => exact ⟨(0), (by first | rfl | (simp; done) | simp [*]), H', ⟨Nat.le_refl _⟩, ⟨vS HO_236000.out⟩, ⟨vR HO_236001.out⟩, ⟨vk BK235.out⟩, ⟨vb HB.out⟩⟩
     case round =>
      clear H'
      (try clear c1); (try clear c2); (try clear p2); (try clear q2); (try clear hx2); (try clear c3); (try clear c3b0); (try clear c3b1); (try clear c4); (try clear c7); (try clear c9); (try clear c9b0); (try clear c12); (try clear c12b0); (try clear c13); (try clear c13b0); (try clear c15); (try clear hcz11_0); (try clear hcz11_1); (try clear hcz14_0); (try clear hcz14_1); (try clear hcz7_0); (try clear hcz7_1); (try clear hfz11_0); (try clear hfz11_1); (try clear hfz14_0); (try clear hfz14_1); (try clear hfz7_0); (try clear hfz7_1); (try clear hx236_0); (try clear hx236_1); (try clear p2); (try clear p236); (try clear q2); (try clear q236)
      obtain ⟨x6_3, rfl, HA, HK3, HO_236000, HO_236001, BK235, HB⟩ := hrel
      cases gk with
      | zero => exact absurd HA.out (by simp [Zbf.l1])
      | succ k3 =>
       have H := HA.out
       clear HA
       simp only [Zbf.l1] at H
       by_cases c16 : 0 ≤ x5_1
       rotate_left
       ·rw [if_neg c16] at H
        exact absurd H (by simp)
       rw [if_pos c16] at H
       have c16b0 : decide (0 ≤ x5_1) = true := de c16
       clear c16
       by_cases c17 : x5_1 < (t228.length : Int)
       rotate_left
       ·rw [if_neg c17] at H
        exact absurd H (by simp)
       rw [if_pos c17] at H
       have c17b0 : decide (x5_1 < (t228.length : Int)) = true := de c17
       clear c17
       by_cases c18 : x6_3 < (((rd_T106 t228 x5_1).f1).length : Int)
       rotate_left
       ·rw [if_neg c18] at H
        have c18b0 : decide (x6_3 < (((rd_T106 t228 x5_1).f1).length : Int)) = false := df c18
        clear c18
        have H' := am H
        clear H
        obtain ⟨hcz44_0, hcz44_1, hfz44_0, hfz44_1⟩ := bk2 BK235.out
        have p237 : 0 ≤ (x5_1 : Int) := od (by with_reducible assumption)
        have q237 : x5_1 < (t228.length : Int) := od (by with_reducible assumption)
        obtain ⟨ad237, A237_1, c237_1, e237, hx237_0, hx237_1, hl237_1, hi237_1⟩ := at_T106 (Kd.S_reads' HO_236000.out).2.2 x5_1 p237 q237
        cases e237
        obtain ⟨ce237, hce237, hMe237, hcc237⟩ := Kd.S_get HO_236000.out z106 x5_1 p237 (by first | exact q237 | exact od (by with_reducible assumption) | (have e_ := (Kd.S_reads' HO_236000.out).1; omega))
        obtain ⟨ve237_1, rfl, ge237_1⟩ := k106_openM hMe237
        have hv237_1 := hcc237 1 _ rfl
        rw [add_field _ _ 1 (by omega)] at hv237_1
        replace hv237_1 := Option.some.inj (hv237_1.symm.trans hx237_1)
        rw [hv237_1] at ge237_1
        have HL237_1 := am (show Kd.R k110 110 _ _ _ _ ((rd_T106 t228 x5_1).f1) from ge237_1)
        clear hv237_1 ge237_1
        clear hcc237 hce237
        have HR237_1 := am hi237_1
        have HC237_1 := am hl237_1
        clear hi237_1 hl237_1
        replace p237 := eq_true p237
        replace q237 := eq_true q237
        go_wp2
        go_roundg k3
        case measure => have := HK1.out; have := HJ9.out; have := HK3.out; omega
        case rel => exact ⟨(wrap64 (x5_1 + 1)), (by first | rfl | (simp; done) | simp [*]), H', ⟨by have := HK1.out; have := HJ9.out; have := HK3.out; omega⟩, ⟨vS HO_236000.out⟩, ⟨vR HO_236001.out⟩, ⟨vk BK235.out⟩, ⟨vb HB.out⟩⟩
       rw [if_pos c18] at H
       have c18b0 : decide (x6_3 < (((rd_T106 t228 x5_1).f1).length : Int)) = true := de c18
       clear c18
       by_cases c19 : 0 ≤ x6_3
       rotate_left
       ·rw [if_neg c19] at H
        exact absurd H (by simp)
       rw [if_pos c19] at H
       have c19b0 : decide (0 ≤ x6_3) = true := de c19
       clear c19
       by_cases c20 : ((rd_T110 ((rd_T106 t228 x5_1).f1) x6_3).f0.f0) < (-160)
       ·rw [if_pos c20] at H
        have c20b0 : decide (((rd_T110 ((rd_T106 t228 x5_1).f1) x6_3).f0.f0) < (-160)) = true := de c20
        clear c20
        obtain rfl := Option.some.inj H
        obtain ⟨hcz21_0, hcz21_1, hfz21_0, hfz21_1⟩ := bk2 BK235.out
        have p237 : 0 ≤ (x5_1 : Int) := od (by with_reducible assumption)
        have q237 : x5_1 < (t228.length : Int) := od (by with_reducible assumption)
        obtain ⟨ad237, A237_1, c237_1, e237, hx237_0, hx237_1, hl237_1, hi237_1⟩ := at_T106 (Kd.S_reads' HO_236000.out).2.2 x5_1 p237 q237
        cases e237
        obtain ⟨ce237, hce237, hMe237, hcc237⟩ := Kd.S_get HO_236000.out z106 x5_1 p237 (by first | exact q237 | exact od (by with_reducible assumption) | (have e_ := (Kd.S_reads' HO_236000.out).1; omega))
        obtain ⟨ve237_1, rfl, ge237_1⟩ := k106_openM hMe237
        have hv237_1 := hcc237 1 _ rfl
        rw [add_field _ _ 1 (by omega)] at hv237_1
        replace hv237_1 := Option.some.inj (hv237_1.symm.trans hx237_1)
        rw [hv237_1] at ge237_1
        have HL237_1 := am (show Kd.R k110 110 _ _ _ _ ((rd_T106 t228 x5_1).f1) from ge237_1)
        clear hv237_1 ge237_1
        clear hcc237 hce237
        have HR237_1 := am hi237_1
        have HC237_1 := am hl237_1
        clear hi237_1 hl237_1
        replace p237 := eq_true p237
        replace q237 := eq_true q237
        have p238 : 0 ≤ (x5_1 : Int) := od (by with_reducible assumption)
        have q238 : x5_1 < (t228.length : Int) := od (by with_reducible assumption)
        obtain ⟨ad238, A238_1, c238_1, e238, hx238_0, hx238_1, hl238_1, hi238_1⟩ := at_T106 (Kd.S_reads' HO_236000.out).2.2 x5_1 p238 q238
        obtain rfl : ad237 = ad238 := (by injection e238)
        obtain ⟨ce238, hce238, hMe238, hcc238⟩ := Kd.S_get HO_236000.out z106 x5_1 p238 (by first | exact q238 | exact od (by with_reducible assumption) | (have e_ := (Kd.S_reads' HO_236000.out).1; omega))
        obtain ⟨ve238_1, rfl, ge238_1⟩ := k106_openM hMe238
        have hv238_1 := hcc238 1 _ rfl
        rw [add_field _ _ 1 (by omega)] at hv238_1
        replace hv238_1 := Option.some.inj (hv238_1.symm.trans hx238_1)
        rw [hv238_1] at ge238_1
        have HL238_1 := am (show Kd.R k110 110 _ _ _ _ ((rd_T106 t228 x5_1).f1) from ge238_1)
        clear hv238_1 ge238_1
        clear hcc238 hce238
        have HR238_1 := am hi238_1
        have HC238_1 := am hl238_1
        clear hi238_1 hl238_1
        replace p238 := eq_true p238
        replace q238 := eq_true q238
        have ea_ := Option.some.inj (hx237_1.symm.trans hx238_1)
        injection ea_ with ea_ en_ ec_
        subst ea_
        subst ec_
        clear en_
        have p239 : 0 ≤ (x6_3 : Int) := od (by with_reducible assumption)
        have q239 : x6_3 < (((rd_T106 t228 x5_1).f1).length : Int) := od (by with_reducible assumption)
        obtain ⟨ad239, e239, hx239_0, hx239_1, hx239_2⟩ := at_T110 HR238_1.out x6_3 p239 q239
        cases e239
        replace p239 := eq_true p239
        replace q239 := eq_true q239
        go_wp2_with (first | ((with_reducible refine gate_dst (N := 7) rfl ?_); refine box_event ?hg (N := 7) ?hd (cs := #[.int .i64 0, .int .i64 0]) (t := 108) ?hr ?_; (case hd => rfl); (case hg => rfl); (case hr => go_simp <;> rfl); intro gb240 hg w22 hbox hb; replace HO_236000 := kS HO_236000.out hb; replace HO_236001 := kR HO_236001.out hb; replace HL237_1 := kR HL237_1.out hb; replace HL238_1 := kR HL238_1.out hb; replace HR237_1 := kC HR237_1.out hb; replace HR238_1 := kC HR238_1.out hb; have BK240 := am hbox; have GW240 := gef hg HB.out; have GE240 := gef hg HB.out; replace HB := bs HB.out hb; have NB235_240 := nl hg BK235.out; have NB240_235 := ng hg BK235.out; replace BK235 := kb BK235.out hb; clear hb hbox hg; have hnb23 := NB240_235.out; have hnc23 := NB235_240.out; obtain ⟨hcz24_0, hcz24_1, hfz24_0, hfz24_1⟩ := bk2 BK240.out))
        go_ret
        exact ⟨by rfl, vb HB.out⟩
       rw [if_neg c20] at H
       have c20b0 : decide (((rd_T110 ((rd_T106 t228 x5_1).f1) x6_3).f0.f0) < (-160)) = false := df c20
       clear c20
       by_cases c25 : ((rd_T110 ((rd_T106 t228 x5_1).f1) x6_3).f0.f0) > 160
       ·rw [if_pos c25] at H
        have c25b0 : decide (160 < ((rd_T110 ((rd_T106 t228 x5_1).f1) x6_3).f0.f0)) = true := de c25
        clear c25
        obtain rfl := Option.some.inj H
        obtain ⟨hcz26_0, hcz26_1, hfz26_0, hfz26_1⟩ := bk2 BK235.out
        have p237 : 0 ≤ (x5_1 : Int) := od (by with_reducible assumption)
        have q237 : x5_1 < (t228.length : Int) := od (by with_reducible assumption)
        obtain ⟨ad237, A237_1, c237_1, e237, hx237_0, hx237_1, hl237_1, hi237_1⟩ := at_T106 (Kd.S_reads' HO_236000.out).2.2 x5_1 p237 q237
        cases e237
        obtain ⟨ce237, hce237, hMe237, hcc237⟩ := Kd.S_get HO_236000.out z106 x5_1 p237 (by first | exact q237 | exact od (by with_reducible assumption) | (have e_ := (Kd.S_reads' HO_236000.out).1; omega))
        obtain ⟨ve237_1, rfl, ge237_1⟩ := k106_openM hMe237
        have hv237_1 := hcc237 1 _ rfl
        rw [add_field _ _ 1 (by omega)] at hv237_1
        replace hv237_1 := Option.some.inj (hv237_1.symm.trans hx237_1)
        rw [hv237_1] at ge237_1
        have HL237_1 := am (show Kd.R k110 110 _ _ _ _ ((rd_T106 t228 x5_1).f1) from ge237_1)
        clear hv237_1 ge237_1
        clear hcc237 hce237
        have HR237_1 := am hi237_1
        have HC237_1 := am hl237_1
        clear hi237_1 hl237_1
        replace p237 := eq_true p237
        replace q237 := eq_true q237
        have p238 : 0 ≤ (x5_1 : Int) := od (by with_reducible assumption)
        have q238 : x5_1 < (t228.length : Int) := od (by with_reducible assumption)
        obtain ⟨ad238, A238_1, c238_1, e238, hx238_0, hx238_1, hl238_1, hi238_1⟩ := at_T106 (Kd.S_reads' HO_236000.out).2.2 x5_1 p238 q238
        obtain rfl : ad237 = ad238 := (by injection e238)
        obtain ⟨ce238, hce238, hMe238, hcc238⟩ := Kd.S_get HO_236000.out z106 x5_1 p238 (by first | exact q238 | exact od (by with_reducible assumption) | (have e_ := (Kd.S_reads' HO_236000.out).1; omega))
        obtain ⟨ve238_1, rfl, ge238_1⟩ := k106_openM hMe238
        have hv238_1 := hcc238 1 _ rfl
        rw [add_field _ _ 1 (by omega)] at hv238_1
        replace hv238_1 := Option.some.inj (hv238_1.symm.trans hx238_1)
        rw [hv238_1] at ge238_1
        have HL238_1 := am (show Kd.R k110 110 _ _ _ _ ((rd_T106 t228 x5_1).f1) from ge238_1)
        clear hv238_1 ge238_1
        clear hcc238 hce238
        have HR238_1 := am hi238_1
        have HC238_1 := am hl238_1
        clear hi238_1 hl238_1
        replace p238 := eq_true p238
        replace q238 := eq_true q238
        have ea_ := Option.some.inj (hx237_1.symm.trans hx238_1)
        injection ea_ with ea_ en_ ec_
        subst ea_
        subst ec_
        clear en_
        have p239 : 0 ≤ (x6_3 : Int) := od (by with_reducible assumption)
        have q239 : x6_3 < (((rd_T106 t228 x5_1).f1).length : Int) := od (by with_reducible assumption)
        obtain ⟨ad239, e239, hx239_0, hx239_1, hx239_2⟩ := at_T110 HR238_1.out x6_3 p239 q239
        cases e239
        replace p239 := eq_true p239
        replace q239 := eq_true q239
        go_wp2_with (first | ((with_reducible refine gate_dst (N := 7) rfl ?_); refine box_event ?hg (N := 7) ?hd (cs := #[.int .i64 0, .int .i64 0]) (t := 108) ?hr ?_; (case hd => rfl); (case hg => rfl); (case hr => go_simp <;> rfl); intro gb240 hg w27 hbox hb; replace HO_236000 := kS HO_236000.out hb; replace HO_236001 := kR HO_236001.out hb; replace HL237_1 := kR HL237_1.out hb; replace HL238_1 := kR HL238_1.out hb; replace HR237_1 := kC HR237_1.out hb; replace HR238_1 := kC HR238_1.out hb; have BK240 := am hbox; have GW240 := gef hg HB.out; have GE240 := gef hg HB.out; replace HB := bs HB.out hb; have NB235_240 := nl hg BK235.out; have NB240_235 := ng hg BK235.out; replace BK235 := kb BK235.out hb; clear hb hbox hg; have hnb28 := NB240_235.out; have hnc28 := NB235_240.out; obtain ⟨hcz29_0, hcz29_1, hfz29_0, hfz29_1⟩ := bk2 BK240.out))
        go_ret
        exact ⟨by rfl, vb HB.out⟩
       rw [if_neg c25] at H
       have c25b0 : decide (160 < ((rd_T110 ((rd_T106 t228 x5_1).f1) x6_3).f0.f0)) = false := df c25
       clear c25
       by_cases c30 : ((rd_T110 ((rd_T106 t228 x5_1).f1) x6_3).f0.f1) < (-160)
       ·rw [if_pos c30] at H
        have c30b0 : decide (((rd_T110 ((rd_T106 t228 x5_1).f1) x6_3).f0.f1) < (-160)) = true := de c30
        clear c30
        obtain rfl := Option.some.inj H
        obtain ⟨hcz31_0, hcz31_1, hfz31_0, hfz31_1⟩ := bk2 BK235.out
        have p237 : 0 ≤ (x5_1 : Int) := od (by with_reducible assumption)
        have q237 : x5_1 < (t228.length : Int) := od (by with_reducible assumption)
        obtain ⟨ad237, A237_1, c237_1, e237, hx237_0, hx237_1, hl237_1, hi237_1⟩ := at_T106 (Kd.S_reads' HO_236000.out).2.2 x5_1 p237 q237
        cases e237
        obtain ⟨ce237, hce237, hMe237, hcc237⟩ := Kd.S_get HO_236000.out z106 x5_1 p237 (by first | exact q237 | exact od (by with_reducible assumption) | (have e_ := (Kd.S_reads' HO_236000.out).1; omega))
        obtain ⟨ve237_1, rfl, ge237_1⟩ := k106_openM hMe237
        have hv237_1 := hcc237 1 _ rfl
        rw [add_field _ _ 1 (by omega)] at hv237_1
        replace hv237_1 := Option.some.inj (hv237_1.symm.trans hx237_1)
        rw [hv237_1] at ge237_1
        have HL237_1 := am (show Kd.R k110 110 _ _ _ _ ((rd_T106 t228 x5_1).f1) from ge237_1)
        clear hv237_1 ge237_1
        clear hcc237 hce237
        have HR237_1 := am hi237_1
        have HC237_1 := am hl237_1
        clear hi237_1 hl237_1
        replace p237 := eq_true p237
        replace q237 := eq_true q237
        have p238 : 0 ≤ (x5_1 : Int) := od (by with_reducible assumption)
        have q238 : x5_1 < (t228.length : Int) := od (by with_reducible assumption)
        obtain ⟨ad238, A238_1, c238_1, e238, hx238_0, hx238_1, hl238_1, hi238_1⟩ := at_T106 (Kd.S_reads' HO_236000.out).2.2 x5_1 p238 q238
        obtain rfl : ad237 = ad238 := (by injection e238)
        obtain ⟨ce238, hce238, hMe238, hcc238⟩ := Kd.S_get HO_236000.out z106 x5_1 p238 (by first | exact q238 | exact od (by with_reducible assumption) | (have e_ := (Kd.S_reads' HO_236000.out).1; omega))
        obtain ⟨ve238_1, rfl, ge238_1⟩ := k106_openM hMe238
        have hv238_1 := hcc238 1 _ rfl
        rw [add_field _ _ 1 (by omega)] at hv238_1
        replace hv238_1 := Option.some.inj (hv238_1.symm.trans hx238_1)
        rw [hv238_1] at ge238_1
        have HL238_1 := am (show Kd.R k110 110 _ _ _ _ ((rd_T106 t228 x5_1).f1) from ge238_1)
        clear hv238_1 ge238_1
        clear hcc238 hce238
        have HR238_1 := am hi238_1
        have HC238_1 := am hl238_1
        clear hi238_1 hl238_1
        replace p238 := eq_true p238
        replace q238 := eq_true q238
        have ea_ := Option.some.inj (hx237_1.symm.trans hx238_1)
        injection ea_ with ea_ en_ ec_
        subst ea_
        subst ec_
        clear en_
        have p239 : 0 ≤ (x6_3 : Int) := od (by with_reducible assumption)
        have q239 : x6_3 < (((rd_T106 t228 x5_1).f1).length : Int) := od (by with_reducible assumption)
        obtain ⟨ad239, e239, hx239_0, hx239_1, hx239_2⟩ := at_T110 HR238_1.out x6_3 p239 q239
        cases e239
        replace p239 := eq_true p239
        replace q239 := eq_true q239
        go_wp2_with (first | ((with_reducible refine gate_dst (N := 7) rfl ?_); refine box_event ?hg (N := 7) ?hd (cs := #[.int .i64 0, .int .i64 0]) (t := 108) ?hr ?_; (case hd => rfl); (case hg => rfl); (case hr => go_simp <;> rfl); intro gb240 hg w32 hbox hb; replace HO_236000 := kS HO_236000.out hb; replace HO_236001 := kR HO_236001.out hb; replace HL237_1 := kR HL237_1.out hb; replace HL238_1 := kR HL238_1.out hb; replace HR237_1 := kC HR237_1.out hb; replace HR238_1 := kC HR238_1.out hb; have BK240 := am hbox; have GW240 := gef hg HB.out; have GE240 := gef hg HB.out; replace HB := bs HB.out hb; have NB235_240 := nl hg BK235.out; have NB240_235 := ng hg BK235.out; replace BK235 := kb BK235.out hb; clear hb hbox hg; have hnb33 := NB240_235.out; have hnc33 := NB235_240.out; obtain ⟨hcz34_0, hcz34_1, hfz34_0, hfz34_1⟩ := bk2 BK240.out))
        go_ret
        exact ⟨by rfl, vb HB.out⟩
       rw [if_neg c30] at H
       have c30b0 : decide (((rd_T110 ((rd_T106 t228 x5_1).f1) x6_3).f0.f1) < (-160)) = false := df c30
       clear c30
       by_cases c35 : ((rd_T110 ((rd_T106 t228 x5_1).f1) x6_3).f0.f1) > 160
       ·rw [if_pos c35] at H
        have c35b0 : decide (160 < ((rd_T110 ((rd_T106 t228 x5_1).f1) x6_3).f0.f1)) = true := de c35
        clear c35
        obtain rfl := Option.some.inj H
        obtain ⟨hcz36_0, hcz36_1, hfz36_0, hfz36_1⟩ := bk2 BK235.out
        have p237 : 0 ≤ (x5_1 : Int) := od (by with_reducible assumption)
        have q237 : x5_1 < (t228.length : Int) := od (by with_reducible assumption)
        obtain ⟨ad237, A237_1, c237_1, e237, hx237_0, hx237_1, hl237_1, hi237_1⟩ := at_T106 (Kd.S_reads' HO_236000.out).2.2 x5_1 p237 q237
        cases e237
        obtain ⟨ce237, hce237, hMe237, hcc237⟩ := Kd.S_get HO_236000.out z106 x5_1 p237 (by first | exact q237 | exact od (by with_reducible assumption) | (have e_ := (Kd.S_reads' HO_236000.out).1; omega))
        obtain ⟨ve237_1, rfl, ge237_1⟩ := k106_openM hMe237
        have hv237_1 := hcc237 1 _ rfl
        rw [add_field _ _ 1 (by omega)] at hv237_1
        replace hv237_1 := Option.some.inj (hv237_1.symm.trans hx237_1)
        rw [hv237_1] at ge237_1
        have HL237_1 := am (show Kd.R k110 110 _ _ _ _ ((rd_T106 t228 x5_1).f1) from ge237_1)
        clear hv237_1 ge237_1
        clear hcc237 hce237
        have HR237_1 := am hi237_1
        have HC237_1 := am hl237_1
        clear hi237_1 hl237_1
        replace p237 := eq_true p237
        replace q237 := eq_true q237
        have p238 : 0 ≤ (x5_1 : Int) := od (by with_reducible assumption)
        have q238 : x5_1 < (t228.length : Int) := od (by with_reducible assumption)
        obtain ⟨ad238, A238_1, c238_1, e238, hx238_0, hx238_1, hl238_1, hi238_1⟩ := at_T106 (Kd.S_reads' HO_236000.out).2.2 x5_1 p238 q238
        obtain rfl : ad237 = ad238 := (by injection e238)
        obtain ⟨ce238, hce238, hMe238, hcc238⟩ := Kd.S_get HO_236000.out z106 x5_1 p238 (by first | exact q238 | exact od (by with_reducible assumption) | (have e_ := (Kd.S_reads' HO_236000.out).1; omega))
        obtain ⟨ve238_1, rfl, ge238_1⟩ := k106_openM hMe238
        have hv238_1 := hcc238 1 _ rfl
        rw [add_field _ _ 1 (by omega)] at hv238_1
        replace hv238_1 := Option.some.inj (hv238_1.symm.trans hx238_1)
        rw [hv238_1] at ge238_1
        have HL238_1 := am (show Kd.R k110 110 _ _ _ _ ((rd_T106 t228 x5_1).f1) from ge238_1)
        clear hv238_1 ge238_1
        clear hcc238 hce238
        have HR238_1 := am hi238_1
        have HC238_1 := am hl238_1
        clear hi238_1 hl238_1
        replace p238 := eq_true p238
        replace q238 := eq_true q238
        have ea_ := Option.some.inj (hx237_1.symm.trans hx238_1)
        injection ea_ with ea_ en_ ec_
        subst ea_
        subst ec_
        clear en_
        have p239 : 0 ≤ (x6_3 : Int) := od (by with_reducible assumption)
        have q239 : x6_3 < (((rd_T106 t228 x5_1).f1).length : Int) := od (by with_reducible assumption)
        obtain ⟨ad239, e239, hx239_0, hx239_1, hx239_2⟩ := at_T110 HR238_1.out x6_3 p239 q239
        cases e239
        replace p239 := eq_true p239
        replace q239 := eq_true q239
        go_wp2_with (first | ((with_reducible refine gate_dst (N := 7) rfl ?_); refine box_event ?hg (N := 7) ?hd (cs := #[.int .i64 0, .int .i64 0]) (t := 108) ?hr ?_; (case hd => rfl); (case hg => rfl); (case hr => go_simp <;> rfl); intro gb240 hg w37 hbox hb; replace HO_236000 := kS HO_236000.out hb; replace HO_236001 := kR HO_236001.out hb; replace HL237_1 := kR HL237_1.out hb; replace HL238_1 := kR HL238_1.out hb; replace HR237_1 := kC HR237_1.out hb; replace HR238_1 := kC HR238_1.out hb; have BK240 := am hbox; have GW240 := gef hg HB.out; have GE240 := gef hg HB.out; replace HB := bs HB.out hb; have NB235_240 := nl hg BK235.out; have NB240_235 := ng hg BK235.out; replace BK235 := kb BK235.out hb; clear hb hbox hg; have hnb38 := NB240_235.out; have hnc38 := NB235_240.out; obtain ⟨hcz39_0, hcz39_1, hfz39_0, hfz39_1⟩ := bk2 BK240.out))
        go_ret
        exact ⟨by rfl, vb HB.out⟩
       rw [if_neg c35] at H
       have c35b0 : decide (160 < ((rd_T110 ((rd_T106 t228 x5_1).f1) x6_3).f0.f1)) = false := df c35
       clear c35
       have H' := am H
       clear H
       obtain ⟨hcz40_0, hcz40_1, hfz40_0, hfz40_1⟩ := bk2 BK235.out
       have p237 : 0 ≤ (x5_1 : Int) := od (by with_reducible assumption)
       have q237 : x5_1 < (t228.length : Int) := od (by with_reducible assumption)
       obtain ⟨ad237, A237_1, c237_1, e237, hx237_0, hx237_1, hl237_1, hi237_1⟩ := at_T106 (Kd.S_reads' HO_236000.out).2.2 x5_1 p237 q237
       cases e237
       obtain ⟨ce237, hce237, hMe237, hcc237⟩ := Kd.S_get HO_236000.out z106 x5_1 p237 (by first | exact q237 | exact od (by with_reducible assumption) | (have e_ := (Kd.S_reads' HO_236000.out).1; omega))
       obtain ⟨ve237_1, rfl, ge237_1⟩ := k106_openM hMe237
       have hv237_1 := hcc237 1 _ rfl
       rw [add_field _ _ 1 (by omega)] at hv237_1
       replace hv237_1 := Option.some.inj (hv237_1.symm.trans hx237_1)
       rw [hv237_1] at ge237_1
       have HL237_1 := am (show Kd.R k110 110 _ _ _ _ ((rd_T106 t228 x5_1).f1) from ge237_1)
       clear hv237_1 ge237_1
       clear hcc237 hce237
       have HR237_1 := am hi237_1
       have HC237_1 := am hl237_1
       clear hi237_1 hl237_1
       replace p237 := eq_true p237
       replace q237 := eq_true q237
       have p238 : 0 ≤ (x5_1 : Int) := od (by with_reducible assumption)
       have q238 : x5_1 < (t228.length : Int) := od (by with_reducible assumption)
       obtain ⟨ad238, A238_1, c238_1, e238, hx238_0, hx238_1, hl238_1, hi238_1⟩ := at_T106 (Kd.S_reads' HO_236000.out).2.2 x5_1 p238 q238
       obtain rfl : ad237 = ad238 := (by injection e238)
       obtain ⟨ce238, hce238, hMe238, hcc238⟩ := Kd.S_get HO_236000.out z106 x5_1 p238 (by first | exact q238 | exact od (by with_reducible assumption) | (have e_ := (Kd.S_reads' HO_236000.out).1; omega))
       obtain ⟨ve238_1, rfl, ge238_1⟩ := k106_openM hMe238
       have hv238_1 := hcc238 1 _ rfl
       rw [add_field _ _ 1 (by omega)] at hv238_1
       replace hv238_1 := Option.some.inj (hv238_1.symm.trans hx238_1)
       rw [hv238_1] at ge238_1
       have HL238_1 := am (show Kd.R k110 110 _ _ _ _ ((rd_T106 t228 x5_1).f1) from ge238_1)
       clear hv238_1 ge238_1
       clear hcc238 hce238
       have HR238_1 := am hi238_1
       have HC238_1 := am hl238_1
       clear hi238_1 hl238_1
       replace p238 := eq_true p238
       replace q238 := eq_true q238
       have ea_ := Option.some.inj (hx237_1.symm.trans hx238_1)
       injection ea_ with ea_ en_ ec_
       subst ea_
       subst ec_
       clear en_
       have p239 : 0 ≤ (x6_3 : Int) := od (by with_reducible assumption)
       have q239 : x6_3 < (((rd_T106 t228 x5_1).f1).length : Int) := od (by with_reducible assumption)
       obtain ⟨ad239, e239, hx239_0, hx239_1, hx239_2⟩ := at_T110 HR238_1.out x6_3 p239 q239
       cases e239
       replace p239 := eq_true p239
       replace q239 := eq_true q239
       go_wp2_with (first | ((with_reducible refine gate_dst (N := 7) rfl ?_); refine box_event ?hg (N := 7) ?hd (cs := #[.int .i64 0, .int .i64 0]) (t := 108) ?hr ?_; (case hd => rfl); (case hg => rfl); (case hr => go_simp <;> rfl); intro gb240 hg w41 hbox hb; replace HO_236000 := kS HO_236000.out hb; replace HO_236001 := kR HO_236001.out hb; replace HL237_1 := kR HL237_1.out hb; replace HL238_1 := kR HL238_1.out hb; replace HR237_1 := kC HR237_1.out hb; replace HR238_1 := kC HR238_1.out hb; have BK240 := am hbox; have GW240 := gef hg HB.out; have GE240 := gef hg HB.out; replace HB := bs HB.out hb; have NB235_240 := nl hg BK235.out; have NB240_235 := ng hg BK235.out; replace BK235 := kb BK235.out hb; clear hb hbox hg; have hnb42 := NB240_235.out; have hnc42 := NB235_240.out; obtain ⟨hcz43_0, hcz43_1, hfz43_0, hfz43_1⟩ := bk2 BK240.out))
       go_roundg k3
       case measure => have := HK1.out; have := HJ9.out; have := HK3.out; omega
       case rel => exact ⟨(wrap64 (x6_3 + 1)), (by first | rfl | (simp; done) | simp [*]), H', ⟨by have := HK1.out; have := HJ9.out; have := HK3.out; omega⟩, ⟨vS (Kd.S_mono (Kd.S_far (p := ⟨gb240, 1, none⟩) (Kd.S_far (p := ⟨gb240, 0, none⟩) (Kd.S_types HO_236000.out BK240.out (by decide)) (fun _ hk => hk.2) (.int .i64 ((rd_T110 ((rd_T106 t228 x5_1).f1) x6_3).f0.f0))) (fun _ hk => hk.2) (.int .i64 ((rd_T110 ((rd_T106 t228 x5_1).f1) x6_3).f0.f1))) (fun _ hk => trivial))⟩, ⟨vR (Kd.R_mono (Kd.R_far (p := ⟨gb240, 1, none⟩) (Kd.R_far (p := ⟨gb240, 0, none⟩) (Kd.R_types HO_236001.out BK240.out (by decide)) (fun _ hk => hk.2) (.int .i64 ((rd_T110 ((rd_T106 t228 x5_1).f1) x6_3).f0.f0))) (fun _ hk => hk.2) (.int .i64 ((rd_T110 ((rd_T106 t228 x5_1).f1) x6_3).f0.f1))) (fun _ hk => trivial))⟩, ⟨by exact vt (bf (vt (bf (vt BK235.out) NB235_240.out)) NB235_240.out)⟩, ⟨vb HB.out⟩⟩
end Go.Proofs.YtjgifmakhnkmdaaGreatDoor.XRep
