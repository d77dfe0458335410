import Derived.Test.YtjgifmakhnkmdaaGreatDoorZCutA
import Derived.Test.YtjgifmakhnkmdaaGreatDoorZCmp
namespace Go.Proofs.YtjgifmakhnkmdaaGreatDoor.XRep
open Go.RowKit Go.Proofs.YtjgifmakhnkmdaaGreatDoorW.PrintWords Go.Proofs.YtjgifmakhnkmdaaGreatDoorW.PrintLast Go.Proofs.YtjgifmakhnkmdaaGreatDoorW.PrintMore Go.Proofs.YtjgifmakhnkmdaaGreatDoor.Cmp
set_option linter.unusedVariables false
set_option linter.unusedSimpArgs false
def Zbw.l0 : Nat → ByteArray → List (S34) → Int → Int → Option (ByteArray × Int)
 | 0, _, _, _, _ => none
 | k + 1, x9, x30, x31, x32 => if x32 < x31 then (if 0 ≤ x32 then (if x32 < (x30.length : Int) then (if ((rd_T34 x30 x32).f0) = 2 then (if ((rd_T34 x30 x32).f2).toList = x9.toList then (some ((rd_T34 x30 x32).f3, 0)) else (Zbw.l0 k x9 x30 x31 (wrap64 (x32 + 1)))) else (Zbw.l0 k x9 x30 x31 (wrap64 (x32 + 1)))) else (none)) else (none)) else (some ((⟨#[]⟩ : ByteArray), 8))
def Zbw.f (k : Nat) (l0 : List (S34)) (a1 : ByteArray) : Option (ByteArray × Int) := (Zch.f k l0 a1).bind fun bt393 => (if bt393.2.2 = 0 then ((Zbn.f k bt393.1 bt393.2.1).bind fun bt399 => (Zbw.l0 k bt399.1 bt393.1 (bt393.1.length : Int) 0)) else (some ((⟨#[]⟩ : ByteArray), bt393.2.2)))
set_option maxHeartbeats 8000000 in
set_option maxRecDepth 100000 in
theorem Zbw.calls (k : Nat) (A0 : Option Addr) (c0 : Nat) (l0 : List (S34)) (a1 : ByteArray) (r1 : ByteArray) (r2 : Int) (w : World) (hr0 : Kd.C k34 w A0 l0.length l0) (hc0 : l0.length ≤ c0) (h : Zbw.f k l0 a1 = some (r1, r2)) :
  Calls Tryz.prog 13 #[.slice A0 l0.length c0, .string a1] w fun e w' => e = .returned (.tuple #[.string r1, .int .i64 r2]) ∧ Below w.heap.size w w' := by
 have hu40 := Tryz.underlying40
 have hu34 := Tryz.underlying34
 have HR0 := am hr0
 have HC0 := am hc0
 clear hr0 hc0
 have HB := am (Below.refl w.heap.size w)
 have H : ((Zch.f k l0 a1).bind fun bt393 => (if bt393.2.2 = 0 then ((Zbn.f k bt393.1 bt393.2.1).bind fun bt399 => (Zbw.l0 k bt399.1 bt393.1 (bt393.1.length : Int) 0)) else (some ((⟨#[]⟩ : ByteArray), bt393.2.2)))) = some (r1, r2) := h
 clear h
 replace H := be H
 obtain ⟨⟨t393, t396, t397⟩, A30, H⟩ := H
 try dsimp only at H
 have A3 := am A30
 clear A30
 by_cases c4 : t397 = 0
 rotate_left
 ·rw [if_neg c4] at H
  have c4b0 : (t397 == 0) = false := beq_eq_false_iff_ne.mpr c4
  have c4b1 : (t397 != 0) = true := bne_iff_ne.mpr c4
  simp only [Option.some.injEq, Prod.mk.injEq] at H
  obtain ⟨rfl, rfl⟩ := H
  go_enter Tryz.func13, Tryz.ntmps13
  go_wp2_with (first | ((with_reducible refine gate_callee (f := 20) rfl ?_); refine goesL_ (some 16) rfl rfl Tryz.func20 (by kernel_rfl) rfl #[.slice A0 l0.length c0, .string a1] rfl (by (try simp only [mT, mC, mN]); first | done | rfl) ?_; (with_reducible refine (Zch.calls k _ _ l0 a1 t393 t396 t397 _ ?side1 ?side2 A3.out).mono ?_); (case side1 => exact vC HR0.out); (case side2 => exact HC0.out); rintro e w26 ⟨v394, rfl, ho0, hb⟩; refine ⟨_, rfl, ?_⟩; have HO395 := am (Kd.S_lower ho0 (below_size (vb HB.out))); replace HB := bs HB.out hb; (try clear hb)) | ((with_reducible refine gate_dst (N := 6) rfl ?_); refine box_event ?hg (N := 6) ?hd (cs := #[.slice none 0 0]) (t := 40) ?hr ?_; (case hd => rfl); (case hg => rfl); (case hr => go_simp <;> rfl); intro gb398 hg w27 hbox hb; replace HO395 := kS HO395.out hb; have BK398 := am hbox; have GW398 := gef hg HB.out; have GE398 := gef hg HB.out; replace HB := bs HB.out hb; clear hb hbox hg; obtain ⟨Ao28, co28, eo28⟩ := Kd.S_slice HO395.out; subst eo28; obtain ⟨hcz29_0, hfz29_0⟩ := bk1 BK398.out))
  go_ret2
  exact ⟨by rfl, vb HB.out⟩
 rw [if_pos c4] at H
 have c4b0 : (t397 == 0) = true := beq_iff_eq.mpr c4
 have c4b1 : (t397 != 0) = false := bne_eq_false_iff_eq.mpr c4
 clear c4
 replace H := be H
 obtain ⟨⟨t399, t400⟩, A50, H⟩ := H
 try dsimp only at H
 have A5 := am A50
 clear A50
 have H' := am H
 clear H
 go_enter Tryz.func13, Tryz.ntmps13
 go_wp2_with (first | ((with_reducible refine gate_callee (f := 20) rfl ?_); refine goesL_ (some 16) rfl rfl Tryz.func20 (by kernel_rfl) rfl #[.slice A0 l0.length c0, .string a1] rfl (by (try simp only [mT, mC, mN]); first | done | rfl) ?_; (with_reducible refine (Zch.calls k _ _ l0 a1 t393 t396 t397 _ ?side1 ?side2 A3.out).mono ?_); (case side1 => exact vC HR0.out); (case side2 => exact HC0.out); rintro e w6 ⟨v394, rfl, ho0, hb⟩; refine ⟨_, rfl, ?_⟩; have HO395 := am (Kd.S_lower ho0 (below_size (vb HB.out))); replace HB := bs HB.out hb; (try clear hb)) | ((with_reducible refine gate_dst (N := 6) rfl ?_); refine box_event ?hg (N := 6) ?hd (cs := #[.slice none 0 0]) (t := 40) ?hr ?_; (case hd => rfl); (case hg => rfl); (case hr => go_simp <;> rfl); intro gb398 hg w7 hbox hb; replace HO395 := kS HO395.out hb; have BK398 := am hbox; have GW398 := gef hg HB.out; have GE398 := gef hg HB.out; replace HB := bs HB.out hb; clear hb hbox hg; obtain ⟨Ao8, co8, eo8⟩ := Kd.S_slice HO395.out; subst eo8; obtain ⟨hcz9_0, hfz9_0⟩ := bk1 BK398.out) | ((with_reducible refine gate_callee (f := 34) rfl ?_); refine goesL_ (some 26) rfl rfl Tryz.func34 (by kernel_rfl) rfl #[.agg #[.slice Ao8 t393.length co8], .int .i64 t396] rfl (by (try simp only [mT, mC, mN]); first | done | rfl) ?_; (with_reducible refine (Zbn.calls k _ _ t393 t396 t399 t400 _ ?side1 ?side2 A5.out).mono ?_); (case side1 => refine (Kd.S_reads' (e := 34) (base := w.heap.size) (ok := fun k_ => True) (n := t393.length) (c := co8) ?_).2.2; exact (vS (Kd.S_mono (Kd.S_far (p := ⟨gb398, 0, none⟩) (Kd.S_types HO395.out BK398.out (by decide)) (fun _ hk => hk.2) (.slice Ao8 t393.length co8)) (fun _ h_ => h_.1)))); (case side2 => exact (Kd.S_reads' HO395.out).2.1); rintro e w10 ⟨rfl, hb⟩; refine ⟨_, rfl, ?_⟩; replace HO395 := am (Kd.S_below (vS (Kd.S_mono (Kd.S_far (p := ⟨gb398, 0, none⟩) (Kd.S_types HO395.out BK398.out (by decide)) (fun _ hk => hk.2) (.slice Ao8 t393.length co8)) (fun _ h_ => h_.1))) hb); replace BK398 := am (blk_below (g := gb398) (o := .cells #[.slice Ao8 t393.length co8] 40 (0, 0)) (by exact (vt (bp (vt BK398.out) 0)).trans rfl) hb); replace HB := bs HB.out hb; (try clear hb); (try clear hb2); (try clear hk); (try clear hi); obtain ⟨hcz11_0, hfz11_0⟩ := bk1 BK398.out))
 go_loopg [32] k (fun kq v32 w' => ∃ (x32_1 : Int), v32 = .int .i64 x32_1 ∧ Aside0 (Zbw.l0 kq t399 t393 (t393.length : Int) x32_1 = some (r1, r2)) ∧ Aside0 (kq ≤ k) ∧ Aside0 (Kd.S k34 34 w' w.heap.size (fun _ => True) (.slice Ao8 t393.length co8) t393) ∧ Aside0 (Kd.S k34 34 w' w.heap.size (fun _ => True) (.slice Ao8 t393.length co8) t393) ∧ Aside0 (w'.heap[gb398]? = some (.cells #[(.slice Ao8 t393.length co8)] 40 (0, 0))) ∧ Aside0 (Below w.heap.size w w'))
 case atStart => exact ⟨(0), (by first | rfl | (simp; done) | simp [*]), H', ⟨Nat.le_refl _⟩, ⟨vS HO395.out⟩, ⟨vS HO395.out⟩, ⟨vk BK398.out⟩, ⟨vb HB.out⟩⟩
 case round =>
  clear H'
  (try clear c1); (try clear c2); (try clear p2); (try clear c3); (try clear c4); (try clear c4b0); (try clear c4b1); (try clear hcz11_0); (try clear hcz9_0); (try clear hfz11_0); (try clear hfz9_0)
  obtain ⟨x32_1, rfl, HA, HK1, HO_30, HO_399000, BK398, HB⟩ := hrel
  cases gk with
  | zero => exact absurd HA.out (by simp [Zbw.l0])
  | succ k1 =>
   have H := HA.out
   clear HA
   simp only [Zbw.l0] at H
   by_cases c12 : x32_1 < (t393.length : Int)
   rotate_left
   ·rw [if_neg c12] at H
    have c12b0 : decide (x32_1 < (t393.length : Int)) = false := df c12
    clear c12
    simp only [Option.some.injEq, Prod.mk.injEq] at H
    obtain ⟨rfl, rfl⟩ := H
    go_wp2
    go_ret2
    exact ⟨by rfl, vb HB.out⟩
   rw [if_pos c12] at H
   have c12b0 : decide (x32_1 < (t393.length : Int)) = true := de c12
   clear c12
   by_cases c13 : 0 ≤ x32_1
   rotate_left
   ·rw [if_neg c13] at H
    exact absurd H (by simp)
   rw [if_pos c13] at H
   have c13b0 : decide (0 ≤ x32_1) = true := de c13
   clear c13
   by_cases c14 : x32_1 < (t393.length : Int)
   rotate_left
   ·rw [if_neg c14] at H
    exact absurd H (by simp)
   rw [if_pos c14] at H
   have c14b0 : decide (x32_1 < (t393.length : Int)) = true := de c14
   clear c14
   by_cases c15 : ((rd_T34 t393 x32_1).f0) = 2
   rotate_left
   ·rw [if_neg c15] at H
    have c15b0 : (((rd_T34 t393 x32_1).f0) == 2) = false := beq_eq_false_iff_ne.mpr c15
    have c15b1 : (((rd_T34 t393 x32_1).f0) != 2) = true := bne_iff_ne.mpr c15
    have H' := am H
    clear H
    have p401 : 0 ≤ (x32_1 : Int) := od (by with_reducible assumption)
    have q401 : x32_1 < (t393.length : Int) := od (by with_reducible assumption)
    obtain ⟨ad401, A401_4, c401_4, e401, hx401_0, hx401_1, hx401_2, hx401_3, hx401_4, hx401_5, hl401_4, hi401_4⟩ := at_T34 (Kd.S_reads' HO_30.out).2.2 x32_1 p401 q401
    cases e401
    obtain ⟨ce401, hce401, hMe401, hcc401⟩ := Kd.S_get HO_30.out z34 x32_1 p401 (by first | exact q401 | exact od (by with_reducible assumption) | (have e_ := (Kd.S_reads' HO_30.out).1; omega))
    obtain ⟨ve401_4, rfl, ge401_4⟩ := k34_openM hMe401
    have hv401_4 := hcc401 4 _ rfl
    rw [add_field _ _ 4 (by omega)] at hv401_4
    replace hv401_4 := Option.some.inj (hv401_4.symm.trans hx401_4)
    rw [hv401_4] at ge401_4
    have HL401_4 := am (show Kd.R (Kd.int .i64) 3 _ _ _ _ ((rd_T34 t393 x32_1).f4) from ge401_4)
    clear hv401_4 ge401_4
    clear hcc401 hce401
    have HR401_4 := am hi401_4
    have HC401_4 := am hl401_4
    clear hi401_4 hl401_4
    replace p401 := eq_true p401
    replace q401 := eq_true q401
    go_wp2_with (first | ((with_reducible refine gate_dst (N := 12) rfl ?_); refine box_event ?hg (N := 12) ?hd (cs := #[.int .i64 0, .int .i64 0, .string (⟨#[]⟩ : ByteArray), .string (⟨#[]⟩ : ByteArray), .slice none 0 0, .string (⟨#[]⟩ : ByteArray)]) (t := 34) ?hr ?_; (case hd => rfl); (case hg => rfl); (case hr => go_simp <;> rfl); intro gb402 hg w23 hbox hb; replace HO_30 := eS HO_30.out hg hb; replace HO_399000 := eS HO_399000.out hg hb; replace HL401_4 := kR HL401_4.out hb; replace HR401_4 := kC HR401_4.out hb; have BK402 := am hbox; have GW402 := gef hg HB.out; have GE402 := gef hg HB.out; replace HB := bs HB.out hb; have NB398_402 := nl hg BK398.out; have NB402_398 := ng hg BK398.out; replace BK398 := kb BK398.out hb; clear hb hbox hg; have hnb24 := NB402_398.out; have hnc24 := NB398_402.out; obtain ⟨hcz25_0, hcz25_1, hcz25_2, hcz25_3, hcz25_4, hcz25_5, hfz25_0, hfz25_1, hfz25_2, hfz25_3, hfz25_4, hfz25_5⟩ := bk6 BK402.out))
    go_roundg k1
    case measure => have := HK1.out; omega
    case rel => exact ⟨(wrap64 (x32_1 + 1)), (by first | rfl | (simp; done) | simp [*]), H', ⟨by have := HK1.out; omega⟩, ⟨vS (Kd.S_mono (fS6 gb402 (Kd.S_mono HO_30.out (fun k_ hk => (⟨hk, hk.2⟩ : _ ∧ k_ ≠ gb402))) (.int .i64 ((rd_T34 t393 x32_1).f0)) (.int .i64 ((rd_T34 t393 x32_1).f1)) (.string ((rd_T34 t393 x32_1).f2)) (.string ((rd_T34 t393 x32_1).f3)) (.slice A401_4 ((rd_T34 t393 x32_1).f4).length c401_4) (.string ((rd_T34 t393 x32_1).f5))) (fun _ hk => trivial))⟩, ⟨vS (Kd.S_mono (fS6 gb402 (Kd.S_mono HO_399000.out (fun k_ hk => (⟨hk, hk.2⟩ : _ ∧ k_ ≠ gb402))) (.int .i64 ((rd_T34 t393 x32_1).f0)) (.int .i64 ((rd_T34 t393 x32_1).f1)) (.string ((rd_T34 t393 x32_1).f2)) (.string ((rd_T34 t393 x32_1).f3)) (.slice A401_4 ((rd_T34 t393 x32_1).f4).length c401_4) (.string ((rd_T34 t393 x32_1).f5))) (fun _ hk => trivial))⟩, ⟨by exact vt (bf (vt (bf (vt (bf (vt (bf (vt (bf (vt (bf (vt BK398.out) NB398_402.out)) NB398_402.out)) NB398_402.out)) NB398_402.out)) NB398_402.out)) NB398_402.out)⟩, ⟨vb HB.out⟩⟩
   rw [if_pos c15] at H
   have c15b0 : (((rd_T34 t393 x32_1).f0) == 2) = true := beq_iff_eq.mpr c15
   have c15b1 : (((rd_T34 t393 x32_1).f0) != 2) = false := bne_eq_false_iff_eq.mpr c15
   clear c15
   by_cases c16 : ((rd_T34 t393 x32_1).f2).toList = t399.toList
   ·rw [if_pos c16] at H
    have c16b0 : (((rd_T34 t393 x32_1).f2).toList == t399.toList) = true := beq_iff_eq.mpr c16
    have c16b1 : (((rd_T34 t393 x32_1).f2).toList != t399.toList) = false := bne_eq_false_iff_eq.mpr c16
    clear c16
    simp only [Option.some.injEq, Prod.mk.injEq] at H
    obtain ⟨rfl, rfl⟩ := H
    have p401 : 0 ≤ (x32_1 : Int) := od (by with_reducible assumption)
    have q401 : x32_1 < (t393.length : Int) := od (by with_reducible assumption)
    obtain ⟨ad401, A401_4, c401_4, e401, hx401_0, hx401_1, hx401_2, hx401_3, hx401_4, hx401_5, hl401_4, hi401_4⟩ := at_T34 (Kd.S_reads' HO_30.out).2.2 x32_1 p401 q401
    cases e401
    obtain ⟨ce401, hce401, hMe401, hcc401⟩ := Kd.S_get HO_30.out z34 x32_1 p401 (by first | exact q401 | exact od (by with_reducible assumption) | (have e_ := (Kd.S_reads' HO_30.out).1; omega))
    obtain ⟨ve401_4, rfl, ge401_4⟩ := k34_openM hMe401
    have hv401_4 := hcc401 4 _ rfl
    rw [add_field _ _ 4 (by omega)] at hv401_4
    replace hv401_4 := Option.some.inj (hv401_4.symm.trans hx401_4)
    rw [hv401_4] at ge401_4
    have HL401_4 := am (show Kd.R (Kd.int .i64) 3 _ _ _ _ ((rd_T34 t393 x32_1).f4) from ge401_4)
    clear hv401_4 ge401_4
    clear hcc401 hce401
    have HR401_4 := am hi401_4
    have HC401_4 := am hl401_4
    clear hi401_4 hl401_4
    replace p401 := eq_true p401
    replace q401 := eq_true q401
    go_wp2_with (first | ((with_reducible refine gate_dst (N := 12) rfl ?_); refine box_event ?hg (N := 12) ?hd (cs := #[.int .i64 0, .int .i64 0, .string (⟨#[]⟩ : ByteArray), .string (⟨#[]⟩ : ByteArray), .slice none 0 0, .string (⟨#[]⟩ : ByteArray)]) (t := 34) ?hr ?_; (case hd => rfl); (case hg => rfl); (case hr => go_simp <;> rfl); intro gb402 hg w17 hbox hb; replace HO_30 := eS HO_30.out hg hb; replace HO_399000 := eS HO_399000.out hg hb; replace HL401_4 := kR HL401_4.out hb; replace HR401_4 := kC HR401_4.out hb; have BK402 := am hbox; have GW402 := gef hg HB.out; have GE402 := gef hg HB.out; replace HB := bs HB.out hb; have NB398_402 := nl hg BK398.out; have NB402_398 := ng hg BK398.out; replace BK398 := kb BK398.out hb; clear hb hbox hg; have hnb18 := NB402_398.out; have hnc18 := NB398_402.out; obtain ⟨hcz19_0, hcz19_1, hcz19_2, hcz19_3, hcz19_4, hcz19_5, hfz19_0, hfz19_1, hfz19_2, hfz19_3, hfz19_4, hfz19_5⟩ := bk6 BK402.out))
    go_ret2
    exact ⟨by rfl, vb HB.out⟩
   rw [if_neg c16] at H
   have c16b0 : (((rd_T34 t393 x32_1).f2).toList == t399.toList) = false := beq_eq_false_iff_ne.mpr c16
   have c16b1 : (((rd_T34 t393 x32_1).f2).toList != t399.toList) = true := bne_iff_ne.mpr c16
   have H' := am H
   clear H
   have p401 : 0 ≤ (x32_1 : Int) := od (by with_reducible assumption)
   have q401 : x32_1 < (t393.length : Int) := od (by with_reducible assumption)
   obtain ⟨ad401, A401_4, c401_4, e401, hx401_0, hx401_1, hx401_2, hx401_3, hx401_4, hx401_5, hl401_4, hi401_4⟩ := at_T34 (Kd.S_reads' HO_30.out).2.2 x32_1 p401 q401
   cases e401
   obtain ⟨ce401, hce401, hMe401, hcc401⟩ := Kd.S_get HO_30.out z34 x32_1 p401 (by first | exact q401 | exact od (by with_reducible assumption) | (have e_ := (Kd.S_reads' HO_30.out).1; omega))
   obtain ⟨ve401_4, rfl, ge401_4⟩ := k34_openM hMe401
   have hv401_4 := hcc401 4 _ rfl
   rw [add_field _ _ 4 (by omega)] at hv401_4
   replace hv401_4 := Option.some.inj (hv401_4.symm.trans hx401_4)
   rw [hv401_4] at ge401_4
   have HL401_4 := am (show Kd.R (Kd.int .i64) 3 _ _ _ _ ((rd_T34 t393 x32_1).f4) from ge401_4)
   clear hv401_4 ge401_4
   clear hcc401 hce401
   have HR401_4 := am hi401_4
   have HC401_4 := am hl401_4
   clear hi401_4 hl401_4
   replace p401 := eq_true p401
   replace q401 := eq_true q401
   go_wp2_with (first | ((with_reducible refine gate_dst (N := 12) rfl ?_); refine box_event ?hg (N := 12) ?hd (cs := #[.int .i64 0, .int .i64 0, .string (⟨#[]⟩ : ByteArray), .string (⟨#[]⟩ : ByteArray), .slice none 0 0, .string (⟨#[]⟩ : ByteArray)]) (t := 34) ?hr ?_; (case hd => rfl); (case hg => rfl); (case hr => go_simp <;> rfl); intro gb402 hg w20 hbox hb; replace HO_30 := eS HO_30.out hg hb; replace HO_399000 := eS HO_399000.out hg hb; replace HL401_4 := kR HL401_4.out hb; replace HR401_4 := kC HR401_4.out hb; have BK402 := am hbox; have GW402 := gef hg HB.out; have GE402 := gef hg HB.out; replace HB := bs HB.out hb; have NB398_402 := nl hg BK398.out; have NB402_398 := ng hg BK398.out; replace BK398 := kb BK398.out hb; clear hb hbox hg; have hnb21 := NB402_398.out; have hnc21 := NB398_402.out; obtain ⟨hcz22_0, hcz22_1, hcz22_2, hcz22_3, hcz22_4, hcz22_5, hfz22_0, hfz22_1, hfz22_2, hfz22_3, hfz22_4, hfz22_5⟩ := bk6 BK402.out))
   go_roundg k1
   case measure => have := HK1.out; omega
   case rel => exact ⟨(wrap64 (x32_1 + 1)), (by first | rfl | (simp; done) | simp [*]), H', ⟨by have := HK1.out; omega⟩, ⟨vS (Kd.S_mono (fS6 gb402 (Kd.S_mono HO_30.out (fun k_ hk => (⟨hk, hk.2⟩ : _ ∧ k_ ≠ gb402))) (.int .i64 ((rd_T34 t393 x32_1).f0)) (.int .i64 ((rd_T34 t393 x32_1).f1)) (.string ((rd_T34 t393 x32_1).f2)) (.string ((rd_T34 t393 x32_1).f3)) (.slice A401_4 ((rd_T34 t393 x32_1).f4).length c401_4) (.string ((rd_T34 t393 x32_1).f5))) (fun _ hk => trivial))⟩, ⟨vS (Kd.S_mono (fS6 gb402 (Kd.S_mono HO_399000.out (fun k_ hk => (⟨hk, hk.2⟩ : _ ∧ k_ ≠ gb402))) (.int .i64 ((rd_T34 t393 x32_1).f0)) (.int .i64 ((rd_T34 t393 x32_1).f1)) (.string ((rd_T34 t393 x32_1).f2)) (.string ((rd_T34 t393 x32_1).f3)) (.slice A401_4 ((rd_T34 t393 x32_1).f4).length c401_4) (.string ((rd_T34 t393 x32_1).f5))) (fun _ hk => trivial))⟩, ⟨by exact vt (bf (vt (bf (vt (bf (vt (bf (vt (bf (vt (bf (vt BK398.out) NB398_402.out)) NB398_402.out)) NB398_402.out)) NB398_402.out)) NB398_402.out)) NB398_402.out)⟩, ⟨vb HB.out⟩⟩
end Go.Proofs.YtjgifmakhnkmdaaGreatDoor.XRep
