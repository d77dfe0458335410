import Derived.Test.YtjgifmakhnkmdaaGreatDoorZXRepx1
import Derived.Test.YtjgifmakhnkmdaaGreatDoorZCmp
namespace Go.Proofs.YtjgifmakhnkmdaaGreatDoor.XRep
set_option maxHeartbeats 8000000
set_option maxRecDepth 100000
open Go.RowKit Go.Proofs.YtjgifmakhnkmdaaGreatDoorW.PrintWords Go.Proofs.YtjgifmakhnkmdaaGreatDoorW.PrintLast Go.Proofs.YtjgifmakhnkmdaaGreatDoorW.PrintMore Go.Proofs.YtjgifmakhnkmdaaGreatDoor.Cmp
set_option linter.unusedVariables false
set_option linter.unusedSimpArgs false
def Zbj.l0 : Nat → List Int → List Int → Int → Option (Bool)
 | 0, _, _, _ => none
 | k + 1, x0, x1, x5 => if x5 < (x0.length : Int) then (if 0 ≤ x5 then (if x5 < (x1.length : Int) then (if (rd x0 x5) = (rd x1 x5) then (Zbj.l0 k x0 x1 (wrap64 (x5 + 1))) else (some false)) else (none)) else (none)) else (some true)
def Zbj.f (k : Nat) (l0 : List Int) (l1 : List Int) : Option (Bool) := if (l0.length : Int) = (l1.length : Int) then (Zbj.l0 k l0 l1 0) else (some false)
theorem Zbj.calls (k : Nat) (A0 : Option Addr) (c0 : Nat) (l0 : List Int) (A1 : Option Addr) (c1 : Nat) (l1 : List Int) (r : Bool) (w : World) (hr0 : Kd.C (Kd.int .i64) w A0 l0.length l0) (hc0 : l0.length ≤ c0) (hr1 : Kd.C (Kd.int .i64) w A1 l1.length l1) (hc1 : l1.length ≤ c1) (h : Zbj.f k l0 l1 = some r) :
  Calls Tryz.prog 60 #[.slice A0 l0.length c0, .slice A1 l1.length c1] w fun e w' => e = .returned (.bool r) ∧ Drawn0 w w' := by
 have HR0 := am hr0
 have HC0 := am hc0
 clear hr0 hc0
 have HR1 := am hr1
 have HC1 := am hc1
 clear hr1 hc1
 have H : (if (l0.length : Int) = (l1.length : Int) then (Zbj.l0 k l0 l1 0) else (some false)) = some r := h
 clear h
 by_cases c3 : (l0.length : Int) = (l1.length : Int)
 rotate_left
 ·rw [if_neg c3] at H
  have c3b0 : ((l0.length : Int) == (l1.length : Int)) = false := beq_eq_false_iff_ne.mpr c3
  have c3b1 : ((l0.length : Int) != (l1.length : Int)) = true := bne_iff_ne.mpr c3
  have c3b2 : (l0.length == l1.length) = false := by first | simpa using c3 | (simp at c3 ⊢; omega)
  obtain rfl := Option.some.inj H
  go_enter Tryz.func60, Tryz.ntmps60
  go_wp2
  repeat (go_quiet (fail); try go_wp2)
  go_ret
  exact ⟨by first | rfl | (simp; done) | (simp [*]; done), by repeat (first | exact Drawn0.refl _ | apply Drawn0.step)⟩
 rw [if_pos c3] at H
 have c3b0 : ((l0.length : Int) == (l1.length : Int)) = true := beq_iff_eq.mpr c3
 have c3b1 : ((l0.length : Int) != (l1.length : Int)) = false := bne_eq_false_iff_eq.mpr c3
 have c3b2 : (l0.length == l1.length) = true := by first | simpa using c3 | (simp at c3 ⊢; omega)
 clear c3
 have H' := am H
 clear H
 go_enter Tryz.func60, Tryz.ntmps60
 go_wp2
 repeat (go_quiet (fail); try go_wp2)
 go_loopg [5] k (fun kq v5 w' => ∃ (x5_1 : Int), v5 = .int .i64 x5_1 ∧ Aside0 (Zbj.l0 kq l0 l1 x5_1 = some r) ∧ Aside0 (kq ≤ k) ∧ Drawn0 w w')
 case atStart => exact ⟨(0), (by first | rfl | (simp; done) | simp [*]), H', ⟨Nat.le_refl _⟩, by repeat (first | exact Drawn0.refl _ | apply Drawn0.step)⟩
 case round =>
  clear H'
  (try clear c1); (try clear p2); (try clear c3); (try clear c3b0); (try clear c3b1); (try clear c3b2)
  obtain ⟨x5_1, rfl, HA, HK1, ⟨m1, rfl⟩⟩ := hrel
  cases gk with
  | zero => exact absurd HA.out (by simp [Zbj.l0])
  | succ k1 =>
   have H := HA.out
   clear HA
   simp only [Zbj.l0] at H
   by_cases c4 : x5_1 < (l0.length : Int)
   rotate_left
   ·rw [if_neg c4] at H
    have c4b0 : decide (x5_1 < (l0.length : Int)) = false := df c4
    clear c4
    obtain rfl := Option.some.inj H
    go_wp2
    repeat (go_quiet (fail); try go_wp2)
    go_ret
    exact ⟨by first | rfl | (simp; done) | (simp [*]; done), by repeat (first | exact Drawn0.refl _ | apply Drawn0.step)⟩
   rw [if_pos c4] at H
   have c4b0 : decide (x5_1 < (l0.length : Int)) = true := de c4
   clear c4
   by_cases c5 : 0 ≤ x5_1
   rotate_left
   ·rw [if_neg c5] at H
    exact absurd H (by simp)
   rw [if_pos c5] at H
   have c5b0 : decide (0 ≤ x5_1) = true := de c5
   clear c5
   by_cases c6 : x5_1 < (l1.length : Int)
   rotate_left
   ·rw [if_neg c6] at H
    exact absurd H (by simp)
   rw [if_pos c6] at H
   have c6b0 : decide (x5_1 < (l1.length : Int)) = true := de c6
   clear c6
   by_cases c7 : (rd l0 x5_1) = (rd l1 x5_1)
   rotate_left
   ·rw [if_neg c7] at H
    have c7b0 : ((rd l0 x5_1) == (rd l1 x5_1)) = false := beq_eq_false_iff_ne.mpr c7
    have c7b1 : ((rd l0 x5_1) != (rd l1 x5_1)) = true := bne_iff_ne.mpr c7
    obtain rfl := Option.some.inj H
    have p589 : 0 ≤ (x5_1 : Int) := od (by with_reducible assumption)
    have q589 : x5_1 < (l0.length : Int) := od (by with_reducible assumption)
    obtain ⟨ad589, e589, hx589_0⟩ := Kd.at_int HR0.out x5_1 p589 q589
    cases e589
    replace p589 := eq_true p589
    replace q589 := eq_true q589
    have p590 : 0 ≤ (x5_1 : Int) := od (by with_reducible assumption)
    have q590 : x5_1 < (l1.length : Int) := od (by with_reducible assumption)
    obtain ⟨ad590, e590, hx590_0⟩ := Kd.at_int HR1.out x5_1 p590 q590
    cases e590
    replace p590 := eq_true p590
    replace q590 := eq_true q590
    go_wp2
    repeat (go_quiet (fail); try go_wp2)
    go_ret
    exact ⟨by first | rfl | (simp; done) | (simp [*]; done), by repeat (first | exact Drawn0.refl _ | apply Drawn0.step)⟩
   rw [if_pos c7] at H
   have c7b0 : ((rd l0 x5_1) == (rd l1 x5_1)) = true := beq_iff_eq.mpr c7
   have c7b1 : ((rd l0 x5_1) != (rd l1 x5_1)) = false := bne_eq_false_iff_eq.mpr c7
   clear c7
   have H' := am H
   clear H
   have p589 : 0 ≤ (x5_1 : Int) := od (by with_reducible assumption)
   have q589 : x5_1 < (l0.length : Int) := od (by with_reducible assumption)
   obtain ⟨ad589, e589, hx589_0⟩ := Kd.at_int HR0.out x5_1 p589 q589
   cases e589
   replace p589 := eq_true p589
   replace q589 := eq_true q589
   have p590 : 0 ≤ (x5_1 : Int) := od (by with_reducible assumption)
   have q590 : x5_1 < (l1.length : Int) := od (by with_reducible assumption)
   obtain ⟨ad590, e590, hx590_0⟩ := Kd.at_int HR1.out x5_1 p590 q590
   cases e590
   replace p590 := eq_true p590
   replace q590 := eq_true q590
   go_wp2
   repeat (go_quiet (fail); try go_wp2)
   go_roundg k1
   case measure => have := HK1.out; omega
   case rel => exact ⟨(wrap64 (x5_1 + 1)), (by first | rfl | (simp; done) | simp [*]), H', ⟨by have := HK1.out; omega⟩, by repeat (first | exact Drawn0.refl _ | apply Drawn0.step)⟩
def Zbm.f (k : Nat) (a0_0 : Int) (a0_1 : Int) (a0_2 : ByteArray) (a0_3 : ByteArray) (l0_4 : List Int) (a0_5 : ByteArray) (a1_0 : Int) (a1_1 : Int) (a1_2 : ByteArray) (a1_3 : ByteArray) (l1_4 : List Int) (a1_5 : ByteArray) : Option (Bool) := if a0_0 = a1_0 then (if a0_1 = a1_1 then (if a0_2.toList = a1_2.toList then (if a0_3.toList = a1_3.toList then ((Zbj.f k l0_4 l1_4).bind fun t593 => (if t593 = true then (some (a0_5.toList == a1_5.toList)) else (some false))) else (some false)) else (some false)) else (some false)) else (some false)
theorem Zbm.calls (k : Nat) (a0_0 : Int) (a0_1 : Int) (a0_2 : ByteArray) (a0_3 : ByteArray) (A0_4 : Option Addr) (c0_4 : Nat) (l0_4 : List Int) (a0_5 : ByteArray) (a1_0 : Int) (a1_1 : Int) (a1_2 : ByteArray) (a1_3 : ByteArray) (A1_4 : Option Addr) (c1_4 : Nat) (l1_4 : List Int) (a1_5 : ByteArray) (r : Bool) (w : World) (hr0_4 : Kd.C (Kd.int .i64) w A0_4 l0_4.length l0_4) (hc0_4 : l0_4.length ≤ c0_4) (hr1_4 : Kd.C (Kd.int .i64) w A1_4 l1_4.length l1_4) (hc1_4 : l1_4.length ≤ c1_4) (h : Zbm.f k a0_0 a0_1 a0_2 a0_3 l0_4 a0_5 a1_0 a1_1 a1_2 a1_3 l1_4 a1_5 = some r) :
  Calls Tryz.prog 29 #[.agg #[.int .i64 a0_0, .int .i64 a0_1, .string a0_2, .string a0_3, .slice A0_4 l0_4.length c0_4, .string a0_5], .agg #[.int .i64 a1_0, .int .i64 a1_1, .string a1_2, .string a1_3, .slice A1_4 l1_4.length c1_4, .string a1_5]] w fun e w' => e = .returned (.bool r) ∧ Below w.heap.size w w' := by
 have hu34 := Tryz.underlying34
 have HR0_4 := am hr0_4
 have HC0_4 := am hc0_4
 clear hr0_4 hc0_4
 have HR1_4 := am hr1_4
 have HC1_4 := am hc1_4
 clear hr1_4 hc1_4
 have HB := am (Below.refl w.heap.size w)
 have H : (if a0_0 = a1_0 then (if a0_1 = a1_1 then (if a0_2.toList = a1_2.toList then (if a0_3.toList = a1_3.toList then ((Zbj.f k l0_4 l1_4).bind fun t593 => (if t593 = true then (some (a0_5.toList == a1_5.toList)) else (some false))) else (some false)) else (some false)) else (some false)) else (some false)) = some r := h
 clear h
 by_cases c3 : a0_0 = a1_0
 rotate_left
 ·rw [if_neg c3] at H
  have c3b0 : (a0_0 == a1_0) = false := beq_eq_false_iff_ne.mpr c3
  have c3b1 : (a0_0 != a1_0) = true := bne_iff_ne.mpr c3
  obtain rfl := Option.some.inj H
  go_enter Tryz.func29, Tryz.ntmps29
  go_wp2_with (first | ((with_reducible refine gate_dst (N := 2) rfl ?_); refine box_event ?hg (N := 2) ?hd (cs := #[.int .i64 a0_0, .int .i64 a0_1, .string a0_2, .string a0_3, .slice A0_4 l0_4.length c0_4, .string a0_5]) (t := 34) ?hr ?_; (case hd => rfl); (case hg => rfl); (case hr => go_simp <;> rfl); intro gb591 hg w34 hbox hb; have BK591 := am hbox; have GW591 := gef hg HB.out; have GE591 := gef hg HB.out; replace HB := bs HB.out hb; clear hb hbox hg) | ((with_reducible refine gate_dst (N := 3) rfl ?_); refine box_event ?hg (N := 3) ?hd (cs := #[.int .i64 a1_0, .int .i64 a1_1, .string a1_2, .string a1_3, .slice A1_4 l1_4.length c1_4, .string a1_5]) (t := 34) ?hr ?_; (case hd => rfl); (case hg => rfl); (case hr => go_simp <;> rfl); intro gb592 hg w35 hbox hb; have BK592 := am hbox; have GW592 := gef hg HB.out; have GE592 := gef hg HB.out; replace HB := bs HB.out hb; have NB591_592 := nl hg BK591.out; have NB592_591 := ng hg BK591.out; replace BK591 := kb BK591.out hb; clear hb hbox hg; have hnb36 := NB591_592.out; have hnc36 := NB592_591.out; have hcz37_0 : w35.cell? ⟨gb591, 0, none⟩ = some (.int .i64 a0_0) := (blk_cell BK591.out 0).trans rfl; have hcz37_1 : w35.cell? ⟨gb591, 1, none⟩ = some (.int .i64 a0_1) := (blk_cell BK591.out 1).trans rfl; have hcz37_2 : w35.cell? ⟨gb591, 2, none⟩ = some (.string a0_2) := (blk_cell BK591.out 2).trans rfl; have hcz37_3 : w35.cell? ⟨gb591, 3, none⟩ = some (.string a0_3) := (blk_cell BK591.out 3).trans rfl; have hcz37_4 : w35.cell? ⟨gb591, 4, none⟩ = some (.slice A0_4 l0_4.length c0_4) := (blk_cell BK591.out 4).trans rfl; have hcz37_5 : w35.cell? ⟨gb591, 5, none⟩ = some (.string a0_5) := (blk_cell BK591.out 5).trans rfl; have hfz37_0 := blk_frozen BK591.out 0; have hfz37_1 := blk_frozen BK591.out 1; have hfz37_2 := blk_frozen BK591.out 2; have hfz37_3 := blk_frozen BK591.out 3; have hfz37_4 := blk_frozen BK591.out 4; have hfz37_5 := blk_frozen BK591.out 5; obtain ⟨hcz38_0, hcz38_1, hcz38_2, hcz38_3, hcz38_4, hcz38_5, hfz38_0, hfz38_1, hfz38_2, hfz38_3, hfz38_4, hfz38_5⟩ := bk6 BK592.out))
  go_ret
  exact ⟨by rfl, vb HB.out⟩
 rw [if_pos c3] at H
 have c3b0 : (a0_0 == a1_0) = true := beq_iff_eq.mpr c3
 have c3b1 : (a0_0 != a1_0) = false := bne_eq_false_iff_eq.mpr c3
 clear c3
 by_cases c4 : a0_1 = a1_1
 rotate_left
 ·rw [if_neg c4] at H
  have c4b0 : (a0_1 == a1_1) = false := beq_eq_false_iff_ne.mpr c4
  have c4b1 : (a0_1 != a1_1) = true := bne_iff_ne.mpr c4
  obtain rfl := Option.some.inj H
  go_enter Tryz.func29, Tryz.ntmps29
  go_wp2_with (first | ((with_reducible refine gate_dst (N := 2) rfl ?_); refine box_event ?hg (N := 2) ?hd (cs := #[.int .i64 a0_0, .int .i64 a0_1, .string a0_2, .string a0_3, .slice A0_4 l0_4.length c0_4, .string a0_5]) (t := 34) ?hr ?_; (case hd => rfl); (case hg => rfl); (case hr => go_simp <;> rfl); intro gb591 hg w29 hbox hb; have BK591 := am hbox; have GW591 := gef hg HB.out; have GE591 := gef hg HB.out; replace HB := bs HB.out hb; clear hb hbox hg) | ((with_reducible refine gate_dst (N := 3) rfl ?_); refine box_event ?hg (N := 3) ?hd (cs := #[.int .i64 a1_0, .int .i64 a1_1, .string a1_2, .string a1_3, .slice A1_4 l1_4.length c1_4, .string a1_5]) (t := 34) ?hr ?_; (case hd => rfl); (case hg => rfl); (case hr => go_simp <;> rfl); intro gb592 hg w30 hbox hb; have BK592 := am hbox; have GW592 := gef hg HB.out; have GE592 := gef hg HB.out; replace HB := bs HB.out hb; have NB591_592 := nl hg BK591.out; have NB592_591 := ng hg BK591.out; replace BK591 := kb BK591.out hb; clear hb hbox hg; have hnb31 := NB591_592.out; have hnc31 := NB592_591.out; have hcz32_0 : w30.cell? ⟨gb591, 0, none⟩ = some (.int .i64 a0_0) := (blk_cell BK591.out 0).trans rfl; have hcz32_1 : w30.cell? ⟨gb591, 1, none⟩ = some (.int .i64 a0_1) := (blk_cell BK591.out 1).trans rfl; have hcz32_2 : w30.cell? ⟨gb591, 2, none⟩ = some (.string a0_2) := (blk_cell BK591.out 2).trans rfl; have hcz32_3 : w30.cell? ⟨gb591, 3, none⟩ = some (.string a0_3) := (blk_cell BK591.out 3).trans rfl; have hcz32_4 : w30.cell? ⟨gb591, 4, none⟩ = some (.slice A0_4 l0_4.length c0_4) := (blk_cell BK591.out 4).trans rfl; have hcz32_5 : w30.cell? ⟨gb591, 5, none⟩ = some (.string a0_5) := (blk_cell BK591.out 5).trans rfl; have hfz32_0 := blk_frozen BK591.out 0; have hfz32_1 := blk_frozen BK591.out 1; have hfz32_2 := blk_frozen BK591.out 2; have hfz32_3 := blk_frozen BK591.out 3; have hfz32_4 := blk_frozen BK591.out 4; have hfz32_5 := blk_frozen BK591.out 5; obtain ⟨hcz33_0, hcz33_1, hcz33_2, hcz33_3, hcz33_4, hcz33_5, hfz33_0, hfz33_1, hfz33_2, hfz33_3, hfz33_4, hfz33_5⟩ := bk6 BK592.out))
  go_ret
  exact ⟨by rfl, vb HB.out⟩
 rw [if_pos c4] at H
 have c4b0 : (a0_1 == a1_1) = true := beq_iff_eq.mpr c4
 have c4b1 : (a0_1 != a1_1) = false := bne_eq_false_iff_eq.mpr c4
 clear c4
 by_cases c5 : a0_2.toList = a1_2.toList
 rotate_left
 ·rw [if_neg c5] at H
  have c5b0 : (a0_2.toList == a1_2.toList) = false := beq_eq_false_iff_ne.mpr c5
  have c5b1 : (a0_2.toList != a1_2.toList) = true := bne_iff_ne.mpr c5
  obtain rfl := Option.some.inj H
  go_enter Tryz.func29, Tryz.ntmps29
  go_wp2_with (first | ((with_reducible refine gate_dst (N := 2) rfl ?_); refine box_event ?hg (N := 2) ?hd (cs := #[.int .i64 a0_0, .int .i64 a0_1, .string a0_2, .string a0_3, .slice A0_4 l0_4.length c0_4, .string a0_5]) (t := 34) ?hr ?_; (case hd => rfl); (case hg => rfl); (case hr => go_simp <;> rfl); intro gb591 hg w24 hbox hb; have BK591 := am hbox; have GW591 := gef hg HB.out; have GE591 := gef hg HB.out; replace HB := bs HB.out hb; clear hb hbox hg) | ((with_reducible refine gate_dst (N := 3) rfl ?_); refine box_event ?hg (N := 3) ?hd (cs := #[.int .i64 a1_0, .int .i64 a1_1, .string a1_2, .string a1_3, .slice A1_4 l1_4.length c1_4, .string a1_5]) (t := 34) ?hr ?_; (case hd => rfl); (case hg => rfl); (case hr => go_simp <;> rfl); intro gb592 hg w25 hbox hb; have BK592 := am hbox; have GW592 := gef hg HB.out; have GE592 := gef hg HB.out; replace HB := bs HB.out hb; have NB591_592 := nl hg BK591.out; have NB592_591 := ng hg BK591.out; replace BK591 := kb BK591.out hb; clear hb hbox hg; have hnb26 := NB591_592.out; have hnc26 := NB592_591.out; have hcz27_0 : w25.cell? ⟨gb591, 0, none⟩ = some (.int .i64 a0_0) := (blk_cell BK591.out 0).trans rfl; have hcz27_1 : w25.cell? ⟨gb591, 1, none⟩ = some (.int .i64 a0_1) := (blk_cell BK591.out 1).trans rfl; have hcz27_2 : w25.cell? ⟨gb591, 2, none⟩ = some (.string a0_2) := (blk_cell BK591.out 2).trans rfl; have hcz27_3 : w25.cell? ⟨gb591, 3, none⟩ = some (.string a0_3) := (blk_cell BK591.out 3).trans rfl; have hcz27_4 : w25.cell? ⟨gb591, 4, none⟩ = some (.slice A0_4 l0_4.length c0_4) := (blk_cell BK591.out 4).trans rfl; have hcz27_5 : w25.cell? ⟨gb591, 5, none⟩ = some (.string a0_5) := (blk_cell BK591.out 5).trans rfl; have hfz27_0 := blk_frozen BK591.out 0; have hfz27_1 := blk_frozen BK591.out 1; have hfz27_2 := blk_frozen BK591.out 2; have hfz27_3 := blk_frozen BK591.out 3; have hfz27_4 := blk_frozen BK591.out 4; have hfz27_5 := blk_frozen BK591.out 5; obtain ⟨hcz28_0, hcz28_1, hcz28_2, hcz28_3, hcz28_4, hcz28_5, hfz28_0, hfz28_1, hfz28_2, hfz28_3, hfz28_4, hfz28_5⟩ := bk6 BK592.out))
  go_ret
  exact ⟨by rfl, vb HB.out⟩
 rw [if_pos c5] at H
 have c5b0 : (a0_2.toList == a1_2.toList) = true := beq_iff_eq.mpr c5
 have c5b1 : (a0_2.toList != a1_2.toList) = false := bne_eq_false_iff_eq.mpr c5
 clear c5
 by_cases c6 : a0_3.toList = a1_3.toList
 rotate_left
 ·rw [if_neg c6] at H
  have c6b0 : (a0_3.toList == a1_3.toList) = false := beq_eq_false_iff_ne.mpr c6
  have c6b1 : (a0_3.toList != a1_3.toList) = true := bne_iff_ne.mpr c6
  obtain rfl := Option.some.inj H
  go_enter Tryz.func29, Tryz.ntmps29
  go_wp2_with (first | ((with_reducible refine gate_dst (N := 2) rfl ?_); refine box_event ?hg (N := 2) ?hd (cs := #[.int .i64 a0_0, .int .i64 a0_1, .string a0_2, .string a0_3, .slice A0_4 l0_4.length c0_4, .string a0_5]) (t := 34) ?hr ?_; (case hd => rfl); (case hg => rfl); (case hr => go_simp <;> rfl); intro gb591 hg w19 hbox hb; have BK591 := am hbox; have GW591 := gef hg HB.out; have GE591 := gef hg HB.out; replace HB := bs HB.out hb; clear hb hbox hg) | ((with_reducible refine gate_dst (N := 3) rfl ?_); refine box_event ?hg (N := 3) ?hd (cs := #[.int .i64 a1_0, .int .i64 a1_1, .string a1_2, .string a1_3, .slice A1_4 l1_4.length c1_4, .string a1_5]) (t := 34) ?hr ?_; (case hd => rfl); (case hg => rfl); (case hr => go_simp <;> rfl); intro gb592 hg w20 hbox hb; have BK592 := am hbox; have GW592 := gef hg HB.out; have GE592 := gef hg HB.out; replace HB := bs HB.out hb; have NB591_592 := nl hg BK591.out; have NB592_591 := ng hg BK591.out; replace BK591 := kb BK591.out hb; clear hb hbox hg; have hnb21 := NB591_592.out; have hnc21 := NB592_591.out; have hcz22_0 : w20.cell? ⟨gb591, 0, none⟩ = some (.int .i64 a0_0) := (blk_cell BK591.out 0).trans rfl; have hcz22_1 : w20.cell? ⟨gb591, 1, none⟩ = some (.int .i64 a0_1) := (blk_cell BK591.out 1).trans rfl; have hcz22_2 : w20.cell? ⟨gb591, 2, none⟩ = some (.string a0_2) := (blk_cell BK591.out 2).trans rfl; have hcz22_3 : w20.cell? ⟨gb591, 3, none⟩ = some (.string a0_3) := (blk_cell BK591.out 3).trans rfl; have hcz22_4 : w20.cell? ⟨gb591, 4, none⟩ = some (.slice A0_4 l0_4.length c0_4) := (blk_cell BK591.out 4).trans rfl; have hcz22_5 : w20.cell? ⟨gb591, 5, none⟩ = some (.string a0_5) := (blk_cell BK591.out 5).trans rfl; have hfz22_0 := blk_frozen BK591.out 0; have hfz22_1 := blk_frozen BK591.out 1; have hfz22_2 := blk_frozen BK591.out 2; have hfz22_3 := blk_frozen BK591.out 3; have hfz22_4 := blk_frozen BK591.out 4; have hfz22_5 := blk_frozen BK591.out 5; obtain ⟨hcz23_0, hcz23_1, hcz23_2, hcz23_3, hcz23_4, hcz23_5, hfz23_0, hfz23_1, hfz23_2, hfz23_3, hfz23_4, hfz23_5⟩ := bk6 BK592.out))
  go_ret
  exact ⟨by rfl, vb HB.out⟩
 rw [if_pos c6] at H
 have c6b0 : (a0_3.toList == a1_3.toList) = true := beq_iff_eq.mpr c6
 have c6b1 : (a0_3.toList != a1_3.toList) = false := bne_eq_false_iff_eq.mpr c6
 clear c6
 replace H := be H
 obtain ⟨t593, A70, H⟩ := H
 try dsimp only at H
 have A7 := am A70
 clear A70
 by_cases c8 : t593 = true
 ·subst c8
  rw [if_pos rfl] at H
  obtain rfl := Option.some.inj H
  go_enter Tryz.func29, Tryz.ntmps29
  go_wp2_with (first | ((with_reducible refine gate_dst (N := 2) rfl ?_); refine box_event ?hg (N := 2) ?hd (cs := #[.int .i64 a0_0, .int .i64 a0_1, .string a0_2, .string a0_3, .slice A0_4 l0_4.length c0_4, .string a0_5]) (t := 34) ?hr ?_; (case hd => rfl); (case hg => rfl); (case hr => go_simp <;> rfl); intro gb591 hg w9 hbox hb; have BK591 := am hbox; have GW591 := gef hg HB.out; have GE591 := gef hg HB.out; replace HB := bs HB.out hb; clear hb hbox hg) | ((with_reducible refine gate_dst (N := 3) rfl ?_); refine box_event ?hg (N := 3) ?hd (cs := #[.int .i64 a1_0, .int .i64 a1_1, .string a1_2, .string a1_3, .slice A1_4 l1_4.length c1_4, .string a1_5]) (t := 34) ?hr ?_; (case hd => rfl); (case hg => rfl); (case hr => go_simp <;> rfl); intro gb592 hg w10 hbox hb; have BK592 := am hbox; have GW592 := gef hg HB.out; have GE592 := gef hg HB.out; replace HB := bs HB.out hb; have NB591_592 := nl hg BK591.out; have NB592_591 := ng hg BK591.out; replace BK591 := kb BK591.out hb; clear hb hbox hg; have hnb11 := NB591_592.out; have hnc11 := NB592_591.out; have hcz12_0 : w10.cell? ⟨gb591, 0, none⟩ = some (.int .i64 a0_0) := (blk_cell BK591.out 0).trans rfl; have hcz12_1 : w10.cell? ⟨gb591, 1, none⟩ = some (.int .i64 a0_1) := (blk_cell BK591.out 1).trans rfl; have hcz12_2 : w10.cell? ⟨gb591, 2, none⟩ = some (.string a0_2) := (blk_cell BK591.out 2).trans rfl; have hcz12_3 : w10.cell? ⟨gb591, 3, none⟩ = some (.string a0_3) := (blk_cell BK591.out 3).trans rfl; have hcz12_4 : w10.cell? ⟨gb591, 4, none⟩ = some (.slice A0_4 l0_4.length c0_4) := (blk_cell BK591.out 4).trans rfl; have hcz12_5 : w10.cell? ⟨gb591, 5, none⟩ = some (.string a0_5) := (blk_cell BK591.out 5).trans rfl; have hfz12_0 := blk_frozen BK591.out 0; have hfz12_1 := blk_frozen BK591.out 1; have hfz12_2 := blk_frozen BK591.out 2; have hfz12_3 := blk_frozen BK591.out 3; have hfz12_4 := blk_frozen BK591.out 4; have hfz12_5 := blk_frozen BK591.out 5; obtain ⟨hcz13_0, hcz13_1, hcz13_2, hcz13_3, hcz13_4, hcz13_5, hfz13_0, hfz13_1, hfz13_2, hfz13_3, hfz13_4, hfz13_5⟩ := bk6 BK592.out) | (go_at_call 60; (with_reducible refine (Zbj.calls k _ _ l0_4 _ _ l1_4 true _ ?side1 ?side2 ?side3 ?side4 A7.out).mono ?_); (case side1 => exact vC (Kd.C_below HR0_4.out HB.out)); (case side2 => exact HC0_4.out); (case side3 => exact vC (Kd.C_below HR1_4.out HB.out)); (case side4 => exact HC1_4.out); rintro e w' ⟨rfl, ⟨nd, rfl⟩⟩))
  go_ret
  exact ⟨by rfl, vb HB.out⟩
 replace c8 := Bool.eq_false_iff.mpr c8
 subst c8
 rw [if_neg (show ¬ (false = true) by decide)] at H
 obtain rfl := Option.some.inj H
 go_enter Tryz.func29, Tryz.ntmps29
 go_wp2_with (first | ((with_reducible refine gate_dst (N := 2) rfl ?_); refine box_event ?hg (N := 2) ?hd (cs := #[.int .i64 a0_0, .int .i64 a0_1, .string a0_2, .string a0_3, .slice A0_4 l0_4.length c0_4, .string a0_5]) (t := 34) ?hr ?_; (case hd => rfl); (case hg => rfl); (case hr => go_simp <;> rfl); intro gb591 hg w14 hbox hb; have BK591 := am hbox; have GW591 := gef hg HB.out; have GE591 := gef hg HB.out; replace HB := bs HB.out hb; clear hb hbox hg) | ((with_reducible refine gate_dst (N := 3) rfl ?_); refine box_event ?hg (N := 3) ?hd (cs := #[.int .i64 a1_0, .int .i64 a1_1, .string a1_2, .string a1_3, .slice A1_4 l1_4.length c1_4, .string a1_5]) (t := 34) ?hr ?_; (case hd => rfl); (case hg => rfl); (case hr => go_simp <;> rfl); intro gb592 hg w15 hbox hb; have BK592 := am hbox; have GW592 := gef hg HB.out; have GE592 := gef hg HB.out; replace HB := bs HB.out hb; have NB591_592 := nl hg BK591.out; have NB592_591 := ng hg BK591.out; replace BK591 := kb BK591.out hb; clear hb hbox hg; have hnb16 := NB591_592.out; have hnc16 := NB592_591.out; have hcz17_0 : w15.cell? ⟨gb591, 0, none⟩ = some (.int .i64 a0_0) := (blk_cell BK591.out 0).trans rfl; have hcz17_1 : w15.cell? ⟨gb591, 1, none⟩ = some (.int .i64 a0_1) := (blk_cell BK591.out 1).trans rfl; have hcz17_2 : w15.cell? ⟨gb591, 2, none⟩ = some (.string a0_2) := (blk_cell BK591.out 2).trans rfl; have hcz17_3 : w15.cell? ⟨gb591, 3, none⟩ = some (.string a0_3) := (blk_cell BK591.out 3).trans rfl; have hcz17_4 : w15.cell? ⟨gb591, 4, none⟩ = some (.slice A0_4 l0_4.length c0_4) := (blk_cell BK591.out 4).trans rfl; have hcz17_5 : w15.cell? ⟨gb591, 5, none⟩ = some (.string a0_5) := (blk_cell BK591.out 5).trans rfl; have hfz17_0 := blk_frozen BK591.out 0; have hfz17_1 := blk_frozen BK591.out 1; have hfz17_2 := blk_frozen BK591.out 2; have hfz17_3 := blk_frozen BK591.out 3; have hfz17_4 := blk_frozen BK591.out 4; have hfz17_5 := blk_frozen BK591.out 5; obtain ⟨hcz18_0, hcz18_1, hcz18_2, hcz18_3, hcz18_4, hcz18_5, hfz18_0, hfz18_1, hfz18_2, hfz18_3, hfz18_4, hfz18_5⟩ := bk6 BK592.out) | (go_at_call 60; (with_reducible refine (Zbj.calls k _ _ l0_4 _ _ l1_4 false _ ?side1 ?side2 ?side3 ?side4 A7.out).mono ?_); (case side1 => exact vC (Kd.C_below HR0_4.out HB.out)); (case side2 => exact HC0_4.out); (case side3 => exact vC (Kd.C_below HR1_4.out HB.out)); (case side4 => exact HC1_4.out); rintro e w' ⟨rfl, ⟨nd, rfl⟩⟩))
 go_ret
 exact ⟨by rfl, vb HB.out⟩
mutual
def Zap.l0 : Nat → List Int → List Int → Int → Int → Option (Bool)
 | 0, _, _, _, _ => none
 | k + 1, x0, x1, x5, x6 => if (wrap64 (x6 + 1)) < (x1.length : Int) then (Zap.j1 k x0 x1 x5 x6 (decide ((wrap64 (x5 + 1)) < (x0.length : Int)))) else (Zap.j1 k x0 x1 x5 x6 false)
def Zap.j1 : Nat → List Int → List Int → Int → Int → Bool → Option (Bool)
 | 0, _, _, _, _, _ => none
 | k + 1, x0, x1, x5, x6, x18 => if x18 = true then (if 0 ≤ x5 then (if x5 < (x0.length : Int) then (if 0 ≤ x6 then (if x6 < (x1.length : Int) then (if (rd x0 x5) = (rd x1 x6) then (if 0 ≤ (wrap64 (x5 + 1)) then (if (wrap64 (x5 + 1)) < (x0.length : Int) then (if 0 ≤ (wrap64 (x6 + 1)) then (if (wrap64 (x6 + 1)) < (x1.length : Int) then (if (rd x0 (wrap64 (x5 + 1))) = (rd x1 (wrap64 (x6 + 1))) then (Zap.l0 k x0 x1 (wrap64 (x5 + 2)) (wrap64 (x6 + 2))) else (Zap.l0 k x0 x1 x5 (wrap64 (x6 + 2)))) else (none)) else (none)) else (none)) else (none)) else (Zap.l0 k x0 x1 x5 (wrap64 (x6 + 2)))) else (none)) else (none)) else (none)) else (none)) else (some (x5 == (x0.length : Int)))
end
def Zap.f (k : Nat) (l0 : List Int) (l1 : List Int) : Option (Bool) := Zap.l0 k l0 l1 0 0
theorem Zap.calls (k : Nat) (A0 : Option Addr) (c0 : Nat) (l0 : List Int) (A1 : Option Addr) (c1 : Nat) (l1 : List Int) (r : Bool) (w : World) (hr0 : Kd.C (Kd.int .i64) w A0 l0.length l0) (hc0 : l0.length ≤ c0) (hr1 : Kd.C (Kd.int .i64) w A1 l1.length l1) (hc1 : l1.length ≤ c1) (h : Zap.f k l0 l1 = some r) :
  Calls Tryz.prog 35 #[.slice A0 l0.length c0, .slice A1 l1.length c1] w fun e w' => e = .returned (.bool r) ∧ Drawn0 w w' := by
 have HR0 := am hr0
 have HC0 := am hc0
 clear hr0 hc0
 have HR1 := am hr1
 have HC1 := am hc1
 clear hr1 hc1
 have H : (Zap.l0 k l0 l1 0 0) = some r := h
 clear h
 have H' := am H
 clear H
 go_enter Tryz.func35, Tryz.ntmps35
 go_wp2
 repeat (go_quiet (fail); try go_wp2)
 go_loopg [5, 6] k (fun kq v5 v6 w' => ∃ (x5_1 : Int) (x6_1 : Int), v5 = .int .i64 x5_1 ∧ v6 = .int .i64 x6_1 ∧ Aside0 (Zap.l0 kq l0 l1 x5_1 x6_1 = some r) ∧ Aside0 (kq ≤ k) ∧ Drawn0 w w')
 case atStart => exact ⟨(0), (0), (by first | rfl | (simp; done) | simp [*]), (by first | rfl | (simp; done) | simp [*]), H', ⟨Nat.le_refl _⟩, by repeat (first | exact Drawn0.refl _ | apply Drawn0.step)⟩
 case round =>
  clear H'
  (try clear c1); (try clear p2)
  obtain ⟨x5_1, x6_1, rfl, rfl, HA, HK1, ⟨m1, rfl⟩⟩ := hrel
  cases gk with
  | zero => exact absurd HA.out (by simp [Zap.l0])
  | succ k1 =>
   have H := HA.out
   clear HA
   simp only [Zap.l0] at H
   have HC3 := am H
   clear H
   go_upto_region 3 with (fail)
   repeat (go_quiet (fail); go_upto_region 3 with (fail))
   go_cut [18] (fun v18 wc => ∃ (kq : Nat) (x18_2 : Bool), v18 = .bool x18_2 ∧ Aside0 (Zap.j1 kq l0 l1 x5_1 x6_1 x18_2 = some r) ∧ Aside0 (kq ≤ k1) ∧ Drawn0 w wc)
   case first =>
    have H := HC3.out
    clear HC3
    by_cases c4 : (wrap64 (x6_1 + 1)) < (l1.length : Int)
    ·rw [if_pos c4] at H
     have c4b0 : decide ((wrap64 (x6_1 + 1)) < (l1.length : Int)) = true := de c4
     clear c4
     (first | rw [c4b0] | (simp only [i64_w]; rw [c4b0]) | skip)
     have H' := am H
     clear H
     go_wp2
     repeat (go_quiet (fail); try go_wp2)
     go_meet
     case rel => exact ⟨_, (decide ((wrap64 (x5_1 + 1)) < (l0.length : Int))), (by first | rfl | (simp; done) | simp [*]), H', ⟨by have := HK1.out; first | omega | exact Nat.le_refl _⟩, by repeat (first | exact Drawn0.refl _ | apply Drawn0.step)⟩
    rw [if_neg c4] at H
    have c4b0 : decide ((wrap64 (x6_1 + 1)) < (l1.length : Int)) = false := df c4
    clear c4
    (first | rw [c4b0] | (simp only [i64_w]; rw [c4b0]) | skip)
    have H' := am H
    clear H
    go_wp2
    repeat (go_quiet (fail); try go_wp2)
    go_meet
    case rel => exact ⟨_, (false), (by first | rfl | (simp; done) | simp [*]), H', ⟨by have := HK1.out; first | omega | exact Nat.le_refl _⟩, by repeat (first | exact Drawn0.refl _ | apply Drawn0.step)⟩
   case rest =>
    clear HC3
    (try clear c1); (try clear p2); (try clear c3); (try clear c4); (try clear c4b0); (try clear p2)
    obtain ⟨kq, x18_2, rfl, HA, HJ2, ⟨mc2, rfl⟩⟩ := hcut
    cases kq with
    | zero => exact absurd HA.out (by simp [Zap.j1])
    | succ kj2 =>
     have H := HA.out
     clear HA
     simp only [Zap.j1] at H
     by_cases c5 : x18_2 = true
     rotate_left
     ·replace c5 := Bool.eq_false_iff.mpr c5
      subst c5
      rw [if_neg (show ¬ (false = true) by decide)] at H
      obtain rfl := Option.some.inj H
      go_wp2
      repeat (go_quiet (fail); try go_wp2)
      go_ret
      exact ⟨by first | rfl | (simp; done) | (simp [*]; done), by repeat (first | exact Drawn0.refl _ | apply Drawn0.step)⟩
     subst c5
     rw [if_pos rfl] at H
     by_cases c6 : 0 ≤ x5_1
     rotate_left
     ·rw [if_neg c6] at H
      exact absurd H (by simp)
     rw [if_pos c6] at H
     have c6b0 : decide (0 ≤ x5_1) = true := de c6
     clear c6
     by_cases c7 : x5_1 < (l0.length : Int)
     rotate_left
     ·rw [if_neg c7] at H
      exact absurd H (by simp)
     rw [if_pos c7] at H
     have c7b0 : decide (x5_1 < (l0.length : Int)) = true := de c7
     clear c7
     by_cases c8 : 0 ≤ x6_1
     rotate_left
     ·rw [if_neg c8] at H
      exact absurd H (by simp)
     rw [if_pos c8] at H
     have c8b0 : decide (0 ≤ x6_1) = true := de c8
     clear c8
     by_cases c9 : x6_1 < (l1.length : Int)
     rotate_left
     ·rw [if_neg c9] at H
      exact absurd H (by simp)
     rw [if_pos c9] at H
     have c9b0 : decide (x6_1 < (l1.length : Int)) = true := de c9
     clear c9
     by_cases c10 : (rd l0 x5_1) = (rd l1 x6_1)
     rotate_left
     ·rw [if_neg c10] at H
      have c10b0 : ((rd l0 x5_1) == (rd l1 x6_1)) = false := beq_eq_false_iff_ne.mpr c10
      have c10b1 : ((rd l0 x5_1) != (rd l1 x6_1)) = true := bne_iff_ne.mpr c10
      have H' := am H
      clear H
      have p677 : 0 ≤ (x5_1 : Int) := od (by with_reducible assumption)
      have q677 : x5_1 < (l0.length : Int) := od (by with_reducible assumption)
      obtain ⟨ad677, e677, hx677_0⟩ := Kd.at_int HR0.out x5_1 p677 q677
      cases e677
      replace p677 := eq_true p677
      replace q677 := eq_true q677
      have p678 : 0 ≤ (x6_1 : Int) := od (by with_reducible assumption)
      have q678 : x6_1 < (l1.length : Int) := od (by with_reducible assumption)
      obtain ⟨ad678, e678, hx678_0⟩ := Kd.at_int HR1.out x6_1 p678 q678
      cases e678
      replace p678 := eq_true p678
      replace q678 := eq_true q678
      go_wp2
      repeat (go_quiet (fail); try go_wp2)
      go_roundg kj2
      case measure => have := HK1.out; have := HJ2.out; omega
      case rel => exact ⟨(x5_1), (wrap64 (x6_1 + 2)), (by first | rfl | (simp; done) | simp [*]), (by first | rfl | (simp; done) | simp [*]), H', ⟨by have := HK1.out; have := HJ2.out; omega⟩, by repeat (first | exact Drawn0.refl _ | apply Drawn0.step)⟩
     rw [if_pos c10] at H
     have c10b0 : ((rd l0 x5_1) == (rd l1 x6_1)) = true := beq_iff_eq.mpr c10
     have c10b1 : ((rd l0 x5_1) != (rd l1 x6_1)) = false := bne_eq_false_iff_eq.mpr c10
     clear c10
     obtain ⟨ji11, hji11⟩ : ∃ j_ : Int, (wrap64 (x5_1 + 1)) = j_ := ⟨_, rfl⟩
     replace H : (if 0 ≤ (ji11) then (if (ji11) < (l0.length : Int) then (if 0 ≤ (wrap64 (x6_1 + 1)) then (if (wrap64 (x6_1 + 1)) < (l1.length : Int) then (if (rd l0 (ji11)) = (rd l1 (wrap64 (x6_1 + 1))) then (Zap.l0 kj2 l0 l1 (wrap64 (x5_1 + 2)) (wrap64 (x6_1 + 2))) else (Zap.l0 kj2 l0 l1 x5_1 (wrap64 (x6_1 + 2)))) else (none)) else (none)) else (none)) else (none)) = some r := by first | (rw [hji11] at H; exact H) | (simp only [hji11] at H ⊢; exact H)
     have hji11w : (IntKind.i64.wrap (x5_1 + 1)) = ji11 := (i64_w _).trans hji11
     by_cases c12 : 0 ≤ (ji11)
     rotate_left
     ·rw [if_neg c12] at H
      exact absurd H (by simp)
     rw [if_pos c12] at H
     have c12b0 : decide (0 ≤ (ji11)) = true := de c12
     clear c12
     by_cases c13 : (ji11) < (l0.length : Int)
     rotate_left
     ·rw [if_neg c13] at H
      exact absurd H (by simp)
     rw [if_pos c13] at H
     have c13b0 : decide ((ji11) < (l0.length : Int)) = true := de c13
     clear c13
     obtain ⟨ji14, hji14⟩ : ∃ j_ : Int, (wrap64 (x6_1 + 1)) = j_ := ⟨_, rfl⟩
     replace H : (if 0 ≤ (ji14) then (if (ji14) < (l1.length : Int) then (if (rd l0 (ji11)) = (rd l1 (ji14)) then (Zap.l0 kj2 l0 l1 (wrap64 (x5_1 + 2)) (wrap64 (x6_1 + 2))) else (Zap.l0 kj2 l0 l1 x5_1 (wrap64 (x6_1 + 2)))) else (none)) else (none)) = some r := by first | (rw [hji14] at H; exact H) | (simp only [hji14] at H ⊢; exact H)
     have hji14w : (IntKind.i64.wrap (x6_1 + 1)) = ji14 := (i64_w _).trans hji14
     by_cases c15 : 0 ≤ (ji14)
     rotate_left
     ·rw [if_neg c15] at H
      exact absurd H (by simp)
     rw [if_pos c15] at H
     have c15b0 : decide (0 ≤ (ji14)) = true := de c15
     clear c15
     by_cases c16 : (ji14) < (l1.length : Int)
     rotate_left
     ·rw [if_neg c16] at H
      exact absurd H (by simp)
     rw [if_pos c16] at H
     have c16b0 : decide ((ji14) < (l1.length : Int)) = true := de c16
     clear c16
     by_cases c17 : (rd l0 (ji11)) = (rd l1 (ji14))
     rotate_left
     ·rw [if_neg c17] at H
      have c17b0 : ((rd l0 (ji11)) == (rd l1 (ji14))) = false := beq_eq_false_iff_ne.mpr c17
      have c17b1 : ((rd l0 (ji11)) != (rd l1 (ji14))) = true := bne_iff_ne.mpr c17
      have H' := am H
      clear H
      have p677 : 0 ≤ (x5_1 : Int) := od (by with_reducible assumption)
      have q677 : x5_1 < (l0.length : Int) := od (by with_reducible assumption)
      obtain ⟨ad677, e677, hx677_0⟩ := Kd.at_int HR0.out x5_1 p677 q677
      cases e677
      replace p677 := eq_true p677
      replace q677 := eq_true q677
      have p678 : 0 ≤ (x6_1 : Int) := od (by with_reducible assumption)
      have q678 : x6_1 < (l1.length : Int) := od (by with_reducible assumption)
      obtain ⟨ad678, e678, hx678_0⟩ := Kd.at_int HR1.out x6_1 p678 q678
      cases e678
      replace p678 := eq_true p678
      replace q678 := eq_true q678
      have p679 : 0 ≤ ((ji11) : Int) := od (by with_reducible assumption)
      have q679 : (ji11) < (l0.length : Int) := od (by with_reducible assumption)
      obtain ⟨ad679, e679, hx679_0⟩ := Kd.at_int HR0.out (ji11) p679 q679
      obtain rfl : ad677 = ad679 := (by injection e679)
      replace p679 := eq_true p679
      replace q679 := eq_true q679
      have p680 : 0 ≤ ((ji14) : Int) := od (by with_reducible assumption)
      have q680 : (ji14) < (l1.length : Int) := od (by with_reducible assumption)
      obtain ⟨ad680, e680, hx680_0⟩ := Kd.at_int HR1.out (ji14) p680 q680
      obtain rfl : ad678 = ad680 := (by injection e680)
      replace p680 := eq_true p680
      replace q680 := eq_true q680
      go_wp2
      repeat (go_quiet (fail); try go_wp2)
      go_roundg kj2
      case measure => have := HK1.out; have := HJ2.out; omega
      case rel => exact ⟨(x5_1), (wrap64 (x6_1 + 2)), (by first | rfl | (simp; done) | simp [*]), (by first | rfl | (simp; done) | simp [*]), H', ⟨by have := HK1.out; have := HJ2.out; omega⟩, by repeat (first | exact Drawn0.refl _ | apply Drawn0.step)⟩
     rw [if_pos c17] at H
     have c17b0 : ((rd l0 (ji11)) == (rd l1 (ji14))) = true := beq_iff_eq.mpr c17
     have c17b1 : ((rd l0 (ji11)) != (rd l1 (ji14))) = false := bne_eq_false_iff_eq.mpr c17
     clear c17
     have H' := am H
     clear H
     have p677 : 0 ≤ (x5_1 : Int) := od (by with_reducible assumption)
     have q677 : x5_1 < (l0.length : Int) := od (by with_reducible assumption)
     obtain ⟨ad677, e677, hx677_0⟩ := Kd.at_int HR0.out x5_1 p677 q677
     cases e677
     replace p677 := eq_true p677
     replace q677 := eq_true q677
     have p678 : 0 ≤ (x6_1 : Int) := od (by with_reducible assumption)
     have q678 : x6_1 < (l1.length : Int) := od (by with_reducible assumption)
     obtain ⟨ad678, e678, hx678_0⟩ := Kd.at_int HR1.out x6_1 p678 q678
     cases e678
     replace p678 := eq_true p678
     replace q678 := eq_true q678
     have p679 : 0 ≤ ((ji11) : Int) := od (by with_reducible assumption)
     have q679 : (ji11) < (l0.length : Int) := od (by with_reducible assumption)
     obtain ⟨ad679, e679, hx679_0⟩ := Kd.at_int HR0.out (ji11) p679 q679
     obtain rfl : ad677 = ad679 := (by injection e679)
     replace p679 := eq_true p679
     replace q679 := eq_true q679
     have p680 : 0 ≤ ((ji14) : Int) := od (by with_reducible assumption)
     have q680 : (ji14) < (l1.length : Int) := od (by with_reducible assumption)
     obtain ⟨ad680, e680, hx680_0⟩ := Kd.at_int HR1.out (ji14) p680 q680
     obtain rfl : ad678 = ad680 := (by injection e680)
     replace p680 := eq_true p680
     replace q680 := eq_true q680
     go_wp2
     repeat (go_quiet (fail); try go_wp2)
     go_roundg kj2
     case measure => have := HK1.out; have := HJ2.out; omega
     case rel => exact ⟨(wrap64 (x5_1 + 2)), (wrap64 (x6_1 + 2)), (by first | rfl | (simp; done) | simp [*]), (by first | rfl | (simp; done) | simp [*]), H', ⟨by have := HK1.out; have := HJ2.out; omega⟩, by repeat (first | exact Drawn0.refl _ | apply Drawn0.step)⟩
def Zag.f (k : Nat) (a0_0 : Int) (a0_1 : Int) (a0_2 : ByteArray) (a0_3 : ByteArray) (l0_4 : List Int) (a0_5 : ByteArray) (a1_0 : Int) (a1_1 : Int) (a1_2 : ByteArray) (a1_3 : ByteArray) (l1_4 : List Int) (a1_5 : ByteArray) : Option (Bool) := if a0_0 = 9 then (if a1_0 = 9 then ((Zap.f k l0_4 l1_4).bind fun t683 => (if t683 = true then ((Zbm.f k a0_0 a0_1 a0_2 a0_3 l1_4 a0_5 a1_0 a1_1 a1_2 a1_3 l1_4 a1_5).bind fun t684 => (some t684)) else ((Zbm.f k a0_0 a0_1 a0_2 a0_3 l0_4 a0_5 a1_0 a1_1 a1_2 a1_3 l1_4 a1_5).bind fun t685 => (some t685)))) else ((Zbm.f k a0_0 a0_1 a0_2 a0_3 l0_4 a0_5 a1_0 a1_1 a1_2 a1_3 l1_4 a1_5).bind fun t686 => (some t686))) else ((Zbm.f k a0_0 a0_1 a0_2 a0_3 l0_4 a0_5 a1_0 a1_1 a1_2 a1_3 l1_4 a1_5).bind fun t687 => (some t687))
theorem Zag.calls (k : Nat) (a0_0 : Int) (a0_1 : Int) (a0_2 : ByteArray) (a0_3 : ByteArray) (A0_4 : Option Addr) (c0_4 : Nat) (l0_4 : List Int) (a0_5 : ByteArray) (a1_0 : Int) (a1_1 : Int) (a1_2 : ByteArray) (a1_3 : ByteArray) (A1_4 : Option Addr) (c1_4 : Nat) (l1_4 : List Int) (a1_5 : ByteArray) (r : Bool) (w : World) (hr0_4 : Kd.C (Kd.int .i64) w A0_4 l0_4.length l0_4) (hc0_4 : l0_4.length ≤ c0_4) (hr1_4 : Kd.C (Kd.int .i64) w A1_4 l1_4.length l1_4) (hc1_4 : l1_4.length ≤ c1_4) (h : Zag.f k a0_0 a0_1 a0_2 a0_3 l0_4 a0_5 a1_0 a1_1 a1_2 a1_3 l1_4 a1_5 = some r) :
  Calls Tryz.prog 15 #[.agg #[.int .i64 a0_0, .int .i64 a0_1, .string a0_2, .string a0_3, .slice A0_4 l0_4.length c0_4, .string a0_5], .agg #[.int .i64 a1_0, .int .i64 a1_1, .string a1_2, .string a1_3, .slice A1_4 l1_4.length c1_4, .string a1_5]] w fun e w' => e = .returned (.bool r) ∧ Below w.heap.size w w' := by
 have hu34 := Tryz.underlying34
 have HR0_4 := am hr0_4
 have HC0_4 := am hc0_4
 clear hr0_4 hc0_4
 have HR1_4 := am hr1_4
 have HC1_4 := am hc1_4
 clear hr1_4 hc1_4
 have HB := am (Below.refl w.heap.size w)
 have H : (if a0_0 = 9 then (if a1_0 = 9 then ((Zap.f k l0_4 l1_4).bind fun t683 => (if t683 = true then ((Zbm.f k a0_0 a0_1 a0_2 a0_3 l1_4 a0_5 a1_0 a1_1 a1_2 a1_3 l1_4 a1_5).bind fun t684 => (some t684)) else ((Zbm.f k a0_0 a0_1 a0_2 a0_3 l0_4 a0_5 a1_0 a1_1 a1_2 a1_3 l1_4 a1_5).bind fun t685 => (some t685)))) else ((Zbm.f k a0_0 a0_1 a0_2 a0_3 l0_4 a0_5 a1_0 a1_1 a1_2 a1_3 l1_4 a1_5).bind fun t686 => (some t686))) else ((Zbm.f k a0_0 a0_1 a0_2 a0_3 l0_4 a0_5 a1_0 a1_1 a1_2 a1_3 l1_4 a1_5).bind fun t687 => (some t687))) = some r := h
 clear h
 by_cases c3 : a0_0 = 9
 rotate_left
 ·rw [if_neg c3] at H
  have c3b0 : (a0_0 == 9) = false := beq_eq_false_iff_ne.mpr c3
  have c3b1 : (a0_0 != 9) = true := bne_iff_ne.mpr c3
  replace H := be H
  obtain ⟨t687, A280, H⟩ := H
  try dsimp only at H
  have A28 := am A280
  clear A280
  obtain rfl := Option.some.inj H
  go_enter Tryz.func15, Tryz.ntmps15
  go_wp2_with (first | ((with_reducible refine gate_dst (N := 2) rfl ?_); refine box_event ?hg (N := 2) ?hd (cs := #[.int .i64 a0_0, .int .i64 a0_1, .string a0_2, .string a0_3, .slice A0_4 l0_4.length c0_4, .string a0_5]) (t := 34) ?hr ?_; (case hd => rfl); (case hg => rfl); (case hr => go_simp <;> rfl); intro gb681 hg w29 hbox hb; have BK681 := am hbox; have GW681 := gef hg HB.out; have GE681 := gef hg HB.out; replace HB := bs HB.out hb; clear hb hbox hg) | ((with_reducible refine gate_dst (N := 3) rfl ?_); refine box_event ?hg (N := 3) ?hd (cs := #[.int .i64 a1_0, .int .i64 a1_1, .string a1_2, .string a1_3, .slice A1_4 l1_4.length c1_4, .string a1_5]) (t := 34) ?hr ?_; (case hd => rfl); (case hg => rfl); (case hr => go_simp <;> rfl); intro gb682 hg w30 hbox hb; have BK682 := am hbox; have GW682 := gef hg HB.out; have GE682 := gef hg HB.out; replace HB := bs HB.out hb; have NB681_682 := nl hg BK681.out; have NB682_681 := ng hg BK681.out; replace BK681 := kb BK681.out hb; clear hb hbox hg; have hnb31 := NB681_682.out; have hnc31 := NB682_681.out; have hcz32_0 : w30.cell? ⟨gb681, 0, none⟩ = some (.int .i64 a0_0) := (blk_cell BK681.out 0).trans rfl; have hcz32_1 : w30.cell? ⟨gb681, 1, none⟩ = some (.int .i64 a0_1) := (blk_cell BK681.out 1).trans rfl; have hcz32_2 : w30.cell? ⟨gb681, 2, none⟩ = some (.string a0_2) := (blk_cell BK681.out 2).trans rfl; have hcz32_3 : w30.cell? ⟨gb681, 3, none⟩ = some (.string a0_3) := (blk_cell BK681.out 3).trans rfl; have hcz32_4 : w30.cell? ⟨gb681, 4, none⟩ = some (.slice A0_4 l0_4.length c0_4) := (blk_cell BK681.out 4).trans rfl; have hcz32_5 : w30.cell? ⟨gb681, 5, none⟩ = some (.string a0_5) := (blk_cell BK681.out 5).trans rfl; have hfz32_0 := blk_frozen BK681.out 0; have hfz32_1 := blk_frozen BK681.out 1; have hfz32_2 := blk_frozen BK681.out 2; have hfz32_3 := blk_frozen BK681.out 3; have hfz32_4 := blk_frozen BK681.out 4; have hfz32_5 := blk_frozen BK681.out 5; obtain ⟨hcz33_0, hcz33_1, hcz33_2, hcz33_3, hcz33_4, hcz33_5, hfz33_0, hfz33_1, hfz33_2, hfz33_3, hfz33_4, hfz33_5⟩ := bk6 BK682.out) | ((with_reducible refine gate_callee (f := 29) rfl ?_); refine goesL_ (some 25) rfl rfl Tryz.func29 (by kernel_rfl) rfl #[.agg #[.int .i64 a0_0, .int .i64 a0_1, .string a0_2, .string a0_3, .slice A0_4 l0_4.length c0_4, .string a0_5], .agg #[.int .i64 a1_0, .int .i64 a1_1, .string a1_2, .string a1_3, .slice A1_4 l1_4.length c1_4, .string a1_5]] rfl (by (try simp only [mT, mC, mN]); first | done | rfl) ?_; (with_reducible refine (Zbm.calls k a0_0 a0_1 a0_2 a0_3 _ _ l0_4 a0_5 a1_0 a1_1 a1_2 a1_3 _ _ l1_4 a1_5 t687 _ ?side1 ?side2 ?side3 ?side4 A28.out).mono ?_); (case side1 => exact vC (Kd.C_below HR0_4.out HB.out)); (case side2 => exact HC0_4.out); (case side3 => exact vC (Kd.C_below HR1_4.out HB.out)); (case side4 => exact HC1_4.out); rintro e w34 ⟨rfl, hb⟩; refine ⟨_, rfl, ?_⟩; replace BK681 := kb BK681.out hb; replace BK682 := kb BK682.out hb; replace HB := bs HB.out hb; (try clear hb)))
  go_ret
  exact ⟨by rfl, vb HB.out⟩
 rw [if_pos c3] at H
 have c3b0 : (a0_0 == 9) = true := beq_iff_eq.mpr c3
 have c3b1 : (a0_0 != 9) = false := bne_eq_false_iff_eq.mpr c3
 clear c3
 by_cases c4 : a1_0 = 9
 rotate_left
 ·rw [if_neg c4] at H
  have c4b0 : (a1_0 == 9) = false := beq_eq_false_iff_ne.mpr c4
  have c4b1 : (a1_0 != 9) = true := bne_iff_ne.mpr c4
  replace H := be H
  obtain ⟨t686, A210, H⟩ := H
  try dsimp only at H
  have A21 := am A210
  clear A210
  obtain rfl := Option.some.inj H
  go_enter Tryz.func15, Tryz.ntmps15
  go_wp2_with (first | ((with_reducible refine gate_dst (N := 2) rfl ?_); refine box_event ?hg (N := 2) ?hd (cs := #[.int .i64 a0_0, .int .i64 a0_1, .string a0_2, .string a0_3, .slice A0_4 l0_4.length c0_4, .string a0_5]) (t := 34) ?hr ?_; (case hd => rfl); (case hg => rfl); (case hr => go_simp <;> rfl); intro gb681 hg w22 hbox hb; have BK681 := am hbox; have GW681 := gef hg HB.out; have GE681 := gef hg HB.out; replace HB := bs HB.out hb; clear hb hbox hg) | ((with_reducible refine gate_dst (N := 3) rfl ?_); refine box_event ?hg (N := 3) ?hd (cs := #[.int .i64 a1_0, .int .i64 a1_1, .string a1_2, .string a1_3, .slice A1_4 l1_4.length c1_4, .string a1_5]) (t := 34) ?hr ?_; (case hd => rfl); (case hg => rfl); (case hr => go_simp <;> rfl); intro gb682 hg w23 hbox hb; have BK682 := am hbox; have GW682 := gef hg HB.out; have GE682 := gef hg HB.out; replace HB := bs HB.out hb; have NB681_682 := nl hg BK681.out; have NB682_681 := ng hg BK681.out; replace BK681 := kb BK681.out hb; clear hb hbox hg; have hnb24 := NB681_682.out; have hnc24 := NB682_681.out; have hcz25_0 : w23.cell? ⟨gb681, 0, none⟩ = some (.int .i64 a0_0) := (blk_cell BK681.out 0).trans rfl; have hcz25_1 : w23.cell? ⟨gb681, 1, none⟩ = some (.int .i64 a0_1) := (blk_cell BK681.out 1).trans rfl; have hcz25_2 : w23.cell? ⟨gb681, 2, none⟩ = some (.string a0_2) := (blk_cell BK681.out 2).trans rfl; have hcz25_3 : w23.cell? ⟨gb681, 3, none⟩ = some (.string a0_3) := (blk_cell BK681.out 3).trans rfl; have hcz25_4 : w23.cell? ⟨gb681, 4, none⟩ = some (.slice A0_4 l0_4.length c0_4) := (blk_cell BK681.out 4).trans rfl; have hcz25_5 : w23.cell? ⟨gb681, 5, none⟩ = some (.string a0_5) := (blk_cell BK681.out 5).trans rfl; have hfz25_0 := blk_frozen BK681.out 0; have hfz25_1 := blk_frozen BK681.out 1; have hfz25_2 := blk_frozen BK681.out 2; have hfz25_3 := blk_frozen BK681.out 3; have hfz25_4 := blk_frozen BK681.out 4; have hfz25_5 := blk_frozen BK681.out 5; obtain ⟨hcz26_0, hcz26_1, hcz26_2, hcz26_3, hcz26_4, hcz26_5, hfz26_0, hfz26_1, hfz26_2, hfz26_3, hfz26_4, hfz26_5⟩ := bk6 BK682.out) | ((with_reducible refine gate_callee (f := 29) rfl ?_); refine goesL_ (some 25) rfl rfl Tryz.func29 (by kernel_rfl) rfl #[.agg #[.int .i64 a0_0, .int .i64 a0_1, .string a0_2, .string a0_3, .slice A0_4 l0_4.length c0_4, .string a0_5], .agg #[.int .i64 a1_0, .int .i64 a1_1, .string a1_2, .string a1_3, .slice A1_4 l1_4.length c1_4, .string a1_5]] rfl (by (try simp only [mT, mC, mN]); first | done | rfl) ?_; (with_reducible refine (Zbm.calls k a0_0 a0_1 a0_2 a0_3 _ _ l0_4 a0_5 a1_0 a1_1 a1_2 a1_3 _ _ l1_4 a1_5 t686 _ ?side1 ?side2 ?side3 ?side4 A21.out).mono ?_); (case side1 => exact vC (Kd.C_below HR0_4.out HB.out)); (case side2 => exact HC0_4.out); (case side3 => exact vC (Kd.C_below HR1_4.out HB.out)); (case side4 => exact HC1_4.out); rintro e w27 ⟨rfl, hb⟩; refine ⟨_, rfl, ?_⟩; replace BK681 := kb BK681.out hb; replace BK682 := kb BK682.out hb; replace HB := bs HB.out hb; (try clear hb)))
  go_ret
  exact ⟨by rfl, vb HB.out⟩
 rw [if_pos c4] at H
 have c4b0 : (a1_0 == 9) = true := beq_iff_eq.mpr c4
 have c4b1 : (a1_0 != 9) = false := bne_eq_false_iff_eq.mpr c4
 clear c4
 replace H := be H
 obtain ⟨t683, A50, H⟩ := H
 try dsimp only at H
 have A5 := am A50
 clear A50
 by_cases c6 : t683 = true
 ·subst c6
  rw [if_pos rfl] at H
  replace H := be H
  obtain ⟨t684, A70, H⟩ := H
  try dsimp only at H
  have A7 := am A70
  clear A70
  obtain rfl := Option.some.inj H
  go_enter Tryz.func15, Tryz.ntmps15
  go_wp2_with (first | ((with_reducible refine gate_dst (N := 2) rfl ?_); refine box_event ?hg (N := 2) ?hd (cs := #[.int .i64 a0_0, .int .i64 a0_1, .string a0_2, .string a0_3, .slice A0_4 l0_4.length c0_4, .string a0_5]) (t := 34) ?hr ?_; (case hd => rfl); (case hg => rfl); (case hr => go_simp <;> rfl); intro gb681 hg w8 hbox hb; have BK681 := am hbox; have GW681 := gef hg HB.out; have GE681 := gef hg HB.out; replace HB := bs HB.out hb; clear hb hbox hg) | ((with_reducible refine gate_dst (N := 3) rfl ?_); refine box_event ?hg (N := 3) ?hd (cs := #[.int .i64 a1_0, .int .i64 a1_1, .string a1_2, .string a1_3, .slice A1_4 l1_4.length c1_4, .string a1_5]) (t := 34) ?hr ?_; (case hd => rfl); (case hg => rfl); (case hr => go_simp <;> rfl); intro gb682 hg w9 hbox hb; have BK682 := am hbox; have GW682 := gef hg HB.out; have GE682 := gef hg HB.out; replace HB := bs HB.out hb; have NB681_682 := nl hg BK681.out; have NB682_681 := ng hg BK681.out; replace BK681 := kb BK681.out hb; clear hb hbox hg; have hnb10 := NB681_682.out; have hnc10 := NB682_681.out; have hcz11_0 : w9.cell? ⟨gb681, 0, none⟩ = some (.int .i64 a0_0) := (blk_cell BK681.out 0).trans rfl; have hcz11_1 : w9.cell? ⟨gb681, 1, none⟩ = some (.int .i64 a0_1) := (blk_cell BK681.out 1).trans rfl; have hcz11_2 : w9.cell? ⟨gb681, 2, none⟩ = some (.string a0_2) := (blk_cell BK681.out 2).trans rfl; have hcz11_3 : w9.cell? ⟨gb681, 3, none⟩ = some (.string a0_3) := (blk_cell BK681.out 3).trans rfl; have hcz11_4 : w9.cell? ⟨gb681, 4, none⟩ = some (.slice A0_4 l0_4.length c0_4) := (blk_cell BK681.out 4).trans rfl; have hcz11_5 : w9.cell? ⟨gb681, 5, none⟩ = some (.string a0_5) := (blk_cell BK681.out 5).trans rfl; have hfz11_0 := blk_frozen BK681.out 0; have hfz11_1 := blk_frozen BK681.out 1; have hfz11_2 := blk_frozen BK681.out 2; have hfz11_3 := blk_frozen BK681.out 3; have hfz11_4 := blk_frozen BK681.out 4; have hfz11_5 := blk_frozen BK681.out 5; obtain ⟨hcz12_0, hcz12_1, hcz12_2, hcz12_3, hcz12_4, hcz12_5, hfz12_0, hfz12_1, hfz12_2, hfz12_3, hfz12_4, hfz12_5⟩ := bk6 BK682.out) | (go_at_call 35; (with_reducible refine (Zap.calls k _ _ l0_4 _ _ l1_4 true _ ?side1 ?side2 ?side3 ?side4 A5.out).mono ?_); (case side1 => exact vC (Kd.C_below HR0_4.out HB.out)); (case side2 => exact HC0_4.out); (case side3 => exact vC (Kd.C_below HR1_4.out HB.out)); (case side4 => exact HC1_4.out); rintro e w' ⟨rfl, ⟨nd, rfl⟩⟩; (try (rw [drewN_self w9]; generalize hq_ : World.drewN w9 _ = w9; have n0_ : Aside0 (w9.heap[gb681]? = some (.cells #[.int .i64 a0_0, .int .i64 a0_1, .string a0_2, .string a0_3, .slice A0_4 l0_4.length c0_4, .string a0_5] 34 (0, 0))) := ⟨by rw [← hq_]; exact (vk BK681.out)⟩; have n1_ : Aside0 (w9.heap[gb682]? = some (.cells #[.int .i64 a1_0, .int .i64 a1_1, .string a1_2, .string a1_3, .slice A1_4 l1_4.length c1_4, .string a1_5] 34 (0, 0))) := ⟨by rw [← hq_]; exact (vk BK682.out)⟩; have n2_ : Aside0 (Below w.heap.size w w9) := ⟨by rw [← hq_]; exact (vb HB.out)⟩; clear BK681 BK682 HB hq_; have BK681 := n0_; have BK682 := n1_; have HB := n2_; clear n0_ n1_ n2_; have hczqgb681_0 : w9.cell? ⟨gb681, 0, none⟩ = some (.int .i64 a0_0) := (blk_cell BK681.out 0).trans rfl; have hfzqgb681_0 := blk_frozen BK681.out 0; have hczqgb681_1 : w9.cell? ⟨gb681, 1, none⟩ = some (.int .i64 a0_1) := (blk_cell BK681.out 1).trans rfl; have hfzqgb681_1 := blk_frozen BK681.out 1; have hczqgb681_2 : w9.cell? ⟨gb681, 2, none⟩ = some (.string a0_2) := (blk_cell BK681.out 2).trans rfl; have hfzqgb681_2 := blk_frozen BK681.out 2; have hczqgb681_3 : w9.cell? ⟨gb681, 3, none⟩ = some (.string a0_3) := (blk_cell BK681.out 3).trans rfl; have hfzqgb681_3 := blk_frozen BK681.out 3; have hczqgb681_4 : w9.cell? ⟨gb681, 4, none⟩ = some (.slice A0_4 l0_4.length c0_4) := (blk_cell BK681.out 4).trans rfl; have hfzqgb681_4 := blk_frozen BK681.out 4; have hczqgb681_5 : w9.cell? ⟨gb681, 5, none⟩ = some (.string a0_5) := (blk_cell BK681.out 5).trans rfl; have hfzqgb681_5 := blk_frozen BK681.out 5; have hczqgb682_0 : w9.cell? ⟨gb682, 0, none⟩ = some (.int .i64 a1_0) := (blk_cell HB.out 0).trans rfl; have hfzqgb682_0 := blk_frozen HB.out 0; have hczqgb682_1 : w9.cell? ⟨gb682, 1, none⟩ = some (.int .i64 a1_1) := (blk_cell HB.out 1).trans rfl; have hfzqgb682_1 := blk_frozen HB.out 1; have hczqgb682_2 : w9.cell? ⟨gb682, 2, none⟩ = some (.string a1_2) := (blk_cell HB.out 2).trans rfl; have hfzqgb682_2 := blk_frozen HB.out 2; have hczqgb682_3 : w9.cell? ⟨gb682, 3, none⟩ = some (.string a1_3) := (blk_cell HB.out 3).trans rfl; have hfzqgb682_3 := blk_frozen HB.out 3; have hczqgb682_4 : w9.cell? ⟨gb682, 4, none⟩ = some (.slice A1_4 l1_4.length c1_4) := (blk_cell HB.out 4).trans rfl; have hfzqgb682_4 := blk_frozen HB.out 4; have hczqgb682_5 : w9.cell? ⟨gb682, 5, none⟩ = some (.string a1_5) := (blk_cell HB.out 5).trans rfl; have hfzqgb682_5 := blk_frozen HB.out 5))) | ((with_reducible refine gate_callee (f := 29) rfl ?_); refine goesL_ (some 25) rfl rfl Tryz.func29 (by kernel_rfl) rfl #[.agg #[.int .i64 a0_0, .int .i64 a0_1, .string a0_2, .string a0_3, .slice A1_4 l1_4.length c1_4, .string a0_5], .agg #[.int .i64 a1_0, .int .i64 a1_1, .string a1_2, .string a1_3, .slice A1_4 l1_4.length c1_4, .string a1_5]] rfl (by (try simp only [mT, mC, mN]); first | done | rfl) ?_; (with_reducible refine (Zbm.calls k a0_0 a0_1 a0_2 a0_3 _ _ l1_4 a0_5 a1_0 a1_1 a1_2 a1_3 _ _ l1_4 a1_5 t684 _ ?side1 ?side2 ?side3 ?side4 A7.out).mono ?_); (case side1 => exact Kd.C_below HR1_4.out (vb HB.out)); (case side2 => exact HC1_4.out); (case side3 => exact Kd.C_below HR1_4.out (vb HB.out)); (case side4 => exact HC1_4.out); rintro e w13 ⟨rfl, hb⟩; refine ⟨_, rfl, ?_⟩; replace BK681 := am (blk_below (g := gb681) (o := .cells #[.int .i64 a0_0, .int .i64 a0_1, .string a0_2, .string a0_3, .slice A1_4 l1_4.length c1_4, .string a0_5] 34 (0, 0)) (by exact (vt (bp (vt BK681.out) 4)).trans rfl) hb); replace BK682 := am (blk_below (g := gb682) (o := .cells #[.int .i64 a1_0, .int .i64 a1_1, .string a1_2, .string a1_3, .slice A1_4 l1_4.length c1_4, .string a1_5] 34 (0, 0)) (by exact vt (bf (vt BK682.out) NB682_681.out)) hb); replace HB := bs HB.out hb; (try clear hb)))
  go_ret
  exact ⟨by rfl, vb HB.out⟩
 replace c6 := Bool.eq_false_iff.mpr c6
 subst c6
 rw [if_neg (show ¬ (false = true) by decide)] at H
 replace H := be H
 obtain ⟨t685, A140, H⟩ := H
 try dsimp only at H
 have A14 := am A140
 clear A140
 obtain rfl := Option.some.inj H
 go_enter Tryz.func15, Tryz.ntmps15
 go_wp2_with (first | ((with_reducible refine gate_dst (N := 2) rfl ?_); refine box_event ?hg (N := 2) ?hd (cs := #[.int .i64 a0_0, .int .i64 a0_1, .string a0_2, .string a0_3, .slice A0_4 l0_4.length c0_4, .string a0_5]) (t := 34) ?hr ?_; (case hd => rfl); (case hg => rfl); (case hr => go_simp <;> rfl); intro gb681 hg w15 hbox hb; have BK681 := am hbox; have GW681 := gef hg HB.out; have GE681 := gef hg HB.out; replace HB := bs HB.out hb; clear hb hbox hg) | ((with_reducible refine gate_dst (N := 3) rfl ?_); refine box_event ?hg (N := 3) ?hd (cs := #[.int .i64 a1_0, .int .i64 a1_1, .string a1_2, .string a1_3, .slice A1_4 l1_4.length c1_4, .string a1_5]) (t := 34) ?hr ?_; (case hd => rfl); (case hg => rfl); (case hr => go_simp <;> rfl); intro gb682 hg w16 hbox hb; have BK682 := am hbox; have GW682 := gef hg HB.out; have GE682 := gef hg HB.out; replace HB := bs HB.out hb; have NB681_682 := nl hg BK681.out; have NB682_681 := ng hg BK681.out; replace BK681 := kb BK681.out hb; clear hb hbox hg; have hnb17 := NB681_682.out; have hnc17 := NB682_681.out; have hcz18_0 : w16.cell? ⟨gb681, 0, none⟩ = some (.int .i64 a0_0) := (blk_cell BK681.out 0).trans rfl; have hcz18_1 : w16.cell? ⟨gb681, 1, none⟩ = some (.int .i64 a0_1) := (blk_cell BK681.out 1).trans rfl; have hcz18_2 : w16.cell? ⟨gb681, 2, none⟩ = some (.string a0_2) := (blk_cell BK681.out 2).trans rfl; have hcz18_3 : w16.cell? ⟨gb681, 3, none⟩ = some (.string a0_3) := (blk_cell BK681.out 3).trans rfl; have hcz18_4 : w16.cell? ⟨gb681, 4, none⟩ = some (.slice A0_4 l0_4.length c0_4) := (blk_cell BK681.out 4).trans rfl; have hcz18_5 : w16.cell? ⟨gb681, 5, none⟩ = some (.string a0_5) := (blk_cell BK681.out 5).trans rfl; have hfz18_0 := blk_frozen BK681.out 0; have hfz18_1 := blk_frozen BK681.out 1; have hfz18_2 := blk_frozen BK681.out 2; have hfz18_3 := blk_frozen BK681.out 3; have hfz18_4 := blk_frozen BK681.out 4; have hfz18_5 := blk_frozen BK681.out 5; obtain ⟨hcz19_0, hcz19_1, hcz19_2, hcz19_3, hcz19_4, hcz19_5, hfz19_0, hfz19_1, hfz19_2, hfz19_3, hfz19_4, hfz19_5⟩ := bk6 BK682.out) | (go_at_call 35; (with_reducible refine (Zap.calls k _ _ l0_4 _ _ l1_4 false _ ?side1 ?side2 ?side3 ?side4 A5.out).mono ?_); (case side1 => exact vC (Kd.C_below HR0_4.out HB.out)); (case side2 => exact HC0_4.out); (case side3 => exact vC (Kd.C_below HR1_4.out HB.out)); (case side4 => exact HC1_4.out); rintro e w' ⟨rfl, ⟨nd, rfl⟩⟩) | ((with_reducible refine gate_callee (f := 29) rfl ?_); refine goesL_ (some 25) rfl rfl Tryz.func29 (by kernel_rfl) rfl #[.agg #[.int .i64 a0_0, .int .i64 a0_1, .string a0_2, .string a0_3, .slice A0_4 l0_4.length c0_4, .string a0_5], .agg #[.int .i64 a1_0, .int .i64 a1_1, .string a1_2, .string a1_3, .slice A1_4 l1_4.length c1_4, .string a1_5]] rfl (by (try simp only [mT, mC, mN]); first | done | rfl) ?_; (with_reducible refine (Zbm.calls k a0_0 a0_1 a0_2 a0_3 _ _ l0_4 a0_5 a1_0 a1_1 a1_2 a1_3 _ _ l1_4 a1_5 t685 _ ?side1 ?side2 ?side3 ?side4 A14.out).mono ?_); (case side1 => repeat (first | exact (Kd.C_below HR0_4.out (vb HB.out)) | (with_reducible refine Kd.C_alloc ?_ _) | (with_reducible refine Kd.C_drewN ?_ _) | (with_reducible refine Kd.C_drew ?_))); (case side2 => exact HC0_4.out); (case side3 => repeat (first | exact (Kd.C_below HR1_4.out (vb HB.out)) | (with_reducible refine Kd.C_alloc ?_ _) | (with_reducible refine Kd.C_drewN ?_ _) | (with_reducible refine Kd.C_drew ?_))); (case side4 => exact HC1_4.out); rintro e w20 ⟨rfl, hb⟩; refine ⟨_, rfl, ?_⟩; replace BK681 := kb BK681.out hb; replace BK682 := kb BK682.out hb; replace HB := bs HB.out hb; (try clear hb)))
 go_ret
 exact ⟨by rfl, vb HB.out⟩
end Go.Proofs.YtjgifmakhnkmdaaGreatDoor.XRep
