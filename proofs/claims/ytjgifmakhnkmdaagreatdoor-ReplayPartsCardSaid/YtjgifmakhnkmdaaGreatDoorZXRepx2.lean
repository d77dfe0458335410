import Derived.Test.YtjgifmakhnkmdaaGreatDoorZXRepx0
import Derived.Test.YtjgifmakhnkmdaaGreatDoorZCmp
namespace Go.Proofs.YtjgifmakhnkmdaaGreatDoor.XRep
set_option maxHeartbeats 8000000
set_option maxRecDepth 100000
open Go.RowKit Go.Proofs.YtjgifmakhnkmdaaGreatDoorW.PrintWords Go.Proofs.YtjgifmakhnkmdaaGreatDoorW.PrintLast Go.Proofs.YtjgifmakhnkmdaaGreatDoorW.PrintMore Go.Proofs.YtjgifmakhnkmdaaGreatDoor.Cmp
set_option linter.unusedVariables false
set_option linter.unusedSimpArgs false
def Zac.f (a0 : ByteArray) : Option (ByteArray × Int × Int) := some (a0, 0, 0)
theorem Zac.calls (a0 : ByteArray) (r1 : ByteArray) (r2 : Int) (r3 : Int) (w : World) (h : Zac.f a0 = some (r1, r2, r3)) :
  Calls Tryz.prog 113 #[.string a0] w fun e w' => e = .returned (.agg #[.string r1, .int .i64 r2, .int .i64 r3]) ∧ Below w.heap.size w w' := by
 have hu153 := Tryz.underlying153
 have HB := am (Below.refl w.heap.size w)
 have H : (some (a0, 0, 0)) = some (r1, r2, r3) := h
 clear h
 simp only [Option.some.injEq, Prod.mk.injEq] at H
 obtain ⟨rfl, rfl, rfl⟩ := H
 go_enter Tryz.func113, Tryz.ntmps113
 go_wp2_with (first | ((with_reducible refine gate_dst (N := 2) rfl ?_); refine box_event ?hg (N := 2) ?hd (cs := #[.string (⟨#[]⟩ : ByteArray), .int .i64 0, .int .i64 0]) (t := 153) ?hr ?_; (case hd => rfl); (case hg => rfl); (case hr => go_simp <;> rfl); intro gb101 hg w2 hbox hb; have BK101 := am hbox; have GW101 := gef hg HB.out; have GE101 := gef hg HB.out; replace HB := bs HB.out hb; clear hb hbox hg; obtain ⟨hcz3_0, hcz3_1, hcz3_2, hfz3_0, hfz3_1, hfz3_2⟩ := bk3 BK101.out))
 refine bodyPost_ret (results_cell_row rfl _ _ gb101 153 #[.string a0, .int .i64 0, .int .i64 0] (0, 0) _ rfl (by exact (vt (bp (vt (bp (vt (bp (vt BK101.out) 0)) 1)) 2)).trans rfl) Tryz.underlying153 rfl (by kernel_rfl)) rfl ?_
 exact ⟨by rfl, vb HB.out⟩
mutual
def Zar.l0 : Nat → ByteArray → Int → Int → Int → Int → Option (Int × Int × Int)
 | 0, _, _, _, _, _ => none
 | k + 1, x0, x1, x7, x8, x9 => if x9 < 10 then (if (wrap64 (x1 + x9)) ≥ (x0.size : Int) then (some (0, x1, 3)) else (if 0 ≤ (wrap64 (x1 + x9)) then (if (wrap64 (x1 + x9)) < (x0.size : Int) then (if x9 = 9 then (Zar.j1 k x0 x1 x7 x8 x9 (IntKind.u64.wrap (bt x0 (wrap64 (x1 + x9)))) (decide ((IntKind.u64.wrap (bt x0 (wrap64 (x1 + x9)))) > 1))) else (Zar.j1 k x0 x1 x7 x8 x9 (IntKind.u64.wrap (bt x0 (wrap64 (x1 + x9)))) false)) else (none)) else (none))) else (some (0, x1, 5))
def Zar.j1 : Nat → ByteArray → Int → Int → Int → Int → Int → Bool → Option (Int × Int × Int)
 | 0, _, _, _, _, _, _, _ => none
 | k + 1, x0, x1, x7, x8, x9, x10, x33 => if x33 = true then (some (0, x1, 5)) else (if x10 < 128 then (if x10 = 0 then (if x9 > 0 then (some (0, x1, 5)) else (some (IntKind.u64.wrap (x7 + (IntKind.u64.wrap ((Int.tmod x10 128) * x8))), wrap64 ((wrap64 (x1 + x9)) + 1), 0))) else (some (IntKind.u64.wrap (x7 + (IntKind.u64.wrap ((Int.tmod x10 128) * x8))), wrap64 ((wrap64 (x1 + x9)) + 1), 0))) else (Zar.l0 k x0 x1 (IntKind.u64.wrap (x7 + (IntKind.u64.wrap ((Int.tmod x10 128) * x8)))) (IntKind.u64.wrap (x8 * 128)) (wrap64 (x9 + 1))))
end
def Zar.f (k : Nat) (a0 : ByteArray) (a1 : Int) : Option (Int × Int × Int) := Zar.l0 k a0 a1 0 1 0
theorem Zar.calls (k : Nat) (a0 : ByteArray) (a1 : Int) (r1 : Int) (r2 : Int) (r3 : Int) (w : World) (h : Zar.f k a0 a1 = some (r1, r2, r3)) :
  Calls Tryz.prog 127 #[.string a0, .int .i64 a1] w fun e w' => e = .returned (.tuple #[.int .u64 r1, .int .i64 r2, .int .i64 r3]) ∧ Drawn0 w w' := by
 have H : (Zar.l0 k a0 a1 0 1 0) = some (r1, r2, r3) := h
 clear h
 have H' := am H
 clear H
 go_enter Tryz.func127, Tryz.ntmps127
 go_wp2
 go_loopg [7, 8, 9] k (fun kq v7 v8 v9 w' => ∃ (x7_1 : Int) (x8_1 : Int) (x9_1 : Int), v7 = .int .u64 x7_1 ∧ v8 = .int .u64 x8_1 ∧ v9 = .int .i64 x9_1 ∧ Aside0 (Zar.l0 kq a0 a1 x7_1 x8_1 x9_1 = some (r1, r2, r3)) ∧ Aside0 (kq ≤ k) ∧ Drawn0 w w')
 case atStart => exact ⟨(0), (1), (0), (by first | rfl | (simp; done) | simp [*]), (by first | rfl | (simp; done) | simp [*]), (by first | rfl | (simp; done) | simp [*]), H', ⟨Nat.le_refl _⟩, by repeat (first | exact Drawn0.refl _ | apply Drawn0.step)⟩
 case round =>
  clear H'
  (try clear c1); (try clear p2)
  obtain ⟨x7_1, x8_1, x9_1, rfl, rfl, rfl, HA, HK1, ⟨m1, rfl⟩⟩ := hrel
  cases gk with
  | zero => exact absurd HA.out (by simp [Zar.l0])
  | succ k1 =>
   have H := HA.out
   clear HA
   simp only [Zar.l0] at H
   by_cases c3 : x9_1 < 10
   rotate_left
   ·rw [if_neg c3] at H
    have c3b0 : decide (x9_1 < 10) = false := df c3
    clear c3
    simp only [Option.some.injEq, Prod.mk.injEq] at H
    obtain ⟨rfl, rfl, rfl⟩ := H
    go_wp2
    go_ret3
    exact ⟨by first | rfl | (simp; done) | (simp [*]; done), by repeat (first | exact Drawn0.refl _ | apply Drawn0.step)⟩
   rw [if_pos c3] at H
   have c3b0 : decide (x9_1 < 10) = true := de c3
   clear c3
   by_cases c4 : (wrap64 (a1 + x9_1)) ≥ (a0.size : Int)
   ·rw [if_pos c4] at H
    have c4b0 : decide ((a0.size : Int) ≤ (wrap64 (a1 + x9_1))) = true := de c4
    clear c4
    simp only [Option.some.injEq, Prod.mk.injEq] at H
    obtain ⟨rfl, rfl, rfl⟩ := H
    go_wp2
    go_ret3
    exact ⟨by first | rfl | (simp; done) | (simp [*]; done), by repeat (first | exact Drawn0.refl _ | apply Drawn0.step)⟩
   rw [if_neg c4] at H
   have c4b0 : decide ((a0.size : Int) ≤ (wrap64 (a1 + x9_1))) = false := df c4
   clear c4
   obtain ⟨ji5, hji5⟩ : ∃ j_ : Int, (wrap64 (a1 + x9_1)) = j_ := ⟨_, rfl⟩
   replace H : (if 0 ≤ (ji5) then (if (ji5) < (a0.size : Int) then (if x9_1 = 9 then (Zar.j1 k1 a0 a1 x7_1 x8_1 x9_1 (IntKind.u64.wrap (bt a0 (ji5))) (decide ((IntKind.u64.wrap (bt a0 (ji5))) > 1))) else (Zar.j1 k1 a0 a1 x7_1 x8_1 x9_1 (IntKind.u64.wrap (bt a0 (ji5))) false)) else (none)) else (none)) = some (r1, r2, r3) := by first | (rw [hji5] at H; exact H) | (simp only [hji5] at H ⊢; exact H)
   (try rw [hji5] at c4b0)
   have hji5w : (IntKind.i64.wrap (a1 + x9_1)) = ji5 := (i64_w _).trans hji5
   by_cases c6 : 0 ≤ (ji5)
   rotate_left
   ·rw [if_neg c6] at H
    exact absurd H (by simp)
   rw [if_pos c6] at H
   have c6b0 : decide (0 ≤ (ji5)) = true := de c6
   clear c6
   by_cases c7 : (ji5) < (a0.size : Int)
   rotate_left
   ·rw [if_neg c7] at H
    exact absurd H (by simp)
   rw [if_pos c7] at H
   have c7b0 : decide ((ji5) < (a0.size : Int)) = true := de c7
   clear c7
   have HC9 := am H
   clear H
   have p8 : 0 ≤ ((ji5) : Int) := od (by with_reducible assumption)
   have q8 : (ji5) < (a0.size : Int) := od (by with_reducible assumption)
   have hx8 := bt_at a0 (ji5)
   replace p8 := eq_true p8
   replace q8 := eq_true q8
   go_upto_region 8 with (fail)
   go_cut [33] (fun v33 wc => ∃ (kq : Nat) (x33_8 : Bool), v33 = .bool x33_8 ∧ Aside0 (Zar.j1 kq a0 a1 x7_1 x8_1 x9_1 (IntKind.u64.wrap (bt a0 (ji5))) x33_8 = some (r1, r2, r3)) ∧ Aside0 (kq ≤ k1) ∧ Drawn0 w wc)
   case first =>
    have H := HC9.out
    clear HC9
    by_cases c10 : x9_1 = 9
    rotate_left
    ·rw [if_neg c10] at H
     have c10b0 : (x9_1 == 9) = false := beq_eq_false_iff_ne.mpr c10
     have c10b1 : (x9_1 != 9) = true := bne_iff_ne.mpr c10
     (first | rw [c10b0] | (simp only [i64_w]; rw [c10b0]) | skip)
     have H' := am H
     clear H
     go_wp2
     go_meet
     case rel => exact ⟨_, (false), (by first | rfl | (simp; done) | simp [*]), H', ⟨by have := HK1.out; first | omega | exact Nat.le_refl _⟩, by repeat (first | exact Drawn0.refl _ | apply Drawn0.step)⟩
    rw [if_pos c10] at H
    have c10b0 : (x9_1 == 9) = true := beq_iff_eq.mpr c10
    have c10b1 : (x9_1 != 9) = false := bne_eq_false_iff_eq.mpr c10
    clear c10
    (first | rw [c10b0] | (simp only [i64_w]; rw [c10b0]) | skip)
    have H' := am H
    clear H
    go_wp2
    go_meet
    case rel => exact ⟨_, (decide ((IntKind.u64.wrap (bt a0 (ji5))) > 1)), (by first | rfl | (simp; done) | (simp only [← hji5] <;> (first | rfl | simp)) | (simp [*]; done)), H', ⟨by have := HK1.out; first | omega | exact Nat.le_refl _⟩, by repeat (first | exact Drawn0.refl _ | apply Drawn0.step)⟩
   case rest =>
    clear HC9
    (try clear c1); (try clear p2); (try clear c3); (try clear c3b0); (try clear c4); (try clear c4b0); (try clear c6); (try clear c6b0); (try clear p6); (try clear c7); (try clear c7b0); (try clear p8); (try clear q8); (try clear hx8); (try clear c10); (try clear c10b0); (try clear c10b1); (try clear p2); (try clear p8); (try clear q8)
    obtain ⟨kq, x33_8, rfl, HA, HJ8, ⟨mc8, rfl⟩⟩ := hcut
    cases kq with
    | zero => exact absurd HA.out (by simp [Zar.j1])
    | succ kj8 =>
     have H := HA.out
     clear HA
     simp only [Zar.j1] at H
     by_cases c11 : x33_8 = true
     ·subst c11
      rw [if_pos rfl] at H
      simp only [Option.some.injEq, Prod.mk.injEq] at H
      obtain ⟨rfl, rfl, rfl⟩ := H
      go_wp2
      go_ret3
      exact ⟨by first | rfl | (simp; done) | (simp only [← hji5] <;> (first | rfl | simp)) | (simp [*]; done), by repeat (first | exact Drawn0.refl _ | apply Drawn0.step)⟩
     replace c11 := Bool.eq_false_iff.mpr c11
     subst c11
     rw [if_neg (show ¬ (false = true) by decide)] at H
     by_cases c12 : (IntKind.u64.wrap (bt a0 (ji5))) < 128
     rotate_left
     ·rw [if_neg c12] at H
      have c12b0 : decide ((IntKind.u64.wrap (bt a0 (ji5))) < 128) = false := df c12
      clear c12
      have H' := am H
      clear H
      go_wp2
      go_roundg kj8
      case measure => have := HK1.out; have := HJ8.out; omega
      case rel => exact ⟨(IntKind.u64.wrap (x7_1 + (IntKind.u64.wrap ((Int.tmod (IntKind.u64.wrap (bt a0 (ji5))) 128) * x8_1)))), (IntKind.u64.wrap (x8_1 * 128)), (wrap64 (x9_1 + 1)), (by first | rfl | (simp; done) | (simp only [← hji5] <;> (first | rfl | simp)) | (simp [*]; done)), (by first | rfl | (simp; done) | simp [*]), (by first | rfl | (simp; done) | simp [*]), H', ⟨by have := HK1.out; have := HJ8.out; omega⟩, by repeat (first | exact Drawn0.refl _ | apply Drawn0.step)⟩
     rw [if_pos c12] at H
     have c12b0 : decide ((IntKind.u64.wrap (bt a0 (ji5))) < 128) = true := de c12
     clear c12
     by_cases c13 : (IntKind.u64.wrap (bt a0 (ji5))) = 0
     rotate_left
     ·rw [if_neg c13] at H
      have c13b0 : ((IntKind.u64.wrap (bt a0 (ji5))) == 0) = false := beq_eq_false_iff_ne.mpr c13
      have c13b1 : ((IntKind.u64.wrap (bt a0 (ji5))) != 0) = true := bne_iff_ne.mpr c13
      simp only [Option.some.injEq, Prod.mk.injEq] at H
      obtain ⟨rfl, rfl, rfl⟩ := H
      go_wp2
      go_ret3
      exact ⟨by first | rfl | (simp; done) | (simp only [← hji5] <;> (first | rfl | simp)) | (simp [*]; done), by repeat (first | exact Drawn0.refl _ | apply Drawn0.step)⟩
     rw [if_pos c13] at H
     have c13b0 : ((IntKind.u64.wrap (bt a0 (ji5))) == 0) = true := beq_iff_eq.mpr c13
     have c13b1 : ((IntKind.u64.wrap (bt a0 (ji5))) != 0) = false := bne_eq_false_iff_eq.mpr c13
     clear c13
     by_cases c14 : x9_1 > 0
     ·rw [if_pos c14] at H
      have c14b0 : decide (0 < x9_1) = true := de c14
      clear c14
      simp only [Option.some.injEq, Prod.mk.injEq] at H
      obtain ⟨rfl, rfl, rfl⟩ := H
      go_wp2
      go_ret3
      exact ⟨by first | rfl | (simp; done) | (simp only [← hji5] <;> (first | rfl | simp)) | (simp [*]; done), by repeat (first | exact Drawn0.refl _ | apply Drawn0.step)⟩
     rw [if_neg c14] at H
     have c14b0 : decide (0 < x9_1) = false := df c14
     clear c14
     simp only [Option.some.injEq, Prod.mk.injEq] at H
     obtain ⟨rfl, rfl, rfl⟩ := H
     go_wp2
     go_ret3
     exact ⟨by first | rfl | (simp; done) | (simp only [← hji5] <;> (first | rfl | simp)) | (simp [*]; done), by repeat (first | exact Drawn0.refl _ | apply Drawn0.step)⟩
def Zbk.f (a0_0 : ByteArray) (a0_1 : Int) (a0_2 : Int) (a1 : Int) : Option (ByteArray × Int × Int) := some (a0_0, a0_1, a1)
theorem Zbk.calls (a0_0 : ByteArray) (a0_1 : Int) (a0_2 : Int) (a1 : Int) (r1 : ByteArray) (r2 : Int) (r3 : Int) (w : World) (h : Zbk.f a0_0 a0_1 a0_2 a1 = some (r1, r2, r3)) :
  Calls Tryz.prog 128 #[.agg #[.string a0_0, .int .i64 a0_1, .int .i64 a0_2], .int .i64 a1] w fun e w' => e = .returned (.agg #[.string r1, .int .i64 r2, .int .i64 r3]) ∧ Below w.heap.size w w' := by
 have hu153 := Tryz.underlying153
 have HB := am (Below.refl w.heap.size w)
 have H : (some (a0_0, a0_1, a1)) = some (r1, r2, r3) := h
 clear h
 simp only [Option.some.injEq, Prod.mk.injEq] at H
 obtain ⟨rfl, rfl, rfl⟩ := H
 go_enter Tryz.func128, Tryz.ntmps128
 go_wp2_with (first | ((with_reducible refine gate_dst (N := 2) rfl ?_); refine box_event ?hg (N := 2) ?hd (cs := #[.string a0_0, .int .i64 a0_1, .int .i64 a0_2]) (t := 153) ?hr ?_; (case hd => rfl); (case hg => rfl); (case hr => go_simp <;> rfl); intro gb102 hg w3 hbox hb; have BK102 := am hbox; have GW102 := gef hg HB.out; have GE102 := gef hg HB.out; replace HB := bs HB.out hb; clear hb hbox hg) | ((with_reducible refine gate_dst (N := 4) rfl ?_); refine box_event ?hg (N := 4) ?hd (cs := #[.string (⟨#[]⟩ : ByteArray), .int .i64 0, .int .i64 0]) (t := 153) ?hr ?_; (case hd => rfl); (case hg => rfl); (case hr => go_simp <;> rfl); intro gb103 hg w4 hbox hb; have BK103 := am hbox; have GW103 := gef hg HB.out; have GE103 := gef hg HB.out; replace HB := bs HB.out hb; have NB102_103 := nl hg BK102.out; have NB103_102 := ng hg BK102.out; replace BK102 := kb BK102.out hb; clear hb hbox hg; have hnb5 := NB102_103.out; have hnc5 := NB103_102.out; have hcz6_0 : w4.cell? ⟨gb102, 0, none⟩ = some (.string a0_0) := (blk_cell BK102.out 0).trans rfl; have hcz6_1 : w4.cell? ⟨gb102, 1, none⟩ = some (.int .i64 a0_1) := (blk_cell BK102.out 1).trans rfl; have hcz6_2 : w4.cell? ⟨gb102, 2, none⟩ = some (.int .i64 a0_2) := (blk_cell BK102.out 2).trans rfl; have hfz6_0 := blk_frozen BK102.out 0; have hfz6_1 := blk_frozen BK102.out 1; have hfz6_2 := blk_frozen BK102.out 2; obtain ⟨hcz7_0, hcz7_1, hcz7_2, hfz7_0, hfz7_1, hfz7_2⟩ := bk3 BK103.out))
 refine bodyPost_ret (results_cell_row rfl _ _ gb103 153 #[.string a0_0, .int .i64 a0_1, .int .i64 a1] (0, 0) _ rfl (by exact (vt (bp (vt (bp (vt (bp (vt (bf (vt BK103.out) NB103_102.out)) 0)) 1)) 2)).trans rfl) Tryz.underlying153 rfl (by kernel_rfl)) rfl ?_
 exact ⟨by rfl, vb HB.out⟩
def Zas.f (k : Nat) (a0 : ByteArray) (a1 : Int) (a2 : Int) (a3 : Int) : Option (Int × Int × Int) := (Zar.f k a0 a1).bind fun bt104 => (if bt104.2.2 = 0 then (if (Int.tmod bt104.1 2) = 1 then (if (wrap64 ((wrap64 (-(wrap64 (IntKind.u64.wrap (Int.tdiv bt104.1 2))))) - 1)) < a2 then (some (0, a1, 9)) else (if (wrap64 ((wrap64 (-(wrap64 (IntKind.u64.wrap (Int.tdiv bt104.1 2))))) - 1)) > a3 then (some (0, a1, 9)) else (some (wrap64 ((wrap64 (-(wrap64 (IntKind.u64.wrap (Int.tdiv bt104.1 2))))) - 1), bt104.2.1, 0)))) else (if (wrap64 (IntKind.u64.wrap (Int.tdiv bt104.1 2))) < a2 then (some (0, a1, 9)) else (if (wrap64 (IntKind.u64.wrap (Int.tdiv bt104.1 2))) > a3 then (some (0, a1, 9)) else (some (wrap64 (IntKind.u64.wrap (Int.tdiv bt104.1 2)), bt104.2.1, 0))))) else (some (0, a1, bt104.2.2)))
theorem Zas.calls (k : Nat) (a0 : ByteArray) (a1 : Int) (a2 : Int) (a3 : Int) (r1 : Int) (r2 : Int) (r3 : Int) (w : World) (h : Zas.f k a0 a1 a2 a3 = some (r1, r2, r3)) :
  Calls Tryz.prog 129 #[.string a0, .int .i64 a1, .int .i64 a2, .int .i64 a3] w fun e w' => e = .returned (.tuple #[.int .i64 r1, .int .i64 r2, .int .i64 r3]) ∧ Drawn0 w w' := by
 have H : ((Zar.f k a0 a1).bind fun bt104 => (if bt104.2.2 = 0 then (if (Int.tmod bt104.1 2) = 1 then (if (wrap64 ((wrap64 (-(wrap64 (IntKind.u64.wrap (Int.tdiv bt104.1 2))))) - 1)) < a2 then (some (0, a1, 9)) else (if (wrap64 ((wrap64 (-(wrap64 (IntKind.u64.wrap (Int.tdiv bt104.1 2))))) - 1)) > a3 then (some (0, a1, 9)) else (some (wrap64 ((wrap64 (-(wrap64 (IntKind.u64.wrap (Int.tdiv bt104.1 2))))) - 1), bt104.2.1, 0)))) else (if (wrap64 (IntKind.u64.wrap (Int.tdiv bt104.1 2))) < a2 then (some (0, a1, 9)) else (if (wrap64 (IntKind.u64.wrap (Int.tdiv bt104.1 2))) > a3 then (some (0, a1, 9)) else (some (wrap64 (IntKind.u64.wrap (Int.tdiv bt104.1 2)), bt104.2.1, 0))))) else (some (0, a1, bt104.2.2)))) = some (r1, r2, r3) := h
 clear h
 replace H := be H
 obtain ⟨⟨t104, t105, t106⟩, A50, H⟩ := H
 try dsimp only at H
 have A5 := am A50
 clear A50
 by_cases c6 : t106 = 0
 rotate_left
 ·rw [if_neg c6] at H
  have c6b0 : (t106 == 0) = false := beq_eq_false_iff_ne.mpr c6
  have c6b1 : (t106 != 0) = true := bne_iff_ne.mpr c6
  simp only [Option.some.injEq, Prod.mk.injEq] at H
  obtain ⟨rfl, rfl, rfl⟩ := H
  go_enter Tryz.func129, Tryz.ntmps129
  go_wp2_with (first | ((with_reducible refine gate_callee (f := 127) rfl ?_); refine goesL_ (some 18) rfl rfl Tryz.func127 (by kernel_rfl) rfl #[.string a0, .int .i64 a1] rfl (by (try simp only [mT, mC, mN]); first | done | rfl) ?_; (with_reducible refine (Zar.calls k a0 a1 t104 t105 t106 _ A5.out).mono ?_); rintro e w' ⟨rfl, ⟨nd, rfl⟩⟩; refine ⟨_, rfl, ?_⟩))
  go_ret3
  exact ⟨by first | rfl | (simp; done) | (simp [*]; done), by repeat (first | exact Drawn0.refl _ | apply Drawn0.step)⟩
 rw [if_pos c6] at H
 have c6b0 : (t106 == 0) = true := beq_iff_eq.mpr c6
 have c6b1 : (t106 != 0) = false := bne_eq_false_iff_eq.mpr c6
 clear c6
 by_cases c7 : (Int.tmod t104 2) = 1
 rotate_left
 ·rw [if_neg c7] at H
  have c7b0 : ((Int.tmod t104 2) == 1) = false := beq_eq_false_iff_ne.mpr c7
  have c7b1 : ((Int.tmod t104 2) != 1) = true := bne_iff_ne.mpr c7
  by_cases c10 : (wrap64 (IntKind.u64.wrap (Int.tdiv t104 2))) < a2
  ·rw [if_pos c10] at H
   have c10b0 : decide ((wrap64 (IntKind.u64.wrap (Int.tdiv t104 2))) < a2) = true := de c10
   clear c10
   simp only [Option.some.injEq, Prod.mk.injEq] at H
   obtain ⟨rfl, rfl, rfl⟩ := H
   go_enter Tryz.func129, Tryz.ntmps129
   go_wp2_with (first | ((with_reducible refine gate_callee (f := 127) rfl ?_); refine goesL_ (some 18) rfl rfl Tryz.func127 (by kernel_rfl) rfl #[.string a0, .int .i64 a1] rfl (by (try simp only [mT, mC, mN]); first | done | rfl) ?_; (with_reducible refine (Zar.calls k a0 a1 t104 t105 t106 _ A5.out).mono ?_); rintro e w' ⟨rfl, ⟨nd, rfl⟩⟩; refine ⟨_, rfl, ?_⟩))
   go_ret3
   exact ⟨by first | rfl | (simp; done) | (simp [*]; done), by repeat (first | exact Drawn0.refl _ | apply Drawn0.step)⟩
  rw [if_neg c10] at H
  have c10b0 : decide ((wrap64 (IntKind.u64.wrap (Int.tdiv t104 2))) < a2) = false := df c10
  clear c10
  by_cases c11 : (wrap64 (IntKind.u64.wrap (Int.tdiv t104 2))) > a3
  ·rw [if_pos c11] at H
   have c11b0 : decide (a3 < (wrap64 (IntKind.u64.wrap (Int.tdiv t104 2)))) = true := de c11
   clear c11
   simp only [Option.some.injEq, Prod.mk.injEq] at H
   obtain ⟨rfl, rfl, rfl⟩ := H
   go_enter Tryz.func129, Tryz.ntmps129
   go_wp2_with (first | ((with_reducible refine gate_callee (f := 127) rfl ?_); refine goesL_ (some 18) rfl rfl Tryz.func127 (by kernel_rfl) rfl #[.string a0, .int .i64 a1] rfl (by (try simp only [mT, mC, mN]); first | done | rfl) ?_; (with_reducible refine (Zar.calls k a0 a1 t104 t105 t106 _ A5.out).mono ?_); rintro e w' ⟨rfl, ⟨nd, rfl⟩⟩; refine ⟨_, rfl, ?_⟩))
   go_ret3
   exact ⟨by first | rfl | (simp; done) | (simp [*]; done), by repeat (first | exact Drawn0.refl _ | apply Drawn0.step)⟩
  rw [if_neg c11] at H
  have c11b0 : decide (a3 < (wrap64 (IntKind.u64.wrap (Int.tdiv t104 2)))) = false := df c11
  clear c11
  simp only [Option.some.injEq, Prod.mk.injEq] at H
  obtain ⟨rfl, rfl, rfl⟩ := H
  go_enter Tryz.func129, Tryz.ntmps129
  go_wp2_with (first | ((with_reducible refine gate_callee (f := 127) rfl ?_); refine goesL_ (some 18) rfl rfl Tryz.func127 (by kernel_rfl) rfl #[.string a0, .int .i64 a1] rfl (by (try simp only [mT, mC, mN]); first | done | rfl) ?_; (with_reducible refine (Zar.calls k a0 a1 t104 t105 t106 _ A5.out).mono ?_); rintro e w' ⟨rfl, ⟨nd, rfl⟩⟩; refine ⟨_, rfl, ?_⟩))
  go_ret3
  exact ⟨by first | rfl | (simp; done) | (simp [*]; done), by repeat (first | exact Drawn0.refl _ | apply Drawn0.step)⟩
 rw [if_pos c7] at H
 have c7b0 : ((Int.tmod t104 2) == 1) = true := beq_iff_eq.mpr c7
 have c7b1 : ((Int.tmod t104 2) != 1) = false := bne_eq_false_iff_eq.mpr c7
 clear c7
 by_cases c8 : (wrap64 ((wrap64 (-(wrap64 (IntKind.u64.wrap (Int.tdiv t104 2))))) - 1)) < a2
 ·rw [if_pos c8] at H
  have c8b0 : decide ((wrap64 ((wrap64 (-(wrap64 (IntKind.u64.wrap (Int.tdiv t104 2))))) - 1)) < a2) = true := de c8
  clear c8
  simp only [Option.some.injEq, Prod.mk.injEq] at H
  obtain ⟨rfl, rfl, rfl⟩ := H
  go_enter Tryz.func129, Tryz.ntmps129
  go_wp2_with (first | ((with_reducible refine gate_callee (f := 127) rfl ?_); refine goesL_ (some 18) rfl rfl Tryz.func127 (by kernel_rfl) rfl #[.string a0, .int .i64 a1] rfl (by (try simp only [mT, mC, mN]); first | done | rfl) ?_; (with_reducible refine (Zar.calls k a0 a1 t104 t105 t106 _ A5.out).mono ?_); rintro e w' ⟨rfl, ⟨nd, rfl⟩⟩; refine ⟨_, rfl, ?_⟩))
  go_ret3
  exact ⟨by first | rfl | (simp; done) | (simp [*]; done), by repeat (first | exact Drawn0.refl _ | apply Drawn0.step)⟩
 rw [if_neg c8] at H
 have c8b0 : decide ((wrap64 ((wrap64 (-(wrap64 (IntKind.u64.wrap (Int.tdiv t104 2))))) - 1)) < a2) = false := df c8
 clear c8
 by_cases c9 : (wrap64 ((wrap64 (-(wrap64 (IntKind.u64.wrap (Int.tdiv t104 2))))) - 1)) > a3
 ·rw [if_pos c9] at H
  have c9b0 : decide (a3 < (wrap64 ((wrap64 (-(wrap64 (IntKind.u64.wrap (Int.tdiv t104 2))))) - 1))) = true := de c9
  clear c9
  simp only [Option.some.injEq, Prod.mk.injEq] at H
  obtain ⟨rfl, rfl, rfl⟩ := H
  go_enter Tryz.func129, Tryz.ntmps129
  go_wp2_with (first | ((with_reducible refine gate_callee (f := 127) rfl ?_); refine goesL_ (some 18) rfl rfl Tryz.func127 (by kernel_rfl) rfl #[.string a0, .int .i64 a1] rfl (by (try simp only [mT, mC, mN]); first | done | rfl) ?_; (with_reducible refine (Zar.calls k a0 a1 t104 t105 t106 _ A5.out).mono ?_); rintro e w' ⟨rfl, ⟨nd, rfl⟩⟩; refine ⟨_, rfl, ?_⟩))
  go_ret3
  exact ⟨by first | rfl | (simp; done) | (simp [*]; done), by repeat (first | exact Drawn0.refl _ | apply Drawn0.step)⟩
 rw [if_neg c9] at H
 have c9b0 : decide (a3 < (wrap64 ((wrap64 (-(wrap64 (IntKind.u64.wrap (Int.tdiv t104 2))))) - 1))) = false := df c9
 clear c9
 simp only [Option.some.injEq, Prod.mk.injEq] at H
 obtain ⟨rfl, rfl, rfl⟩ := H
 go_enter Tryz.func129, Tryz.ntmps129
 go_wp2_with (first | ((with_reducible refine gate_callee (f := 127) rfl ?_); refine goesL_ (some 18) rfl rfl Tryz.func127 (by kernel_rfl) rfl #[.string a0, .int .i64 a1] rfl (by (try simp only [mT, mC, mN]); first | done | rfl) ?_; (with_reducible refine (Zar.calls k a0 a1 t104 t105 t106 _ A5.out).mono ?_); rintro e w' ⟨rfl, ⟨nd, rfl⟩⟩; refine ⟨_, rfl, ?_⟩))
 go_ret3
 exact ⟨by first | rfl | (simp; done) | (simp [*]; done), by repeat (first | exact Drawn0.refl _ | apply Drawn0.step)⟩
mutual
def Zad.j0 : Nat → Int → Int → Int → Int → Bool → ByteArray → Int → Int → Option (ByteArray × Int × Int × List Int)
 | 0, _, _, _, _, _, _, _, _ => none
 | k + 1, x2, x3, x10, x11, x42, x108000, x108001, x108002 => if x42 = true then ((Zbk.f x108000 x108001 x108002 4).bind fun bt115 => (some (bt115.1, bt115.2.1, bt115.2.2, ([] : List Int)))) else (Zad.l0 k x2 x3 x10 x11 (([] : List Int)) x108000 x108001 x108002)
def Zad.l0 : Nat → Int → Int → Int → Int → List Int → ByteArray → Int → Int → Option (ByteArray × Int × Int × List Int)
 | 0, _, _, _, _, _, _, _, _ => none
 | k + 1, x2, x3, x10, x11, x13, x108000, x108001, x108002 => if (IntKind.u64.wrap ((x13.length : Int))) < x10 then ((Zas.f k x108000 x11 x2 x3).bind fun bt121 => (if bt121.2.2 = 0 then (if x13.length < 17592186044416 then (Zad.l0 k x2 x3 x10 bt121.2.1 (x13 ++ [bt121.1]) x108000 x108001 x108002) else (none)) else ((Zbk.f x108000 x108001 x108002 bt121.2.2).bind fun bt127 => (some (bt127.1, bt127.2.1, bt127.2.2, ([] : List Int)))))) else (some (x108000, x11, x108002, x13))
end
def Zad.f (k : Nat) (a0_0 : ByteArray) (a0_1 : Int) (a0_2 : Int) (a1 : Int) (a2 : Int) (a3 : Int) : Option (ByteArray × Int × Int × List Int) := if a0_2 = 0 then ((Zar.f k a0_0 a0_1).bind fun bt109 => (if bt109.2.2 = 0 then (if a1 < 0 then (Zad.j0 k a2 a3 bt109.1 bt109.2.1 true a0_0 a0_1 a0_2) else (Zad.j0 k a2 a3 bt109.1 bt109.2.1 (decide (bt109.1 > (IntKind.u64.wrap (a1)))) a0_0 a0_1 a0_2)) else ((Zbk.f a0_0 a0_1 a0_2 bt109.2.2).bind fun bt112 => (some (bt112.1, bt112.2.1, bt112.2.2, ([] : List Int)))))) else (some (a0_0, a0_1, a0_2, ([] : List Int)))
theorem Zad.calls (k : Nat) (a0_0 : ByteArray) (a0_1 : Int) (a0_2 : Int) (a1 : Int) (a2 : Int) (a3 : Int) (r1 : ByteArray) (r2 : Int) (r3 : Int) (r4 : List Int) (w : World) (h : Zad.f k a0_0 a0_1 a0_2 a1 a2 a3 = some (r1, r2, r3, r4)) :
  Calls Tryz.prog 112 #[.agg #[.string a0_0, .int .i64 a0_1, .int .i64 a0_2], .int .i64 a1, .int .i64 a2, .int .i64 a3] w fun e w' => ∃ v3_ : Value, e = .returned (.tuple #[.agg #[.string r1, .int .i64 r2, .int .i64 r3], v3_]) ∧ Kd.R (Kd.int .i64) 3 w' w.heap.size (fun _ => True) v3_ r4 ∧ Below w.heap.size w w' := by
 have hu153 := Tryz.underlying153
 have HB := am (Below.refl w.heap.size w)
 have H : (if a0_2 = 0 then ((Zar.f k a0_0 a0_1).bind fun bt109 => (if bt109.2.2 = 0 then (if a1 < 0 then (Zad.j0 k a2 a3 bt109.1 bt109.2.1 true a0_0 a0_1 a0_2) else (Zad.j0 k a2 a3 bt109.1 bt109.2.1 (decide (bt109.1 > (IntKind.u64.wrap (a1)))) a0_0 a0_1 a0_2)) else ((Zbk.f a0_0 a0_1 a0_2 bt109.2.2).bind fun bt112 => (some (bt112.1, bt112.2.1, bt112.2.2, ([] : List Int)))))) else (some (a0_0, a0_1, a0_2, ([] : List Int)))) = some (r1, r2, r3, r4) := h
 clear h
 by_cases c5 : a0_2 = 0
 rotate_left
 ·rw [if_neg c5] at H
  have c5b0 : (a0_2 == 0) = false := beq_eq_false_iff_ne.mpr c5
  have c5b1 : (a0_2 != 0) = true := bne_iff_ne.mpr c5
  simp only [Option.some.injEq, Prod.mk.injEq] at H
  obtain ⟨rfl, rfl, rfl, rfl⟩ := H
  go_enter Tryz.func112, Tryz.ntmps112
  go_wp2_with (first | ((with_reducible refine gate_dst (N := 4) rfl ?_); refine box_event ?hg (N := 4) ?hd (cs := #[.string a0_0, .int .i64 a0_1, .int .i64 a0_2]) (t := 153) ?hr ?_; (case hd => rfl); (case hg => rfl); (case hr => go_simp <;> rfl); intro gb107 hg w47 hbox hb; have BK107 := am hbox; have GW107 := gef hg HB.out; have GE107 := gef hg HB.out; replace HB := bs HB.out hb; clear hb hbox hg) | ((with_reducible refine gate_dst (N := 8) rfl ?_); refine box_event ?hg (N := 8) ?hd (cs := #[.string (⟨#[]⟩ : ByteArray), .int .i64 0, .int .i64 0]) (t := 153) ?hr ?_; (case hd => rfl); (case hg => rfl); (case hr => go_simp <;> rfl); intro gb108 hg w48 hbox hb; have BK108 := am hbox; have GW108 := gef hg HB.out; have GE108 := gef hg HB.out; replace HB := bs HB.out hb; have NB107_108 := nl hg BK107.out; have NB108_107 := ng hg BK107.out; replace BK107 := kb BK107.out hb; clear hb hbox hg; have hnb49 := NB107_108.out; have hnc49 := NB108_107.out; have hcz50_0 : w48.cell? ⟨gb107, 0, none⟩ = some (.string a0_0) := (blk_cell BK107.out 0).trans rfl; have hcz50_1 : w48.cell? ⟨gb107, 1, none⟩ = some (.int .i64 a0_1) := (blk_cell BK107.out 1).trans rfl; have hcz50_2 : w48.cell? ⟨gb107, 2, none⟩ = some (.int .i64 a0_2) := (blk_cell BK107.out 2).trans rfl; have hfz50_0 := blk_frozen BK107.out 0; have hfz50_1 := blk_frozen BK107.out 1; have hfz50_2 := blk_frozen BK107.out 2; obtain ⟨hcz51_0, hcz51_1, hcz51_2, hfz51_0, hfz51_1, hfz51_2⟩ := bk3 BK108.out))
  refine bodyPost_ret (results_ct rfl _ _ gb108 153 #[.string a0_0, .int .i64 a0_1, .int .i64 a0_2] (0, 0) _ rfl (by exact (vt (bp (vt (bp (vt (bp (vt BK108.out) 0)) 1)) 2)).trans rfl) Tryz.underlying153 rfl (by kernel_rfl)) rfl ?_
  exact ⟨_, by rfl, by first | exact Kd.R_nil _ _ _ _ _ | exact Kd.N_nil _ _ _ _ _ | exact Kd.V_nil _ _ _ _ _ | exact Kd.Q_nil _ _ _ _ _ | exact Kd.S_nil _ _ _ _ _, vb HB.out⟩
 rw [if_pos c5] at H
 have c5b0 : (a0_2 == 0) = true := beq_iff_eq.mpr c5
 have c5b1 : (a0_2 != 0) = false := bne_eq_false_iff_eq.mpr c5
 clear c5
 replace H := be H
 obtain ⟨⟨t109, t110, t111⟩, A60, H⟩ := H
 try dsimp only at H
 have A6 := am A60
 clear A60
 by_cases c7 : t111 = 0
 rotate_left
 ·rw [if_neg c7] at H
  have c7b0 : (t111 == 0) = false := beq_eq_false_iff_ne.mpr c7
  have c7b1 : (t111 != 0) = true := bne_iff_ne.mpr c7
  replace H := be H
  obtain ⟨⟨t112, t113, t114⟩, A400, H⟩ := H
  try dsimp only at H
  have A40 := am A400
  clear A400
  simp only [Option.some.injEq, Prod.mk.injEq] at H
  obtain ⟨rfl, rfl, rfl, rfl⟩ := H
  go_enter Tryz.func112, Tryz.ntmps112
  go_wp2_with (first | ((with_reducible refine gate_dst (N := 4) rfl ?_); refine box_event ?hg (N := 4) ?hd (cs := #[.string a0_0, .int .i64 a0_1, .int .i64 a0_2]) (t := 153) ?hr ?_; (case hd => rfl); (case hg => rfl); (case hr => go_simp <;> rfl); intro gb107 hg w41 hbox hb; have BK107 := am hbox; have GW107 := gef hg HB.out; have GE107 := gef hg HB.out; replace HB := bs HB.out hb; clear hb hbox hg) | ((with_reducible refine gate_dst (N := 8) rfl ?_); refine box_event ?hg (N := 8) ?hd (cs := #[.string (⟨#[]⟩ : ByteArray), .int .i64 0, .int .i64 0]) (t := 153) ?hr ?_; (case hd => rfl); (case hg => rfl); (case hr => go_simp <;> rfl); intro gb108 hg w42 hbox hb; have BK108 := am hbox; have GW108 := gef hg HB.out; have GE108 := gef hg HB.out; replace HB := bs HB.out hb; have NB107_108 := nl hg BK107.out; have NB108_107 := ng hg BK107.out; replace BK107 := kb BK107.out hb; clear hb hbox hg; have hnb43 := NB107_108.out; have hnc43 := NB108_107.out; obtain ⟨hcz44_0, hcz44_1, hcz44_2, hfz44_0, hfz44_1, hfz44_2⟩ := bk3 BK107.out) | ((with_reducible refine gate_callee (f := 127) rfl ?_); refine goesL_ (some 26) rfl rfl Tryz.func127 (by kernel_rfl) rfl #[.string a0_0, .int .i64 a0_1] rfl (by (try simp only [mT, mC, mN]); first | done | rfl) ?_; (with_reducible refine (Zar.calls k a0_0 a0_1 t109 t110 t111 _ A6.out).mono ?_); rintro e w' ⟨rfl, ⟨nd, rfl⟩⟩; refine ⟨_, rfl, ?_⟩; (try (rw [drewN_self w42]; generalize hq_ : World.drewN w42 _ = w42; have n0_ : Aside0 (w42.heap[gb107]? = some (.cells #[.string a0_0, .int .i64 a0_1, .int .i64 a0_2] 153 (0, 0))) := ⟨by rw [← hq_]; exact (vk BK107.out)⟩; have n1_ : Aside0 (w42.heap[gb108]? = some (.cells #[.string (⟨#[]⟩ : ByteArray), .int .i64 0, .int .i64 0] 153 (0, 0))) := ⟨by rw [← hq_]; exact (vk BK108.out)⟩; have n2_ : Aside0 (Below w.heap.size w w42) := ⟨by rw [← hq_]; exact (vb HB.out)⟩; clear BK107 BK108 HB hq_; have BK107 := n0_; have BK108 := n1_; have HB := n2_; clear n0_ n1_ n2_; have hczqgb107_0 : w42.cell? ⟨gb107, 0, none⟩ = some (.string a0_0) := (blk_cell BK107.out 0).trans rfl; have hfzqgb107_0 := blk_frozen BK107.out 0; have hczqgb107_1 : w42.cell? ⟨gb107, 1, none⟩ = some (.int .i64 a0_1) := (blk_cell BK107.out 1).trans rfl; have hfzqgb107_1 := blk_frozen BK107.out 1; have hczqgb107_2 : w42.cell? ⟨gb107, 2, none⟩ = some (.int .i64 a0_2) := (blk_cell BK107.out 2).trans rfl; have hfzqgb107_2 := blk_frozen BK107.out 2; have hczqgb108_0 : w42.cell? ⟨gb108, 0, none⟩ = some (.string (⟨#[]⟩ : ByteArray)) := (blk_cell BK108.out 0).trans rfl; have hfzqgb108_0 := blk_frozen BK108.out 0; have hczqgb108_1 : w42.cell? ⟨gb108, 1, none⟩ = some (.int .i64 0) := (blk_cell BK108.out 1).trans rfl; have hfzqgb108_1 := blk_frozen BK108.out 1; have hczqgb108_2 : w42.cell? ⟨gb108, 2, none⟩ = some (.int .i64 0) := (blk_cell BK108.out 2).trans rfl; have hfzqgb108_2 := blk_frozen BK108.out 2))) | ((with_reducible refine gate_callee (f := 128) rfl ?_); refine goesL_ (some 34) rfl rfl Tryz.func128 (by kernel_rfl) rfl #[.agg #[.string a0_0, .int .i64 a0_1, .int .i64 a0_2], .int .i64 t111] rfl (by (try simp only [mT, mC, mN]); first | done | rfl) ?_; (with_reducible refine (Zbk.calls a0_0 a0_1 a0_2 t111 t112 t113 t114 _ A40.out).mono ?_); rintro e w45 ⟨rfl, hb⟩; refine ⟨_, rfl, ?_⟩; replace BK107 := kb BK107.out hb; replace BK108 := kb BK108.out hb; replace HB := bs HB.out hb; (try clear hb); (try clear hb2); (try clear hk); (try clear hi); obtain ⟨hcz46_0, hcz46_1, hcz46_2, hfz46_0, hfz46_1, hfz46_2⟩ := bk3 BK108.out))
  refine bodyPost_ret (results_ct rfl _ _ gb108 153 #[.string t112, .int .i64 t113, .int .i64 t114] (0, 0) _ rfl (by exact (vt (bp (vt (bp (vt (bp (vt BK108.out) 0)) 1)) 2)).trans rfl) Tryz.underlying153 rfl (by kernel_rfl)) rfl ?_
  exact ⟨_, by rfl, by first | exact Kd.R_nil _ _ _ _ _ | exact Kd.N_nil _ _ _ _ _ | exact Kd.V_nil _ _ _ _ _ | exact Kd.Q_nil _ _ _ _ _ | exact Kd.S_nil _ _ _ _ _, vb HB.out⟩
 rw [if_pos c7] at H
 have c7b0 : (t111 == 0) = true := beq_iff_eq.mpr c7
 have c7b1 : (t111 != 0) = false := bne_eq_false_iff_eq.mpr c7
 clear c7
 have HC8 := am H
 clear H
 go_enter Tryz.func112, Tryz.ntmps112
 go_upto_region 6 with (first | ((with_reducible refine gate_dst (N := 4) rfl ?_); refine box_event ?hg (N := 4) ?hd (cs := #[.string a0_0, .int .i64 a0_1, .int .i64 a0_2]) (t := 153) ?hr ?_; (case hd => rfl); (case hg => rfl); (case hr => go_simp <;> rfl); intro gb107 hg w9 hbox hb; have BK107 := am hbox; have GW107 := gef hg HB.out; have GE107 := gef hg HB.out; replace HB := bs HB.out hb; clear hb hbox hg) | ((with_reducible refine gate_dst (N := 8) rfl ?_); refine box_event ?hg (N := 8) ?hd (cs := #[.string (⟨#[]⟩ : ByteArray), .int .i64 0, .int .i64 0]) (t := 153) ?hr ?_; (case hd => rfl); (case hg => rfl); (case hr => go_simp <;> rfl); intro gb108 hg w10 hbox hb; have BK108 := am hbox; have GW108 := gef hg HB.out; have GE108 := gef hg HB.out; replace HB := bs HB.out hb; have NB107_108 := nl hg BK107.out; have NB108_107 := ng hg BK107.out; replace BK107 := kb BK107.out hb; clear hb hbox hg; have hnb11 := NB107_108.out; have hnc11 := NB108_107.out; obtain ⟨hcz12_0, hcz12_1, hcz12_2, hfz12_0, hfz12_1, hfz12_2⟩ := bk3 BK107.out) | ((with_reducible refine gate_callee (f := 127) rfl ?_); refine goesL_ (some 26) rfl rfl Tryz.func127 (by kernel_rfl) rfl #[.string a0_0, .int .i64 a0_1] rfl (by (try simp only [mT, mC, mN]); first | done | rfl) ?_; (with_reducible refine (Zar.calls k a0_0 a0_1 t109 t110 t111 _ A6.out).mono ?_); rintro e w' ⟨rfl, ⟨nd, rfl⟩⟩; refine ⟨_, rfl, ?_⟩))
 (try simp only [Act.put, List.setIfInBounds_toArray, List.set_cons_zero, List.set_cons_succ])
 go_cut [42] (fun v42 wc => ∃ (kq : Nat) (x42_7 : Bool), v42 = .bool x42_7 ∧ Aside0 (Zad.j0 kq a2 a3 t109 t110 x42_7 a0_0 a0_1 a0_2 = some (r1, r2, r3, r4)) ∧ Aside0 (kq ≤ k) ∧ Aside0 (wc.heap[gb107]? = some (.cells #[.string a0_0, .int .i64 a0_1, .int .i64 a0_2] 153 (0, 0))) ∧ Aside0 (wc.heap[gb108]? = some (.cells #[.string (⟨#[]⟩ : ByteArray), .int .i64 0, .int .i64 0] 153 (0, 0))) ∧ Aside0 (Below w.heap.size w wc))
 case first =>
  have H := HC8.out
  clear HC8
  by_cases c13 : a1 < 0
  ·rw [if_pos c13] at H
   have c13b0 : decide (a1 < 0) = true := de c13
   clear c13
   (first | rw [c13b0] | (simp only [i64_w]; rw [c13b0]) | skip)
   have H' := am H
   clear H
   go_wp2
   go_meet
   case rel => exact ⟨_, (true), (by first | rfl | (simp; done) | simp [*]), H', ⟨by first | omega | exact Nat.le_refl _⟩, ⟨vk BK107.out⟩, ⟨vk BK108.out⟩, ⟨vb HB.out⟩⟩
  rw [if_neg c13] at H
  have c13b0 : decide (a1 < 0) = false := df c13
  clear c13
  (first | rw [c13b0] | (simp only [i64_w]; rw [c13b0]) | skip)
  have H' := am H
  clear H
  go_wp2
  go_meet
  case rel => exact ⟨_, (decide (t109 > (IntKind.u64.wrap (a1)))), (by first | rfl | (simp; done) | simp [*]), H', ⟨by first | omega | exact Nat.le_refl _⟩, ⟨vk BK107.out⟩, ⟨vk BK108.out⟩, ⟨vb HB.out⟩⟩
 case rest =>
  clear HC8
  (try clear c1); (try clear p2); (try clear c5); (try clear c5b0); (try clear c5b1); (try clear c7); (try clear c7b0); (try clear c7b1); (try clear c11); (try clear c12); (try clear c13); (try clear c13b0); (try clear hcz12_0); (try clear hcz12_1); (try clear hcz12_2); (try clear hfz12_0); (try clear hfz12_1); (try clear hfz12_2)
  obtain ⟨kq, x42_7, rfl, HA, HJ7, BK107, BK108, HB⟩ := hcut
  cases kq with
  | zero => exact absurd HA.out (by simp [Zad.j0])
  | succ kj7 =>
   have H := HA.out
   clear HA
   simp only [Zad.j0] at H
   by_cases c14 : x42_7 = true
   ·subst c14
    rw [if_pos rfl] at H
    replace H := be H
    obtain ⟨⟨t115, t116, t117⟩, A150, H⟩ := H
    try dsimp only at H
    have A15 := am A150
    clear A150
    simp only [Option.some.injEq, Prod.mk.injEq] at H
    obtain ⟨rfl, rfl, rfl, rfl⟩ := H
    have hnb16 := NB107_108.out
    have hnc16 := NB108_107.out
    obtain ⟨hcz17_0, hcz17_1, hcz17_2, hfz17_0, hfz17_1, hfz17_2⟩ := bk3 BK107.out
    go_wp2_with (first | ((with_reducible refine gate_callee (f := 128) rfl ?_); refine goesL_ (some 44) rfl rfl Tryz.func128 (by kernel_rfl) rfl #[.agg #[.string a0_0, .int .i64 a0_1, .int .i64 a0_2], .int .i64 4] rfl (by (try simp only [mT, mC, mN]); first | done | rfl) ?_; (with_reducible refine (Zbk.calls a0_0 a0_1 a0_2 4 t115 t116 t117 _ A15.out).mono ?_); rintro e w18 ⟨rfl, hb⟩; refine ⟨_, rfl, ?_⟩; replace BK107 := kb BK107.out hb; replace BK108 := kb BK108.out hb; replace HB := bs HB.out hb; (try clear hb); (try clear hb2); (try clear hk); (try clear hi); obtain ⟨hcz19_0, hcz19_1, hcz19_2, hfz19_0, hfz19_1, hfz19_2⟩ := bk3 BK108.out))
    refine bodyPost_ret (results_ct rfl _ _ gb108 153 #[.string t115, .int .i64 t116, .int .i64 t117] (0, 0) _ rfl (by exact (vt (bp (vt (bp (vt (bp (vt BK108.out) 0)) 1)) 2)).trans rfl) Tryz.underlying153 rfl (by kernel_rfl)) rfl ?_
    exact ⟨_, by rfl, by first | exact Kd.R_nil _ _ _ _ _ | exact Kd.N_nil _ _ _ _ _ | exact Kd.V_nil _ _ _ _ _ | exact Kd.Q_nil _ _ _ _ _ | exact Kd.S_nil _ _ _ _ _, vb HB.out⟩
   replace c14 := Bool.eq_false_iff.mpr c14
   subst c14
   rw [if_neg (show ¬ (false = true) by decide)] at H
   obtain ⟨y118, hy118⟩ : ∃ y_ : List Int, y_ = (([] : List Int)) := ⟨_, rfl⟩
   replace H : (Zad.l0 kj7 a2 a3 t109 t110 y118 a0_0 a0_1 a0_2) = some (r1, r2, r3, r4) := by first | (rw [hy118]; with_reducible exact H) | (have H2_ := (Option.bind_some _ _).symm.trans H; rw [hy118]; with_reducible exact H2_) | (have H2_ := (Option.bind_some _ _).symm.trans H; with_reducible exact H2_) | with_reducible exact H | (rw [hy118]; exact H) | exact H
   have Ny118 := am hy118
   clear hy118
   have H' := am H
   clear H
   go_wp2_with (first | ((with_reducible refine gate_dst (N := 45) rfl ?_); refine Kd.R_lit (Kd.int .i64) _ 3 ?hg (N := 45) ?hd (xs := ([] : List Int)) (inner := []) (ok := fun _ => True) (okp := fun _ => True) ?hr ?hp (fun _ hk => hk) trivial (Below.refl _ _) (Nat.le_refl _) (by simp) ?_; (case hd => rfl); (case hg => rfl); (case hr => go_simp <;> rfl); (case hp => exact (Reps.none _ _)); intro v119 w20 ho21 hb hg_ hnew_; clear hg_ hnew_; (first | rw [← Ny118.out] at ho21 | (simp only [Int.reduceToNat] at ho21; rw [← Ny118.out] at ho21)); have HO120 := am (Kd.R_lower ho21 (below_size (vb HB.out))); replace BK107 := kb BK107.out hb; replace BK108 := kb BK108.out hb; replace HB := bs HB.out hb; clear hb ho21))
   go_loopg [11, 13] kj7 (fun kq v11 v13 w' => ∃ (x11_2 : Int) (x13_2 : List Int) (x109000_2 : ByteArray) (x109001_2 : Int) (x109002_2 : Int), v11 = .int .i64 x11_2 ∧ Aside0 (Zad.l0 kq a2 a3 t109 x11_2 x13_2 a0_0 a0_1 a0_2 = some (r1, r2, r3, r4)) ∧ Aside0 (kq ≤ kj7) ∧ Aside0 (Kd.R (Kd.int .i64) 3 w' w.heap.size (fun _ => True) v13 x13_2) ∧ Aside0 (w'.heap[gb107]? = some (.cells #[.string a0_0, .int .i64 a0_1, .int .i64 a0_2] 153 (0, 0))) ∧ Aside0 (w'.heap[gb108]? = some (.cells #[.string x109000_2, .int .i64 x109001_2, .int .i64 x109002_2] 153 (0, 0))) ∧ Aside0 (Below w.heap.size w w'))
   case atStart => exact ⟨(t110), (y118), ((⟨#[]⟩ : ByteArray)), (0), (0), (by first | rfl | (simp; done) | simp [*]), H', ⟨Nat.le_refl _⟩, ⟨vR HO120.out⟩, ⟨vk BK107.out⟩, ⟨vk BK108.out⟩, ⟨vb HB.out⟩⟩
   case round =>
    clear H'
    (try clear c1); (try clear p2); (try clear c5); (try clear c5b0); (try clear c5b1); (try clear c7); (try clear c7b0); (try clear c7b1); (try clear c11); (try clear c12); (try clear c13); (try clear c13b0); (try clear c14); (try clear c16); (try clear hcz12_0); (try clear hcz12_1); (try clear hcz12_2); (try clear hcz17_0); (try clear hcz17_1); (try clear hcz17_2); (try clear hcz19_0); (try clear hcz19_1); (try clear hcz19_2); (try clear hfz12_0); (try clear hfz12_1); (try clear hfz12_2); (try clear hfz17_0); (try clear hfz17_1); (try clear hfz17_2); (try clear hfz19_0); (try clear hfz19_1); (try clear hfz19_2); (try clear p2)
    obtain ⟨x11_2, x13_2, x109000_2, x109001_2, x109002_2, rfl, HA, HK2, HO_13, BK107, BK108, HB⟩ := hrel
    cases gk with
    | zero => exact absurd HA.out (by simp [Zad.l0])
    | succ k2 =>
     have H := HA.out
     clear HA
     simp only [Zad.l0] at H
     by_cases c22 : (IntKind.u64.wrap ((x13_2.length : Int))) < t109
     rotate_left
     ·rw [if_neg c22] at H
      have c22b0 : decide ((IntKind.u64.wrap ((x13_2.length : Int))) < t109) = false := df c22
      clear c22
      simp only [Option.some.injEq, Prod.mk.injEq] at H
      obtain ⟨rfl, rfl, rfl, rfl⟩ := H
      obtain ⟨Ao36, co36, eo36⟩ := Kd.R_slice HO_13.out
      subst eo36
      have hnb37 := NB107_108.out
      have hnc37 := NB108_107.out
      obtain ⟨hcz38_0, hcz38_1, hcz38_2, hfz38_0, hfz38_1, hfz38_2⟩ := bk3 BK107.out
      obtain ⟨hcz39_0, hcz39_1, hcz39_2, hfz39_0, hfz39_1, hfz39_2⟩ := bk3 BK108.out
      go_wp2
      refine bodyPost_ret (results_ct rfl _ _ gb108 153 #[.string a0_0, .int .i64 x11_2, .int .i64 a0_2] (0, 0) _ rfl (by exact (vt (bp (vt (bp (vt (bp (vt (bf (vt BK108.out) NB108_107.out)) 0)) 1)) 2)).trans rfl) Tryz.underlying153 rfl (by kernel_rfl)) rfl ?_
      exact ⟨_, by rfl, vR (Kd.R_mono (fR3 gb108 (Kd.R_far (p := ⟨gb107, 1, none⟩) (Kd.R_types (Kd.R_types HO_13.out BK107.out (by decide)) BK108.out (by decide)) (fun _ hk => hk.1.2) (.int .i64 x11_2)) (.string a0_0) (.int .i64 x11_2) (.int .i64 a0_2)) (fun _ hk => trivial)), vb HB.out⟩
     rw [if_pos c22] at H
     have c22b0 : decide ((IntKind.u64.wrap ((x13_2.length : Int))) < t109) = true := de c22
     clear c22
     replace H := be H
     obtain ⟨⟨t121, t122, t123⟩, A230, H⟩ := H
     try dsimp only at H
     have A23 := am A230
     clear A230
     by_cases c24 : t123 = 0
     rotate_left
     ·rw [if_neg c24] at H
      have c24b0 : (t123 == 0) = false := beq_eq_false_iff_ne.mpr c24
      have c24b1 : (t123 != 0) = true := bne_iff_ne.mpr c24
      replace H := be H
      obtain ⟨⟨t127, t128, t129⟩, A300, H⟩ := H
      try dsimp only at H
      have A30 := am A300
      clear A300
      simp only [Option.some.injEq, Prod.mk.injEq] at H
      obtain ⟨rfl, rfl, rfl, rfl⟩ := H
      obtain ⟨Ao31, co31, eo31⟩ := Kd.R_slice HO_13.out
      subst eo31
      have hnb32 := NB107_108.out
      have hnc32 := NB108_107.out
      obtain ⟨hcz33_0, hcz33_1, hcz33_2, hfz33_0, hfz33_1, hfz33_2⟩ := bk3 BK107.out
      go_wp2_with (first | ((with_reducible refine gate_callee (f := 129) rfl ?_); refine goesL_ (some 57) rfl rfl Tryz.func129 (by kernel_rfl) rfl #[.string a0_0, .int .i64 x11_2, .int .i64 a2, .int .i64 a3] rfl (by (try simp only [mT, mC, mN]); first | done | rfl) ?_; (with_reducible refine (Zas.calls k2 a0_0 x11_2 a2 a3 t121 t122 t123 _ A23.out).mono ?_); rintro e w' ⟨rfl, ⟨nd, rfl⟩⟩; refine ⟨_, rfl, ?_⟩; (try (rw [drewN_self wr]; generalize hq_ : World.drewN wr _ = wr; have n0_ : Aside0 (Kd.R (Kd.int .i64) 3 wr w.heap.size (fun _ => True) (.slice Ao31 x13_2.length co31) x13_2) := ⟨by rw [← hq_]; exact (vR HO_13.out)⟩; have n1_ : Aside0 (wr.heap[gb107]? = some (.cells #[.string a0_0, .int .i64 a0_1, .int .i64 a0_2] 153 (0, 0))) := ⟨by rw [← hq_]; exact (vk BK107.out)⟩; have n2_ : Aside0 (wr.heap[gb108]? = some (.cells #[.string x109000_2, .int .i64 x109001_2, .int .i64 x109002_2] 153 (0, 0))) := ⟨by rw [← hq_]; exact (vk BK108.out)⟩; have n3_ : Aside0 (Below w.heap.size w wr) := ⟨by rw [← hq_]; exact (vb HB.out)⟩; clear HO_13 BK107 BK108 HB hq_; have HO_13 := n0_; have BK107 := n1_; have BK108 := n2_; have HB := n3_; clear n0_ n1_ n2_ n3_; have hczqgb107_0 : wr.cell? ⟨gb107, 0, none⟩ = some (.string a0_0) := (blk_cell BK107.out 0).trans rfl; have hfzqgb107_0 := blk_frozen BK107.out 0; have hczqgb107_1 : wr.cell? ⟨gb107, 1, none⟩ = some (.int .i64 a0_1) := (blk_cell BK107.out 1).trans rfl; have hfzqgb107_1 := blk_frozen BK107.out 1; have hczqgb107_2 : wr.cell? ⟨gb107, 2, none⟩ = some (.int .i64 a0_2) := (blk_cell BK107.out 2).trans rfl; have hfzqgb107_2 := blk_frozen BK107.out 2; have hczqgb108_0 : wr.cell? ⟨gb108, 0, none⟩ = some (.string x109000_2) := (blk_cell BK108.out 0).trans rfl; have hfzqgb108_0 := blk_frozen BK108.out 0; have hczqgb108_1 : wr.cell? ⟨gb108, 1, none⟩ = some (.int .i64 x109001_2) := (blk_cell BK108.out 1).trans rfl; have hfzqgb108_1 := blk_frozen BK108.out 1; have hczqgb108_2 : wr.cell? ⟨gb108, 2, none⟩ = some (.int .i64 x109002_2) := (blk_cell BK108.out 2).trans rfl; have hfzqgb108_2 := blk_frozen BK108.out 2))) | ((with_reducible refine gate_callee (f := 128) rfl ?_); refine goesL_ (some 65) rfl rfl Tryz.func128 (by kernel_rfl) rfl #[.agg #[.string a0_0, .int .i64 a0_1, .int .i64 a0_2], .int .i64 t123] rfl (by (try simp only [mT, mC, mN]); first | done | rfl) ?_; (with_reducible refine (Zbk.calls a0_0 a0_1 a0_2 t123 t127 t128 t129 _ A30.out).mono ?_); rintro e w34 ⟨rfl, hb⟩; refine ⟨_, rfl, ?_⟩; replace HO_13 := kR HO_13.out hb; replace BK107 := kb BK107.out hb; replace BK108 := kb BK108.out hb; replace HB := bs HB.out hb; (try clear hb); (try clear hb2); (try clear hk); (try clear hi); obtain ⟨hcz35_0, hcz35_1, hcz35_2, hfz35_0, hfz35_1, hfz35_2⟩ := bk3 BK108.out))
      refine bodyPost_ret (results_ct rfl _ _ gb108 153 #[.string t127, .int .i64 t128, .int .i64 t129] (0, 0) _ rfl (by exact (vt (bp (vt (bp (vt (bp (vt BK108.out) 0)) 1)) 2)).trans rfl) Tryz.underlying153 rfl (by kernel_rfl)) rfl ?_
      exact ⟨_, by rfl, by first | exact Kd.R_nil _ _ _ _ _ | exact Kd.N_nil _ _ _ _ _ | exact Kd.V_nil _ _ _ _ _ | exact Kd.Q_nil _ _ _ _ _ | exact Kd.S_nil _ _ _ _ _, vb HB.out⟩
     rw [if_pos c24] at H
     have c24b0 : (t123 == 0) = true := beq_iff_eq.mpr c24
     have c24b1 : (t123 != 0) = false := bne_eq_false_iff_eq.mpr c24
     clear c24
     by_cases c25 : x13_2.length < 17592186044416
     rotate_left
     ·rw [if_neg c25] at H
      exact absurd H (by simp)
     rw [if_pos c25] at H
     have LMc25 := am c25
     clear c25
     obtain ⟨y124, hy124⟩ : ∃ y_ : List Int, y_ = (x13_2 ++ [t121]) := ⟨_, rfl⟩
     replace H : (Zad.l0 k2 a2 a3 t109 t122 y124 a0_0 a0_1 a0_2) = some (r1, r2, r3, r4) := by first | (rw [hy124]; with_reducible exact H) | (have H2_ := (Option.bind_some _ _).symm.trans H; rw [hy124]; with_reducible exact H2_) | (have H2_ := (Option.bind_some _ _).symm.trans H; with_reducible exact H2_) | with_reducible exact H | (rw [hy124]; exact H) | exact H
     have Ny124 := am hy124
     clear hy124
     have H' := am H
     clear H
     obtain ⟨Ao26, co26, eo26⟩ := Kd.R_slice HO_13.out
     subst eo26
     have hnb27 := NB107_108.out
     have hnc27 := NB108_107.out
     obtain ⟨hcz28_0, hcz28_1, hcz28_2, hfz28_0, hfz28_1, hfz28_2⟩ := bk3 BK107.out
     go_wp2_with (first | ((with_reducible refine gate_callee (f := 129) rfl ?_); refine goesL_ (some 57) rfl rfl Tryz.func129 (by kernel_rfl) rfl #[.string a0_0, .int .i64 x11_2, .int .i64 a2, .int .i64 a3] rfl (by (try simp only [mT, mC, mN]); first | done | rfl) ?_; (with_reducible refine (Zas.calls k2 a0_0 x11_2 a2 a3 t121 t122 t123 _ A23.out).mono ?_); rintro e w' ⟨rfl, ⟨nd, rfl⟩⟩; refine ⟨_, rfl, ?_⟩) | ((with_reducible refine gate_builtin (b := .append) (xs := #[.tmp 66, .tmp 68]) rfl ?_); at_builtin; refine Kd.R_append (Kd.int .i64) (w0 := w) w.heap.size rfl (.tmp 66) (.tmp 68) 32 3 (.int .i64 0) 8 rfl Tryz.underlying32 info3 rfl (by decide) (by omega) (.slice Ao26 x13_2.length co26) x13_2 t121 [.int .i64 t121] (fun _ => True) (fun _ => False) rfl rfl ?aP (fun _ hk => hk.elim) ?aF ?aO ?aB ?aS ?aL ?_; (case aP => exact rfl); (case aB => exact (vb HB.out)); (case aF => exact (fun _ _ => trivial)); (case aO => exact (vR HO_13.out)); (case aS => exact (below_size (vb HB.out))); (case aL => have := LMc25.out; omega); intro v125 w29 ho hb hg hat; rw [← Ny124.out] at ho; replace BK107 := am (blk_grown (g := gb107) (o := .cells #[.string a0_0, .int .i64 a0_1, .int .i64 a0_2] 153 (0, 0)) (vk BK107.out) hg (Kd.R_ne HO_13.out BK107.out (by decide))); replace BK108 := am (blk_grown (g := gb108) (o := .cells #[.string x109000_2, .int .i64 x109001_2, .int .i64 x109002_2] 153 (0, 0)) (vk BK108.out) hg (Kd.R_ne HO_13.out BK108.out (by decide))); replace HB := am hb; have HO126 := am (ho); clear HO_13; clear ho hb hg hat))
     go_roundg k2
     case measure => have := HJ7.out; have := HK2.out; omega
     case rel => exact ⟨(t122), (y124), (x109000_2), (x109001_2), (x109002_2), (by first | rfl | (simp; done) | simp [*]), H', ⟨by have := HJ7.out; have := HK2.out; omega⟩, ⟨vR HO126.out⟩, ⟨vk BK107.out⟩, ⟨vk BK108.out⟩, ⟨vb HB.out⟩⟩
end Go.Proofs.YtjgifmakhnkmdaaGreatDoor.XRep
