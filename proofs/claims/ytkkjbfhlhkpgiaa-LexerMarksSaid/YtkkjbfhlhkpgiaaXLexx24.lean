-- laid by xprint.py, a program of this session, over the kit's printer
import Derived.Test.YtkkjbfhlhkpgiaaXLexx0
import Derived.Test.YtkkjbfhlhkpgiaaXLexx1
import Derived.Test.YtkkjbfhlhkpgiaaXLexx7
import Derived.Test.YtkkjbfhlhkpgiaaXLexx9
import Derived.Test.YtkkjbfhlhkpgiaaXLexx13
import Derived.Test.YtkkjbfhlhkpgiaaXLexx23
namespace Go.Proofs.Ytkkjbfhlhkpgiaa.XLex
open Go.RowKit Go.Proofs.YtkkjbfhlhkpgiaaW.PrintWords Go.Proofs.YtkkjbfhlhkpgiaaW.PrintLast Go.Proofs.YtkkjbfhlhkpgiaaW.PrintMore
attribute [local go_sem] max2_int min2_int max_two min_two max_three min_three max_four min_four Go.Proofs.Ytkkjbfhlhkpgiaa.Pre.cell_twice Go.Proofs.Ytkkjbfhlhkpgiaa.Pre.cell_thrice   -- for this text's walks alone
set_option linter.unusedVariables false
set_option linter.unusedSimpArgs false

attribute [local go_sem high] eqA32
/-! ### sawmilllaw06_LexerMarks: function 5 -/
def sawmilllaw06_LexerMarks.j0 : Nat → ByteArray → Bool → Option (Bool)
  | 0, _, _ => none
  | k + 1, x0, x15 => if x15 = true then (if (x0.size : Int) > 1000 then ((sawmilllaw06_awake.f k).bind fun t252 => (some t252)) else (some false)) else ((lexer_IsMark.f x0).bind fun t253 => (if t253 = true then ((lexer_Scan.f k x0).bind fun bt254 => (if bt254.2.1 = 0 then (if (bt254.1.length : Int) = 2 then (if 0 < (bt254.1.length : Int) then (if (((rd_T32 bt254.1 0).f0) == 3 && ((((rd_T32 bt254.1 0).f1).toList) == x0.toList && (((rd_T32 bt254.1 0).f2) == 0 && (((rd_T32 bt254.1 0).f3) == 0)))) = true then ((sawmilllaw06_awake.f k).bind fun t260 => (some t260)) else (some false)) else (none)) else (some false)) else (some false))) else ((sawmilllaw06_awake.f k).bind fun t261 => (some t261))))
def sawmilllaw06_LexerMarks.f (k : Nat) (a0 : ByteArray) : Option (Bool) := if (a0.size : Int) > 1000 then (sawmilllaw06_LexerMarks.j0 k a0 true) else ((lexer_IsMark.f a0).bind fun t250 => ((sawmillref06_IsMark.f k a0).bind fun t251 => (sawmilllaw06_LexerMarks.j0 k a0 (t250 != t251))))
theorem sawmilllaw06_LexerMarks.mono_l : ∀ k, (∀ y0 y1, LeO (sawmilllaw06_LexerMarks.j0 k y0 y1) (sawmilllaw06_LexerMarks.j0 (k + 1) y0 y1))
  | 0 => fun _ _ r h => by simp [sawmilllaw06_LexerMarks.j0] at h
  | k + 1 => by
    have ih0 := sawmilllaw06_LexerMarks.mono_l k
    · intro y0 y1
      unfold sawmilllaw06_LexerMarks.j0
      repeat' first
      | (with_reducible exact ih0 _ _)
      | (with_reducible exact lexer_Scan.mono _ _)
      | (with_reducible exact sawmilllaw06_awake.mono _)
      | (with_reducible exact sawmillref06_IsMark.mono _ _)
      | (with_reducible exact LeO.refl _)
      | (with_reducible exact LeO.none _)
      | (with_reducible refine LeO.ite ?_ ?_)
      | (with_reducible refine LeO.bind ?_ (fun _ => ?_))
      | exact ih0 _ _
      | exact lexer_Scan.mono _ _
      | exact sawmilllaw06_awake.mono _
      | exact sawmillref06_IsMark.mono _ _
      | exact LeO.none _
      | refine LeO.ite ?_ ?_
      | refine LeO.bind ?_ (fun _ => ?_)
theorem sawmilllaw06_LexerMarks.mono : ∀ a0 k, LeO (sawmilllaw06_LexerMarks.f k a0) (sawmilllaw06_LexerMarks.f (k + 1) a0) := by
  intro a0 k
  have ih0 := sawmilllaw06_LexerMarks.mono_l k
  unfold sawmilllaw06_LexerMarks.f
  repeat' first
      | (with_reducible exact ih0 _ _)
      | (with_reducible exact lexer_Scan.mono _ _)
      | (with_reducible exact sawmilllaw06_awake.mono _)
      | (with_reducible exact sawmillref06_IsMark.mono _ _)
      | (with_reducible exact LeO.refl _)
      | (with_reducible exact LeO.none _)
      | (with_reducible refine LeO.ite ?_ ?_)
      | (with_reducible refine LeO.bind ?_ (fun _ => ?_))
      | exact ih0 _ _
      | exact lexer_Scan.mono _ _
      | exact sawmilllaw06_awake.mono _
      | exact sawmillref06_IsMark.mono _ _
      | exact LeO.none _
      | refine LeO.ite ?_ ?_
      | refine LeO.bind ?_ (fun _ => ?_)
set_option maxHeartbeats 8000000 in
set_option maxRecDepth 100000 in
theorem sawmilllaw06_LexerMarks.calls (k : Nat) (a0 : ByteArray) (r : Bool) (w : World) (h : sawmilllaw06_LexerMarks.f k a0 = some r) :
    Calls Try.prog 5 #[.string a0] w fun e w' => e = .returned (.bool r) ∧ Below w.heap.size w w' := by
  have hu32 := Try.underlying32
  have HB := Aside0.mk (Below.refl w.heap.size w)
  have H : (if (a0.size : Int) > 1000 then (sawmilllaw06_LexerMarks.j0 k a0 true) else ((lexer_IsMark.f a0).bind fun t250 => ((sawmillref06_IsMark.f k a0).bind fun t251 => (sawmilllaw06_LexerMarks.j0 k a0 (t250 != t251))))) = some r := h
  clear h
  have HC2 := Aside0.mk H
  clear H
  go_enter Try.func5, Try.ntmps5
  go_upto_region 1 with (fail)
  go_cut [15] (fun v15 wc => ∃ (kq : Nat) (x15_1 : Bool), v15 = .bool x15_1 ∧ Aside0 (sawmilllaw06_LexerMarks.j0 kq a0 x15_1 = some r) ∧ Aside0 (kq ≤ k) ∧ Aside0 (Below w.heap.size w wc))
  case first =>
    have H := HC2.out
    clear HC2
    by_cases c3 : (a0.size : Int) > 1000
    · rw [if_pos c3] at H
      have c3b0 : decide (1000 < (a0.size : Int)) = true := decide_eq_true c3
      have c3b1 : decide (1000 < a0.size) = true := decide_eq_true (by omega)
      clear c3
      (first | rw [c3b0] | (simp only [i64_w, i32_w]; rw [c3b0]) | skip)
      have H' := Aside0.mk H
      clear H
      go_wp2
      go_meet
      case rel => exact ⟨_, (true), (by first | rfl | (simp; done) | (simp [*]; done)), H', ⟨by first | omega | exact Nat.le_refl _⟩, ⟨by repeat (first | (with_reducible first | exact HB.out | apply below_alloc | apply pw_below_drewN | apply below_drew1) | exact HB.out)⟩⟩
    · rw [if_neg c3] at H
      have c3b0 : decide (1000 < (a0.size : Int)) = false := decide_eq_false c3
      have c3b1 : decide (1000 < a0.size) = false := decide_eq_false (by omega)
      clear c3
      (first | rw [c3b0] | (simp only [i64_w, i32_w]; rw [c3b0]) | skip)
      replace H := Option.bind_eq_some_iff.mp H
      obtain ⟨t250, A40, H⟩ := H
      replace H : ((sawmillref06_IsMark.f k a0).bind fun t251 => (sawmilllaw06_LexerMarks.j0 k a0 (t250 != t251))) = some r := H
      have A4 := Aside0.mk A40
      clear A40
      replace H := Option.bind_eq_some_iff.mp H
      obtain ⟨t251, A50, H⟩ := H
      replace H : (sawmilllaw06_LexerMarks.j0 k a0 (t250 != t251)) = some r := H
      have A5 := Aside0.mk A50
      clear A50
      have H' := Aside0.mk H
      clear H
      go_wp2_with (first | (go_at_call 19; (with_reducible refine (lexer_IsMark.calls a0 t250 _ A4.out).mono ?_); rintro e w' ⟨rfl, ⟨nd, rfl⟩⟩) | (go_at_call 20; (with_reducible refine (sawmillref06_IsMark.calls k a0 t251 _ A5.out).mono ?_); rintro e w6 ⟨rfl, hb⟩; have n0_ := Aside0.mk (below_step (by repeat (first | (with_reducible first | exact HB.out | apply below_alloc | apply pw_below_drewN | apply below_drew1) | exact HB.out)) hb); clear HB; have HB := n0_; clear n0_; (try clear hb); (try clear hb2); (try clear hk); (try clear hi)))
      go_meet
      case rel => exact ⟨_, ((t250 != t251)), (by first | rfl | (simp; done) | (simp [*]; done)), H', ⟨by first | omega | exact Nat.le_refl _⟩, ⟨by repeat (first | (with_reducible first | exact HB.out | apply below_alloc | apply pw_below_drewN | apply below_drew1) | exact HB.out)⟩⟩
  case rest =>
    clear HC2
    try clear p2
    try clear c3
    try clear c3b0
    try clear c3b1
    try clear c5
    obtain ⟨kq, x15_1, rfl, HA, HJ1, HB⟩ := hcut
    cases kq with
    | zero => exact absurd HA.out (by simp [sawmilllaw06_LexerMarks.j0])
    | succ kj1 =>
      have H := HA.out
      clear HA
      simp only [sawmilllaw06_LexerMarks.j0] at H
      by_cases c7 : x15_1 = true
      · subst c7
        have H1 : (if (a0.size : Int) > 1000 then ((sawmilllaw06_awake.f kj1).bind fun t252 => (some t252)) else (some false)) = some r := by rw [if_pos rfl] at H; exact H
        clear H
        have H := H1
        clear H1
        by_cases c8 : (a0.size : Int) > 1000
        · rw [if_pos c8] at H
          have c8b0 : decide (1000 < (a0.size : Int)) = true := decide_eq_true c8
          have c8b1 : decide (1000 < a0.size) = true := decide_eq_true (by omega)
          clear c8
          replace H := Option.bind_eq_some_iff.mp H
          obtain ⟨t252, A90, H⟩ := H
          replace H : (some t252) = some r := H
          have A9 := Aside0.mk A90
          clear A90
          obtain rfl := Option.some.inj H
          go_wp2_with (first | (go_at_call 10; (with_reducible refine (sawmilllaw06_awake.calls kj1  t252 _ A9.out).mono ?_); rintro e w10 ⟨rfl, hb⟩; have n0_ := Aside0.mk (below_step (by repeat (first | (with_reducible first | exact HB.out | apply below_alloc | apply pw_below_drewN | apply below_drew1) | exact HB.out)) hb); clear HB; have HB := n0_; clear n0_; (try clear hb); (try clear hb2); (try clear hk); (try clear hi)))
          go_ret
          exact ⟨by first | rfl | (simp [errW_none, errW_some] <;> rfl) | (simp [*, errW_none, errW_some] <;> rfl), by repeat (first | (with_reducible first | exact HB.out | apply below_alloc | apply pw_below_drewN | apply below_drew1) | exact HB.out)⟩
        · rw [if_neg c8] at H
          have c8b0 : decide (1000 < (a0.size : Int)) = false := decide_eq_false c8
          have c8b1 : decide (1000 < a0.size) = false := decide_eq_false (by omega)
          clear c8
          obtain rfl := Option.some.inj H
          go_wp2
          go_ret
          exact ⟨by first | rfl | (simp [errW_none, errW_some] <;> rfl) | (simp [*, errW_none, errW_some] <;> rfl), by repeat (first | (with_reducible first | exact HB.out | apply below_alloc | apply pw_below_drewN | apply below_drew1) | exact HB.out)⟩
      · replace c7 := Bool.eq_false_iff.mpr c7
        subst c7
        have H1 : ((lexer_IsMark.f a0).bind fun t253 => (if t253 = true then ((lexer_Scan.f kj1 a0).bind fun bt254 => (if bt254.2.1 = 0 then (if (bt254.1.length : Int) = 2 then (if 0 < (bt254.1.length : Int) then (if (((rd_T32 bt254.1 0).f0) == 3 && ((((rd_T32 bt254.1 0).f1).toList) == a0.toList && (((rd_T32 bt254.1 0).f2) == 0 && (((rd_T32 bt254.1 0).f3) == 0)))) = true then ((sawmilllaw06_awake.f kj1).bind fun t260 => (some t260)) else (some false)) else (none)) else (some false)) else (some false))) else ((sawmilllaw06_awake.f kj1).bind fun t261 => (some t261)))) = some r := by rw [if_neg (show ¬ (false = true) by decide)] at H; exact H
        clear H
        have H := H1
        clear H1
        replace H := Option.bind_eq_some_iff.mp H
        obtain ⟨t253, A110, H⟩ := H
        replace H : (if t253 = true then ((lexer_Scan.f kj1 a0).bind fun bt254 => (if bt254.2.1 = 0 then (if (bt254.1.length : Int) = 2 then (if 0 < (bt254.1.length : Int) then (if (((rd_T32 bt254.1 0).f0) == 3 && ((((rd_T32 bt254.1 0).f1).toList) == a0.toList && (((rd_T32 bt254.1 0).f2) == 0 && (((rd_T32 bt254.1 0).f3) == 0)))) = true then ((sawmilllaw06_awake.f kj1).bind fun t260 => (some t260)) else (some false)) else (none)) else (some false)) else (some false))) else ((sawmilllaw06_awake.f kj1).bind fun t261 => (some t261))) = some r := H
        have A11 := Aside0.mk A110
        clear A110
        by_cases c12 : t253 = true
        · subst c12
          have H1 : ((lexer_Scan.f kj1 a0).bind fun bt254 => (if bt254.2.1 = 0 then (if (bt254.1.length : Int) = 2 then (if 0 < (bt254.1.length : Int) then (if (((rd_T32 bt254.1 0).f0) == 3 && ((((rd_T32 bt254.1 0).f1).toList) == a0.toList && (((rd_T32 bt254.1 0).f2) == 0 && (((rd_T32 bt254.1 0).f3) == 0)))) = true then ((sawmilllaw06_awake.f kj1).bind fun t260 => (some t260)) else (some false)) else (none)) else (some false)) else (some false))) = some r := by rw [if_pos rfl] at H; exact H
          clear H
          have H := H1
          clear H1
          replace H := Option.bind_eq_some_iff.mp H
          obtain ⟨⟨t254, t255, t256⟩, A130, H⟩ := H
          replace H : (if t255 = 0 then (if (t254.length : Int) = 2 then (if 0 < (t254.length : Int) then (if (((rd_T32 t254 0).f0) == 3 && ((((rd_T32 t254 0).f1).toList) == a0.toList && (((rd_T32 t254 0).f2) == 0 && (((rd_T32 t254 0).f3) == 0)))) = true then ((sawmilllaw06_awake.f kj1).bind fun t260 => (some t260)) else (some false)) else (none)) else (some false)) else (some false)) = some r := H
          have A13 := Aside0.mk A130
          clear A130
          by_cases c14 : t255 = 0
          · rw [if_pos c14] at H
            have c14b0 : (t255 == 0) = true := beq_iff_eq.mpr c14
            have c14b1 : (t255 != 0) = false := bne_eq_false_iff_eq.mpr c14
            clear c14
            by_cases c15 : (t254.length : Int) = 2
            · rw [if_pos c15] at H
              have c15b0 : ((t254.length : Int) == 2) = true := beq_iff_eq.mpr c15
              have c15b1 : ((t254.length : Int) != 2) = false := bne_eq_false_iff_eq.mpr c15
              clear c15
              by_cases c16 : 0 < (t254.length : Int)
              · rw [if_pos c16] at H
                have c16b0 : decide (0 < (t254.length : Int)) = true := decide_eq_true c16
                have c16b1 : decide (0 < t254.length) = true := decide_eq_true (by omega)
                clear c16
                by_cases c17 : (((rd_T32 t254 0).f0) == 3 && ((((rd_T32 t254 0).f1).toList) == a0.toList && (((rd_T32 t254 0).f2) == 0 && (((rd_T32 t254 0).f3) == 0)))) = true
                · rw [if_pos c17] at H
                  have c17b0 : (((rd_T32 t254 0).f0) == 3 && ((((rd_T32 t254 0).f1).toList) == a0.toList && (((rd_T32 t254 0).f2) == 0 && (((rd_T32 t254 0).f3) == 0)))) = true := c17
                  (try (have c17b1 : decide (((rd_T32 t254 0).f0) = 3 && ((((rd_T32 t254 0).f1).toList) == a0.toList && (((rd_T32 t254 0).f2) == 0 && (((rd_T32 t254 0).f3) == 0)))) = true := by simpa using c17))
                  (try (have c17b2 : (((rd_T32 t254 0).f0) == 3 && ((((rd_T32 t254 0).f1).toList) == a0.toList && (((rd_T32 t254 0).f2) == 0 && (((rd_T32 t254 0).f3) == 0)))) = true := by simpa using c17))
                  clear c17
                  replace H := Option.bind_eq_some_iff.mp H
                  obtain ⟨t260, A180, H⟩ := H
                  replace H : (some t260) = some r := H
                  have A18 := Aside0.mk A180
                  clear A180
                  obtain rfl := Option.some.inj H
                  go_wp2_with (first | ((with_reducible refine gate_callee (f := 19) rfl ?_); refine goesL_ (some 23) rfl rfl Try.func19 (by kernel_rfl) rfl #[.string a0] rfl (by (try simp only [List.map_toArray, List.map_cons, List.map_nil]); first | done | rfl | (simp only [List.length_drop, List.length_take]; rfl)) ?_; (with_reducible refine (lexer_IsMark.calls a0 true _ A11.out).mono ?_); rintro e w' ⟨rfl, ⟨nd, rfl⟩⟩; refine ⟨_, rfl, ?_⟩) | ((with_reducible refine gate_callee (f := 11) rfl ?_); refine goesL_ (some 28) rfl rfl Try.func11 (by kernel_rfl) rfl #[.string a0] rfl (by (try simp only [List.map_toArray, List.map_cons, List.map_nil]); first | done | rfl | (simp only [List.length_drop, List.length_take]; rfl)) ?_; (with_reducible refine (lexer_Scan.calls kj1 a0 t254 t255 t256 _ A13.out).mono ?_); rintro e w19 ⟨v257, rfl, ho0, hb⟩; refine ⟨_, rfl, ?_⟩; have n0_ := Aside0.mk (Kd.R_lower ho0 (below_size (by repeat (first | (with_reducible first | exact HB.out | apply below_alloc | apply pw_below_drewN | apply below_drew1) | exact HB.out)))); have n1_ := Aside0.mk (below_step (by repeat (first | (with_reducible first | exact HB.out | apply below_alloc | apply pw_below_drewN | apply below_drew1) | exact HB.out)) hb); clear HB; have HO258 := n0_; have HB := n1_; clear n0_ n1_; (try clear hb); (try clear hb2); (try clear hk); (try clear hi); (try clear ho0); obtain ⟨Ao20, co20, eo20⟩ := Kd.R_slice HO258.out; subst eo20; have p259 : 0 ≤ (0 : Int) := (by omega); have q259 : 0 < (t254.length : Int) := of_decide_eq_true (by first | (with_reducible assumption) | assumption); obtain ⟨ad259, e259, hx259_0, hx259_1, hx259_2, hx259_3⟩ := at_T32 (Kd.R_reads' HO258.out).2.2 0 p259 q259; cases e259; have qi259 : (0 < t254.length) = True := eq_true (by omega); (try rw [show ((0 : Int)).toNat = 0 from rfl] at hx259_0); (try rw [show 0 * 4 = 0 from rfl] at hx259_0); (try rw [Addr.add_zero'] at hx259_0); (try rw [show ((0 : Int)).toNat = 0 from rfl] at hx259_1); (try rw [show 0 * 4 = 0 from rfl] at hx259_1); (try rw [Addr.add_zero'] at hx259_1); (try rw [show ((0 : Int)).toNat = 0 from rfl] at hx259_2); (try rw [show 0 * 4 = 0 from rfl] at hx259_2); (try rw [Addr.add_zero'] at hx259_2); (try rw [show ((0 : Int)).toNat = 0 from rfl] at hx259_3); (try rw [show 0 * 4 = 0 from rfl] at hx259_3); (try rw [Addr.add_zero'] at hx259_3); replace p259 := eq_true p259; replace q259 := eq_true q259) | (go_at_call 10; (with_reducible refine (sawmilllaw06_awake.calls kj1  t260 _ A18.out).mono ?_); rintro e w21 ⟨rfl, hb⟩; have n0_ := Aside0.mk (Kd.R_below (by (with_reducible repeat (first | apply Kd.R_alloc | apply Kd.R_drewN | apply Kd.R_drew)); exact HO258.out) hb); have n1_ := Aside0.mk (below_step (by repeat (first | (with_reducible first | exact HB.out | apply below_alloc | apply pw_below_drewN | apply below_drew1) | exact HB.out)) hb); clear HO258; clear HB; have HO258 := n0_; have HB := n1_; clear n0_ n1_; (try clear hb); (try clear hb2); (try clear hk); (try clear hi)))
                  go_ret
                  exact ⟨by first | rfl | (simp [errW_none, errW_some] <;> rfl) | (simp [*, errW_none, errW_some] <;> rfl), by repeat (first | (with_reducible first | exact HB.out | apply below_alloc | apply pw_below_drewN | apply below_drew1) | exact HB.out)⟩
                · rw [if_neg c17] at H
                  have c17b0 : (((rd_T32 t254 0).f0) == 3 && ((((rd_T32 t254 0).f1).toList) == a0.toList && (((rd_T32 t254 0).f2) == 0 && (((rd_T32 t254 0).f3) == 0)))) = false := by simpa using c17
                  (try (have c17b1 : decide (((rd_T32 t254 0).f0) = 3 && ((((rd_T32 t254 0).f1).toList) == a0.toList && (((rd_T32 t254 0).f2) == 0 && (((rd_T32 t254 0).f3) == 0)))) = false := by simpa using c17))
                  (try (have c17b2 : (((rd_T32 t254 0).f0) == 3 && ((((rd_T32 t254 0).f1).toList) == a0.toList && (((rd_T32 t254 0).f2) == 0 && (((rd_T32 t254 0).f3) == 0)))) = false := by simpa using c17))
                  (try (have c17b3 : ¬ (((rd_T32 t254 0).f0) = 3 && ((((rd_T32 t254 0).f1).toList) == a0.toList && (((rd_T32 t254 0).f2) == 0 && (((rd_T32 t254 0).f3) == 0)))) := by simpa using c17))
                  clear c17
                  obtain rfl := Option.some.inj H
                  go_wp2_with (first | ((with_reducible refine gate_callee (f := 19) rfl ?_); refine goesL_ (some 23) rfl rfl Try.func19 (by kernel_rfl) rfl #[.string a0] rfl (by (try simp only [List.map_toArray, List.map_cons, List.map_nil]); first | done | rfl | (simp only [List.length_drop, List.length_take]; rfl)) ?_; (with_reducible refine (lexer_IsMark.calls a0 true _ A11.out).mono ?_); rintro e w' ⟨rfl, ⟨nd, rfl⟩⟩; refine ⟨_, rfl, ?_⟩) | ((with_reducible refine gate_callee (f := 11) rfl ?_); refine goesL_ (some 28) rfl rfl Try.func11 (by kernel_rfl) rfl #[.string a0] rfl (by (try simp only [List.map_toArray, List.map_cons, List.map_nil]); first | done | rfl | (simp only [List.length_drop, List.length_take]; rfl)) ?_; (with_reducible refine (lexer_Scan.calls kj1 a0 t254 t255 t256 _ A13.out).mono ?_); rintro e w22 ⟨v257, rfl, ho0, hb⟩; refine ⟨_, rfl, ?_⟩; have n0_ := Aside0.mk (Kd.R_lower ho0 (below_size (by repeat (first | (with_reducible first | exact HB.out | apply below_alloc | apply pw_below_drewN | apply below_drew1) | exact HB.out)))); have n1_ := Aside0.mk (below_step (by repeat (first | (with_reducible first | exact HB.out | apply below_alloc | apply pw_below_drewN | apply below_drew1) | exact HB.out)) hb); clear HB; have HO258 := n0_; have HB := n1_; clear n0_ n1_; (try clear hb); (try clear hb2); (try clear hk); (try clear hi); (try clear ho0); obtain ⟨Ao23, co23, eo23⟩ := Kd.R_slice HO258.out; subst eo23; have p259 : 0 ≤ (0 : Int) := (by omega); have q259 : 0 < (t254.length : Int) := of_decide_eq_true (by first | (with_reducible assumption) | assumption); obtain ⟨ad259, e259, hx259_0, hx259_1, hx259_2, hx259_3⟩ := at_T32 (Kd.R_reads' HO258.out).2.2 0 p259 q259; cases e259; have qi259 : (0 < t254.length) = True := eq_true (by omega); (try rw [show ((0 : Int)).toNat = 0 from rfl] at hx259_0); (try rw [show 0 * 4 = 0 from rfl] at hx259_0); (try rw [Addr.add_zero'] at hx259_0); (try rw [show ((0 : Int)).toNat = 0 from rfl] at hx259_1); (try rw [show 0 * 4 = 0 from rfl] at hx259_1); (try rw [Addr.add_zero'] at hx259_1); (try rw [show ((0 : Int)).toNat = 0 from rfl] at hx259_2); (try rw [show 0 * 4 = 0 from rfl] at hx259_2); (try rw [Addr.add_zero'] at hx259_2); (try rw [show ((0 : Int)).toNat = 0 from rfl] at hx259_3); (try rw [show 0 * 4 = 0 from rfl] at hx259_3); (try rw [Addr.add_zero'] at hx259_3); replace p259 := eq_true p259; replace q259 := eq_true q259))
                  go_ret
                  exact ⟨by first | rfl | (simp [errW_none, errW_some] <;> rfl) | (simp [*, errW_none, errW_some] <;> rfl), by repeat (first | (with_reducible first | exact HB.out | apply below_alloc | apply pw_below_drewN | apply below_drew1) | exact HB.out)⟩
              · rw [if_neg c16] at H
                exact absurd H (by simp)
            · rw [if_neg c15] at H
              have c15b0 : ((t254.length : Int) == 2) = false := beq_eq_false_iff_ne.mpr c15
              have c15b1 : ((t254.length : Int) != 2) = true := bne_iff_ne.mpr c15
              obtain rfl := Option.some.inj H
              go_wp2_with (first | ((with_reducible refine gate_callee (f := 19) rfl ?_); refine goesL_ (some 23) rfl rfl Try.func19 (by kernel_rfl) rfl #[.string a0] rfl (by (try simp only [List.map_toArray, List.map_cons, List.map_nil]); first | done | rfl | (simp only [List.length_drop, List.length_take]; rfl)) ?_; (with_reducible refine (lexer_IsMark.calls a0 true _ A11.out).mono ?_); rintro e w' ⟨rfl, ⟨nd, rfl⟩⟩; refine ⟨_, rfl, ?_⟩) | ((with_reducible refine gate_callee (f := 11) rfl ?_); refine goesL_ (some 28) rfl rfl Try.func11 (by kernel_rfl) rfl #[.string a0] rfl (by (try simp only [List.map_toArray, List.map_cons, List.map_nil]); first | done | rfl | (simp only [List.length_drop, List.length_take]; rfl)) ?_; (with_reducible refine (lexer_Scan.calls kj1 a0 t254 t255 t256 _ A13.out).mono ?_); rintro e w24 ⟨v257, rfl, ho0, hb⟩; refine ⟨_, rfl, ?_⟩; have n0_ := Aside0.mk (Kd.R_lower ho0 (below_size (by repeat (first | (with_reducible first | exact HB.out | apply below_alloc | apply pw_below_drewN | apply below_drew1) | exact HB.out)))); have n1_ := Aside0.mk (below_step (by repeat (first | (with_reducible first | exact HB.out | apply below_alloc | apply pw_below_drewN | apply below_drew1) | exact HB.out)) hb); clear HB; have HO258 := n0_; have HB := n1_; clear n0_ n1_; (try clear hb); (try clear hb2); (try clear hk); (try clear hi); (try clear ho0); obtain ⟨Ao25, co25, eo25⟩ := Kd.R_slice HO258.out; subst eo25))
              go_ret
              exact ⟨by first | rfl | (simp [errW_none, errW_some] <;> rfl) | (simp [*, errW_none, errW_some] <;> rfl), by repeat (first | (with_reducible first | exact HB.out | apply below_alloc | apply pw_below_drewN | apply below_drew1) | exact HB.out)⟩
          · rw [if_neg c14] at H
            have c14b0 : (t255 == 0) = false := beq_eq_false_iff_ne.mpr c14
            have c14b1 : (t255 != 0) = true := bne_iff_ne.mpr c14
            obtain rfl := Option.some.inj H
            go_wp2_with (first | ((with_reducible refine gate_callee (f := 19) rfl ?_); refine goesL_ (some 23) rfl rfl Try.func19 (by kernel_rfl) rfl #[.string a0] rfl (by (try simp only [List.map_toArray, List.map_cons, List.map_nil]); first | done | rfl | (simp only [List.length_drop, List.length_take]; rfl)) ?_; (with_reducible refine (lexer_IsMark.calls a0 true _ A11.out).mono ?_); rintro e w' ⟨rfl, ⟨nd, rfl⟩⟩; refine ⟨_, rfl, ?_⟩) | ((with_reducible refine gate_callee (f := 11) rfl ?_); refine goesL_ (some 28) rfl rfl Try.func11 (by kernel_rfl) rfl #[.string a0] rfl (by (try simp only [List.map_toArray, List.map_cons, List.map_nil]); first | done | rfl | (simp only [List.length_drop, List.length_take]; rfl)) ?_; (with_reducible refine (lexer_Scan.calls kj1 a0 t254 t255 t256 _ A13.out).mono ?_); rintro e w26 ⟨v257, rfl, ho0, hb⟩; refine ⟨_, rfl, ?_⟩; have n0_ := Aside0.mk (Kd.R_lower ho0 (below_size (by repeat (first | (with_reducible first | exact HB.out | apply below_alloc | apply pw_below_drewN | apply below_drew1) | exact HB.out)))); have n1_ := Aside0.mk (below_step (by repeat (first | (with_reducible first | exact HB.out | apply below_alloc | apply pw_below_drewN | apply below_drew1) | exact HB.out)) hb); clear HB; have HO258 := n0_; have HB := n1_; clear n0_ n1_; (try clear hb); (try clear hb2); (try clear hk); (try clear hi); (try clear ho0)))
            go_ret
            exact ⟨by first | rfl | (simp [errW_none, errW_some] <;> rfl) | (simp [*, errW_none, errW_some] <;> rfl), by repeat (first | (with_reducible first | exact HB.out | apply below_alloc | apply pw_below_drewN | apply below_drew1) | exact HB.out)⟩
        · replace c12 := Bool.eq_false_iff.mpr c12
          subst c12
          have H1 : ((sawmilllaw06_awake.f kj1).bind fun t261 => (some t261)) = some r := by rw [if_neg (show ¬ (false = true) by decide)] at H; exact H
          clear H
          have H := H1
          clear H1
          replace H := Option.bind_eq_some_iff.mp H
          obtain ⟨t261, A270, H⟩ := H
          replace H : (some t261) = some r := H
          have A27 := Aside0.mk A270
          clear A270
          obtain rfl := Option.some.inj H
          go_wp2_with (first | ((with_reducible refine gate_callee (f := 19) rfl ?_); refine goesL_ (some 23) rfl rfl Try.func19 (by kernel_rfl) rfl #[.string a0] rfl (by (try simp only [List.map_toArray, List.map_cons, List.map_nil]); first | done | rfl | (simp only [List.length_drop, List.length_take]; rfl)) ?_; (with_reducible refine (lexer_IsMark.calls a0 false _ A11.out).mono ?_); rintro e w' ⟨rfl, ⟨nd, rfl⟩⟩; refine ⟨_, rfl, ?_⟩) | ((with_reducible refine gate_callee (f := 10) rfl ?_); refine goesL_ (some 25) rfl rfl Try.func10 (by kernel_rfl) rfl #[] rfl (by (try simp only [List.map_toArray, List.map_cons, List.map_nil]); first | done | rfl | (simp only [List.length_drop, List.length_take]; rfl)) ?_; (with_reducible refine (sawmilllaw06_awake.calls kj1  t261 _ A27.out).mono ?_); rintro e w28 ⟨rfl, hb⟩; refine ⟨_, rfl, ?_⟩; have n0_ := Aside0.mk (below_step (by repeat (first | (with_reducible first | exact HB.out | apply below_alloc | apply pw_below_drewN | apply below_drew1) | exact HB.out)) hb); clear HB; have HB := n0_; clear n0_; (try clear hb); (try clear hb2); (try clear hk); (try clear hi)))
          go_ret
          exact ⟨by first | rfl | (simp [errW_none, errW_some] <;> rfl) | (simp [*, errW_none, errW_some] <;> rfl), by repeat (first | (with_reducible first | exact HB.out | apply below_alloc | apply pw_below_drewN | apply below_drew1) | exact HB.out)⟩

/-- THE ONE PURE STATEMENT of sawmilllaw06_LexerMarks: yours. -/
def sawmilllaw06_LexerMarks.Pure : Prop := ∀ (a0 : ByteArray), a0.size ≤ 140737488351232 → ∃ k, sawmilllaw06_LexerMarks.f k a0 = some true
theorem sawmilllaw06_LexerMarks.walk (P : sawmilllaw06_LexerMarks.Pure) (a0 : ByteArray) (w : World) (w0 : a0.size ≤ 140737488351232) :
    Calls Try.prog 5 #[.string a0] w fun e w' => e = .returned (.bool true) ∧ Below w.heap.size w w' := by
  obtain ⟨k, h⟩ := P a0 w0
  refine (sawmilllaw06_LexerMarks.calls k a0 true w h).mono ?_
  rintro e w' ⟨rfl, hd⟩
  exact ⟨rfl, hd⟩

end Go.Proofs.Ytkkjbfhlhkpgiaa.XLex
