import Derived.Test.YtjgifmakhnkmdaaGreatDoorZExtW
import Derived.Test.YtjgifmakhnkmdaaGreatDoorZCutB
namespace Go.Proofs.YtjgifmakhnkmdaaGreatDoor.XRep
open Go.RowKit Go.Proofs.YtjgifmakhnkmdaaGreatDoorW.PrintWords Go.Proofs.YtjgifmakhnkmdaaGreatDoorW.PrintLast Go.Proofs.YtjgifmakhnkmdaaGreatDoorW.PrintMore
set_option linter.unusedVariables false
set_option linter.unusedSimpArgs false
def SAM : List S34 := (Zao.f 40).getD []
def codeA (k n : Int) : ByteArray := (Zbg.f 40 k n).getD ⟨#[]⟩
theorem some_getD {α : Type} {o : Option α} {d : α} (h : o.isSome = true) : o = some (o.getD d) := by
 cases o with
 | none => cases h
 | some v => rfl
theorem SAM_eq : Zao.f 40 = some SAM := some_getD (by decide +kernel)
theorem code_eq (k n : Int) (h : (Zbg.f 40 k n).isSome = true) : Zbg.f 40 k n = some (codeA k n) := some_getD h
def hisC (m : Nat) (e : Int) (x : ByteArray) (p : List S34 → Bool) : Bool := match Zbs.f SAM x with
 | some r => decide (r.2 = e) && decide (r.1.length = m) && p r.1
 | none => false
theorem hisC_some {m : Nat} {e : Int} {x : ByteArray} {p : List S34 → Bool} (h : hisC m e x p = true) : ∃ r : List S34, Zbs.f SAM x = some (r, e) ∧ r.length = m ∧ p r = true := by
 unfold hisC at h
 cases hx : Zbs.f SAM x with
 | none => rw [hx] at h; cases h
 | some r =>
  rw [hx] at h
  simp only [Bool.and_eq_true, decide_eq_true_eq] at h
  exact ⟨r.1, by rw [← h.1.1], h.1.2, h.2⟩
def stoC : Bool := match Zce.f (SAM.take 6) (codeA 66 1) with
 | some r => decide (r.2 = 0) && decide (10 < r.1.size) && decide (r.1.size ≤ 100000) && decide ((r.1.extract 0 6) = ⟨#[100, 48, 32, 48, 48, 58]⟩)
 | none => false
theorem stoC_some : ∃ s : ByteArray, Zce.f (SAM.take 6) (codeA 66 1) = some (s, 0) ∧ 10 < s.size ∧ s.size ≤ 100000 ∧ s.extract 0 6 = ⟨#[100, 48, 32, 48, 48, 58]⟩ := by
 have h : stoC = true := by decide +kernel
 unfold stoC at h
 cases hx : Zce.f (SAM.take 6) (codeA 66 1) with
 | none => rw [hx] at h; cases h
 | some r =>
  rw [hx] at h
  simp only [Bool.and_eq_true, decide_eq_true_eq] at h
  exact ⟨r.1, by rw [← h.1.1.1], h.1.1.2, h.1.2, h.2⟩
theorem per_eq : Zbw.f KK SAM (codeA 66 6) = some (codeA 80 1, 0) := by decide +kernel
theorem history_n (n m : Nat) (A0 : Option Addr) (c0 : Nat) (l0 : List S34) (a1 : ByteArray) (r1 : List S34) (r2 : Int) (w : World) (hn : l0.length = n) (hm : r1.length = m) (hr0 : Kd.C k34 w A0 l0.length l0) (hc0 : n ≤ c0) (h : Zbs.f l0 a1 = some (r1, r2)) :
  Calls Tryz.prog 8 #[.slice A0 n c0, .string a1] w fun e w' => ∃ A c, e = .returned (.tuple #[.slice A m c, .int .i64 r2]) ∧ Kd.F k34 w' (fun _ => True) A m r1 ∧ Below w.heap.size w w' := by
 subst hn
 subst hm
 refine (Zbs.calls A0 c0 l0 a1 r1 r2 w hr0 hc0 h).mono ?_
 rintro e w' ⟨v, rfl, hN, hb⟩
 obtain ⟨A, c, rfl, hc, hC⟩ := Kd.N_reads hN
 exact ⟨A, c, rfl, Kd.N_F hN, hb⟩
theorem permit_n (n : Nat) (A0 : Option Addr) (c0 : Nat) (l0 : List S34) (a1 : ByteArray) (r1 : ByteArray) (r2 : Int) (w : World) (hn : l0.length = n) (hr0 : Kd.C k34 w A0 l0.length l0) (hc0 : n ≤ c0) (h : Zbw.f KK l0 a1 = some (r1, r2)) :
  Calls Tryz.prog 13 #[.slice A0 n c0, .string a1] w fun e w' => e = .returned (.tuple #[.string r1, .int .i64 r2]) ∧ Below w.heap.size w w' := by
 subst hn
 exact Zbw.calls KK A0 c0 l0 a1 r1 r2 w hr0 hc0 h
theorem story_n (n : Nat) (A0 : Option Addr) (c0 : Nat) (l0 : List S34) (a1 : ByteArray) (r1 : ByteArray) (r2 : Int) (w : World) (hgl : Glob w) (hn : l0.length = n) (hr0 : Kd.C k34 w A0 l0.length l0) (hc0 : n ≤ c0) (h : Zce.f l0 a1 = some (r1, r2)) :
  Calls Tryz.prog 11 #[.slice A0 n c0, .string a1] w fun e w' => e = .returned (.tuple #[.string r1, .int .i64 r2]) ∧ Below w.heap.size w w' := by
 subst hn
 exact Zce.calls A0 c0 l0 a1 r1 r2 w hgl hr0 hc0 h
theorem sample_calls (w : World) : Calls Tryz.prog 18 #[] w fun e w' => ∃ A c, e = .returned (.slice A 10 c) ∧ 10 ≤ c ∧ Kd.C k34 w' A SAM.length SAM ∧ Below w.heap.size w w' := by
 refine (Zao.calls 40 SAM w SAM_eq).mono ?_
 rintro e w' ⟨v, rfl, hN, hb⟩
 obtain ⟨A, c, rfl, hc, hC⟩ := Kd.N_reads hN
 have h10 : SAM.length = 10 := by decide +kernel
 rw [h10] at hc ⊢
 rw [h10] at hC
 exact ⟨A, c, rfl, hc, hC, hb⟩
def Zaz.f : Option Bool := some true
set_option maxHeartbeats 8000000 in
set_option maxRecDepth 100000 in
theorem Zaz.calls (r : Bool) (w : World) (hgl : Glob w) (h : Zaz.f = some r) :
  Calls Tryz.prog 7 #[] w fun e w' => e = .returned (.bool r) ∧ Below w.heap.size w w' := by
 injection h with h
 subst h
 obtain ⟨h1, e1, l1, p1⟩ := hisC_some (m := 5) (e := 0) (x := codeA 66 1) (p := fun r => decide ((rd_T34 r 4).f0 = 7) && decide ((rd_T34 r 3).f0 = 4)) (by decide +kernel)
 obtain ⟨h2, e2, l2, p2⟩ := hisC_some (m := 8) (e := 0) (x := codeA 66 2) (p := fun r => decide ((rd_T34 r 7).f0 = 5)) (by decide +kernel)
 obtain ⟨h0, e0, l0, p0⟩ := hisC_some (m := 0) (e := 8) (x := codeA 66 0) (p := fun r => true) (by decide +kernel)
 obtain ⟨st, es, s1, s2, s3⟩ := stoC_some
 have ep := per_eq
 have ls : SAM.length = 10 := by decide +kernel
 have l6 : (SAM.take 6).length = 6 := by decide +kernel
 have hsc := sample_calls
 have hc1 := fun w => Zbg.calls 40 66 1 _ w (code_eq 66 1 (by decide +kernel))
 have hc2 := fun w => Zbg.calls 40 66 2 _ w (code_eq 66 2 (by decide +kernel))
 have hc0 := fun w => Zbg.calls 40 66 0 _ w (code_eq 66 0 (by decide +kernel))
 have hc6 := fun w => Zbg.calls 40 66 6 _ w (code_eq 66 6 (by decide +kernel))
 have hcp := fun w => Zbg.calls 40 80 1 _ w (code_eq 80 1 (by decide +kernel))
 generalize codeA 66 1 = b1 at *
 generalize codeA 66 2 = b2 at *
 generalize codeA 66 0 = b0 at *
 generalize codeA 66 6 = b6 at *
 generalize codeA 80 1 = q1 at *
 simp only [Bool.and_eq_true, decide_eq_true_eq] at p1 p2
 have E1 := Aside0.mk e1
 have E2 := Aside0.mk e2
 have E0 := Aside0.mk e0
 have EP := Aside0.mk ep
 have ES := Aside0.mk es
 have LS := Aside0.mk ls
 have L6 := Aside0.mk l6
 have L1 := Aside0.mk l1
 have L2 := Aside0.mk l2
 have L0 := Aside0.mk l0
 have P1 := Aside0.mk p1
 have P2 := Aside0.mk p2
 have S1 := Aside0.mk s1
 have S2 := Aside0.mk s2
 have S3 := Aside0.mk s3
 have SC := Aside0.mk hsc
 have C1 := Aside0.mk hc1
 have C2 := Aside0.mk hc2
 have C0 := Aside0.mk hc0
 have C6 := Aside0.mk hc6
 have CP := Aside0.mk hcp
 have GL := Aside0.mk hgl
 clear e1 e2 e0 ep es ls l6 l1 l2 l0 p1 p2 p0 s1 s2 s3 hsc hc1 hc2 hc0 hc6 hcp hgl
 go_enter Tryz.func7, Tryz.ntmps7
 go_upto_region 2 with (first | (go_at_call 18; refine (SC.out _).mono ?_; rintro e5 w5 ⟨A, c, rfl, hc, hC, hb⟩; have HC := Aside0.mk hc; have RC := Aside0.mk hC; have HB := Aside0.mk hb; clear hc hC hb))
 generalize SAM = sm at *
 go_upto_region 3 with (first | (go_at_call 19; (with_reducible refine (C1.out _).mono ?_); rintro e6 w6 ⟨rfl, hb⟩; have n0_ := Aside0.mk (below_step HB.out hb); have n1_ := Aside0.mk (Kd.C_below RC.out hb); clear HB RC ; have HB := n0_; have RC := n1_; clear n0_ n1_  hb) | (go_at_call 8; refine (history_n 10 5 A c sm b1 h1 0 _ LS.out L1.out RC.out HC.out E1.out).mono ?_; rintro e7 w7 ⟨AF1, cF1, rfl, hF, hb⟩; have F1 := Aside0.mk (Kd.F_bound hF); have n0_ := Aside0.mk (below_step HB.out hb); have n1_ := Aside0.mk (Kd.C_below RC.out hb); clear HB RC ; have HB := n0_; have RC := n1_; clear n0_ n1_  hb; clear hF))
 go_upto_region 4 with (first | (go_at_call 19; (with_reducible refine (C2.out _).mono ?_); rintro e8 w8 ⟨rfl, hb⟩; have n0_ := Aside0.mk (below_step HB.out hb); have n1_ := Aside0.mk (Kd.C_below RC.out hb); have m0_ := Aside0.mk (Kd.F_below F1.out hb); clear HB RC F1; have HB := n0_; have RC := n1_; have F1 := m0_; clear n0_ n1_ m0_ hb) | (go_at_call 8; refine (history_n 10 8 A c sm b2 h2 0 _ LS.out L2.out RC.out HC.out E2.out).mono ?_; rintro e9 w9 ⟨AF2, cF2, rfl, hF, hb⟩; have F2 := Aside0.mk (Kd.F_bound hF); have n0_ := Aside0.mk (below_step HB.out hb); have n1_ := Aside0.mk (Kd.C_below RC.out hb); have m0_ := Aside0.mk (Kd.F_below F1.out hb); clear HB RC F1; have HB := n0_; have RC := n1_; have F1 := m0_; clear n0_ n1_ m0_ hb; clear hF))
 go_upto_region 5 with (first | (go_at_call 19; (with_reducible refine (C0.out _).mono ?_); rintro e10 w10 ⟨rfl, hb⟩; have n0_ := Aside0.mk (below_step HB.out hb); have n1_ := Aside0.mk (Kd.C_below RC.out hb); have m0_ := Aside0.mk (Kd.F_below F1.out hb); have m1_ := Aside0.mk (Kd.F_below F2.out hb); clear HB RC F1 F2; have HB := n0_; have RC := n1_; have F1 := m0_; have F2 := m1_; clear n0_ n1_ m0_ m1_ hb) | (go_at_call 8; refine (history_n 10 0 A c sm b0 h0 8 _ LS.out L0.out RC.out HC.out E0.out).mono ?_; rintro e11 w11 ⟨AF0, cF0, rfl, hF, hb⟩; have F0 := Aside0.mk (Kd.F_bound hF); have n0_ := Aside0.mk (below_step HB.out hb); have n1_ := Aside0.mk (Kd.C_below RC.out hb); have m0_ := Aside0.mk (Kd.F_below F1.out hb); have m1_ := Aside0.mk (Kd.F_below F2.out hb); clear HB RC F1 F2; have HB := n0_; have RC := n1_; have F1 := m0_; have F2 := m1_; clear n0_ n1_ m0_ m1_ hb; clear hF))
 go_upto_region 6 with (first | (go_at_call 19; (with_reducible refine (C6.out _).mono ?_); rintro e13 w13 ⟨rfl, hb⟩; have n0_ := Aside0.mk (below_step HB.out hb); have n1_ := Aside0.mk (Kd.C_below RC.out hb); have m0_ := Aside0.mk (Kd.F_below F1.out hb); have m1_ := Aside0.mk (Kd.F_below F2.out hb); clear HB RC F1 F2; have HB := n0_; have RC := n1_; have F1 := m0_; have F2 := m1_; clear n0_ n1_ m0_ m1_ hb) | (go_at_call 13; refine (permit_n 10 A c sm b6 q1 0 _ LS.out RC.out HC.out EP.out).mono ?_; rintro e12 w12 ⟨rfl, hb⟩; have n0_ := Aside0.mk (below_step HB.out hb); have n1_ := Aside0.mk (Kd.C_below RC.out hb); have m0_ := Aside0.mk (Kd.F_below F1.out hb); have m1_ := Aside0.mk (Kd.F_below F2.out hb); clear HB RC F1 F2; have HB := n0_; have RC := n1_; have F1 := m0_; have F2 := m1_; clear n0_ n1_ m0_ m1_ hb))
 have hcc : (6 : Int) ≤ (c : Int) := by have := HC.out; omega
 go_region_held3 (fun w' => True) (exact trivial) (first | (go_at_call 19; (with_reducible refine (C1.out _).mono ?_); rintro e13 w14 ⟨rfl, hb⟩; have HB4 : Aside0 (Below w.heap.size w w14) := ⟨below_step (below_drew HB.out) hb⟩; have RC4 : Aside0 (Kd.C k34 w14 A sm.length sm) := ⟨Kd.C_below (Kd.C_drew RC.out) hb⟩; have F14 := Aside0.mk (Kd.F_below (Kd.F_drew F1.out) hb); have F24 := Aside0.mk (Kd.F_below (Kd.F_drew F2.out) hb)) | (go_at_call 11; refine (story_n 6 A c (sm.take 6) b1 st 0 _ (Glob.below GL.out HB4.out) L6.out (Kd.C_take RC4.out (by rw [LS.out]; decide)) (by have := HC.out; omega) ES.out).mono ?_; rintro e15 w15 ⟨rfl, hb⟩; have HB5 := Aside0.mk (below_step HB4.out hb); have F15 := Aside0.mk (Kd.F_below F14.out hb); have F25 := Aside0.mk (Kd.F_below F24.out hb)))
 obtain ⟨ad, A4, c4, eA, y4, -⟩ := at_F34 F15.out 4 (by omega) (by omega)
 cases eA
 obtain ⟨ad', A3, c3, eA, y3, -⟩ := at_F34 F15.out 3 (by omega) (by omega)
 cases eA
 obtain ⟨ae, A7, c7, eA, y7, -⟩ := at_F34 F25.out 7 (by omega) (by omega)
 cases eA
 rw [P1.out.1] at y4
 rw [P1.out.2] at y3
 rw [P2.out] at y7
 simp only [show (4 : Int).toNat * 6 = 24 from rfl, show (3 : Int).toNat * 6 = 18 from rfl, show (7 : Int).toNat * 6 = 42 from rfl, Addr.add] at y3 y4 y7
 rw [if_neg (by decide)] at y3 y4 y7
 have s1 : (10 : Int) < (st.size : Int) := by have := S1.out; omega
 have s2 : (6 : Int) ≤ (st.size : Int) := by omega
 have s3 := S3.out
 go_upto_region 9 with (fail)
 go_wp2_with (first | (go_at_call 19; (with_reducible refine (CP.out _).mono ?_); rintro e16 w16 ⟨rfl, hb⟩; have HB6 := Aside0.mk (below_step HB5.out hb)))
 refine ⟨rfl, _, ?_, rfl, HB6.out⟩
 exact (results_tmp (t := 0) rfl _ _ _).trans rfl
end Go.Proofs.YtjgifmakhnkmdaaGreatDoor.XRep
