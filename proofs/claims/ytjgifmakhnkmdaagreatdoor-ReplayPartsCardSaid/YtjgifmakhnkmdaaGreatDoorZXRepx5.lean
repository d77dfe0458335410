import Derived.Test.YtjgifmakhnkmdaaGreatDoorZXRepx0
import Derived.Test.YtjgifmakhnkmdaaGreatDoorZXRepx1
import Derived.Test.YtjgifmakhnkmdaaGreatDoorZCmp
namespace Go.Proofs.YtjgifmakhnkmdaaGreatDoor.XRep
set_option maxHeartbeats 8000000
set_option maxRecDepth 100000
open Go.RowKit Go.Proofs.YtjgifmakhnkmdaaGreatDoorW.PrintWords Go.Proofs.YtjgifmakhnkmdaaGreatDoorW.PrintLast Go.Proofs.YtjgifmakhnkmdaaGreatDoorW.PrintMore Go.Proofs.YtjgifmakhnkmdaaGreatDoor.Cmp
set_option linter.unusedVariables false
set_option linter.unusedSimpArgs false
attribute [local go_sem high] eqA108
def Zat.l0 : Nat → List (S108) → Int → Option (Bool)
 | 0, _, _ => none
 | k + 1, x0, x3 => if x3 < (x0.length : Int) then (if 0 ≤ x3 then (if ((rd_T108 x0 x3).f0) < (-600) then (some false) else (if ((rd_T108 x0 x3).f0) > 600 then (some false) else (if ((rd_T108 x0 x3).f1) < (-600) then (some false) else (if ((rd_T108 x0 x3).f1) > 600 then (some false) else (Zat.l0 k x0 (wrap64 (x3 + 1))))))) else (none)) else (some true)
def Zat.f (k : Nat) (l0 : List (S108)) : Option (Bool) := Zat.l0 k l0 0
theorem Zat.calls (k : Nat) (A0 : Option Addr) (c0 : Nat) (l0 : List (S108)) (r : Bool) (w : World) (hr0 : Kd.C k108 w A0 l0.length l0) (hc0 : l0.length ≤ c0) (h : Zat.f k l0 = some r) :
  Calls Tryz.prog 131 #[.slice A0 l0.length c0] w fun e w' => e = .returned (.bool r) ∧ Drawn0 w w' := by
 have HR0 := am hr0
 have HC0 := am hc0
 clear hr0 hc0
 have H : (Zat.l0 k l0 0) = some r := h
 clear h
 have H' := am H
 clear H
 go_enter Tryz.func131, Tryz.ntmps131
 go_wp2
 go_loopg [3] k (fun kq v3 w' => ∃ (x3_1 : Int), v3 = .int .i64 x3_1 ∧ Aside0 (Zat.l0 kq l0 x3_1 = some r) ∧ Aside0 (kq ≤ k) ∧ Drawn0 w w')
 case atStart => exact ⟨(0), (by first | rfl | (simp; done) | simp [*]), H', ⟨Nat.le_refl _⟩, by repeat (first | exact Drawn0.refl _ | apply Drawn0.step)⟩
 case round =>
  clear H'
  try clear c1
  obtain ⟨x3_1, rfl, HA, HK1, ⟨m1, rfl⟩⟩ := hrel
  cases gk with
  | zero => exact absurd HA.out (by simp [Zat.l0])
  | succ k1 =>
   have H := HA.out
   clear HA
   simp only [Zat.l0] at H
   by_cases c2 : x3_1 < (l0.length : Int)
   rotate_left
   ·rw [if_neg c2] at H
    have c2b0 : decide (x3_1 < (l0.length : Int)) = false := df c2
    clear c2
    obtain rfl := Option.some.inj H
    go_wp2
    go_ret
    exact ⟨by first | rfl | (simp; done) | (simp [*]; done), by repeat (first | exact Drawn0.refl _ | apply Drawn0.step)⟩
   rw [if_pos c2] at H
   have c2b0 : decide (x3_1 < (l0.length : Int)) = true := de c2
   clear c2
   by_cases c3 : 0 ≤ x3_1
   rotate_left
   ·rw [if_neg c3] at H
    exact absurd H (by simp)
   rw [if_pos c3] at H
   have c3b0 : decide (0 ≤ x3_1) = true := de c3
   clear c3
   by_cases c4 : ((rd_T108 l0 x3_1).f0) < (-600)
   ·rw [if_pos c4] at H
    have c4b0 : decide (((rd_T108 l0 x3_1).f0) < (-600)) = true := de c4
    clear c4
    obtain rfl := Option.some.inj H
    have p188 : 0 ≤ (x3_1 : Int) := od (by with_reducible assumption)
    have q188 : x3_1 < (l0.length : Int) := od (by with_reducible assumption)
    obtain ⟨ad188, e188, hx188_0, hx188_1⟩ := at_T108 HR0.out x3_1 p188 q188
    cases e188
    replace p188 := eq_true p188
    replace q188 := eq_true q188
    go_wp2
    go_ret
    exact ⟨by first | rfl | (simp; done) | (simp [*]; done), by repeat (first | exact Drawn0.refl _ | apply Drawn0.step)⟩
   rw [if_neg c4] at H
   have c4b0 : decide (((rd_T108 l0 x3_1).f0) < (-600)) = false := df c4
   clear c4
   by_cases c5 : ((rd_T108 l0 x3_1).f0) > 600
   ·rw [if_pos c5] at H
    have c5b0 : decide (600 < ((rd_T108 l0 x3_1).f0)) = true := de c5
    clear c5
    obtain rfl := Option.some.inj H
    have p188 : 0 ≤ (x3_1 : Int) := od (by with_reducible assumption)
    have q188 : x3_1 < (l0.length : Int) := od (by with_reducible assumption)
    obtain ⟨ad188, e188, hx188_0, hx188_1⟩ := at_T108 HR0.out x3_1 p188 q188
    cases e188
    replace p188 := eq_true p188
    replace q188 := eq_true q188
    have p189 : 0 ≤ (x3_1 : Int) := od (by with_reducible assumption)
    have q189 : x3_1 < (l0.length : Int) := od (by with_reducible assumption)
    obtain ⟨ad189, e189, hx189_0, hx189_1⟩ := at_T108 HR0.out x3_1 p189 q189
    obtain rfl : ad188 = ad189 := (by injection e189)
    replace p189 := eq_true p189
    replace q189 := eq_true q189
    go_wp2
    go_ret
    exact ⟨by first | rfl | (simp; done) | (simp [*]; done), by repeat (first | exact Drawn0.refl _ | apply Drawn0.step)⟩
   rw [if_neg c5] at H
   have c5b0 : decide (600 < ((rd_T108 l0 x3_1).f0)) = false := df c5
   clear c5
   by_cases c6 : ((rd_T108 l0 x3_1).f1) < (-600)
   ·rw [if_pos c6] at H
    have c6b0 : decide (((rd_T108 l0 x3_1).f1) < (-600)) = true := de c6
    clear c6
    obtain rfl := Option.some.inj H
    have p188 : 0 ≤ (x3_1 : Int) := od (by with_reducible assumption)
    have q188 : x3_1 < (l0.length : Int) := od (by with_reducible assumption)
    obtain ⟨ad188, e188, hx188_0, hx188_1⟩ := at_T108 HR0.out x3_1 p188 q188
    cases e188
    replace p188 := eq_true p188
    replace q188 := eq_true q188
    have p189 : 0 ≤ (x3_1 : Int) := od (by with_reducible assumption)
    have q189 : x3_1 < (l0.length : Int) := od (by with_reducible assumption)
    obtain ⟨ad189, e189, hx189_0, hx189_1⟩ := at_T108 HR0.out x3_1 p189 q189
    obtain rfl : ad188 = ad189 := (by injection e189)
    replace p189 := eq_true p189
    replace q189 := eq_true q189
    have p190 : 0 ≤ (x3_1 : Int) := od (by with_reducible assumption)
    have q190 : x3_1 < (l0.length : Int) := od (by with_reducible assumption)
    obtain ⟨ad190, e190, hx190_0, hx190_1⟩ := at_T108 HR0.out x3_1 p190 q190
    obtain rfl : ad188 = ad190 := (by injection e190)
    replace p190 := eq_true p190
    replace q190 := eq_true q190
    go_wp2
    go_ret
    exact ⟨by first | rfl | (simp; done) | (simp [*]; done), by repeat (first | exact Drawn0.refl _ | apply Drawn0.step)⟩
   rw [if_neg c6] at H
   have c6b0 : decide (((rd_T108 l0 x3_1).f1) < (-600)) = false := df c6
   clear c6
   by_cases c7 : ((rd_T108 l0 x3_1).f1) > 600
   ·rw [if_pos c7] at H
    have c7b0 : decide (600 < ((rd_T108 l0 x3_1).f1)) = true := de c7
    clear c7
    obtain rfl := Option.some.inj H
    have p188 : 0 ≤ (x3_1 : Int) := od (by with_reducible assumption)
    have q188 : x3_1 < (l0.length : Int) := od (by with_reducible assumption)
    obtain ⟨ad188, e188, hx188_0, hx188_1⟩ := at_T108 HR0.out x3_1 p188 q188
    cases e188
    replace p188 := eq_true p188
    replace q188 := eq_true q188
    have p189 : 0 ≤ (x3_1 : Int) := od (by with_reducible assumption)
    have q189 : x3_1 < (l0.length : Int) := od (by with_reducible assumption)
    obtain ⟨ad189, e189, hx189_0, hx189_1⟩ := at_T108 HR0.out x3_1 p189 q189
    obtain rfl : ad188 = ad189 := (by injection e189)
    replace p189 := eq_true p189
    replace q189 := eq_true q189
    have p190 : 0 ≤ (x3_1 : Int) := od (by with_reducible assumption)
    have q190 : x3_1 < (l0.length : Int) := od (by with_reducible assumption)
    obtain ⟨ad190, e190, hx190_0, hx190_1⟩ := at_T108 HR0.out x3_1 p190 q190
    obtain rfl : ad188 = ad190 := (by injection e190)
    replace p190 := eq_true p190
    replace q190 := eq_true q190
    have p191 : 0 ≤ (x3_1 : Int) := od (by with_reducible assumption)
    have q191 : x3_1 < (l0.length : Int) := od (by with_reducible assumption)
    obtain ⟨ad191, e191, hx191_0, hx191_1⟩ := at_T108 HR0.out x3_1 p191 q191
    obtain rfl : ad188 = ad191 := (by injection e191)
    replace p191 := eq_true p191
    replace q191 := eq_true q191
    go_wp2
    go_ret
    exact ⟨by first | rfl | (simp; done) | (simp [*]; done), by repeat (first | exact Drawn0.refl _ | apply Drawn0.step)⟩
   rw [if_neg c7] at H
   have c7b0 : decide (600 < ((rd_T108 l0 x3_1).f1)) = false := df c7
   clear c7
   have H' := am H
   clear H
   have p188 : 0 ≤ (x3_1 : Int) := od (by with_reducible assumption)
   have q188 : x3_1 < (l0.length : Int) := od (by with_reducible assumption)
   obtain ⟨ad188, e188, hx188_0, hx188_1⟩ := at_T108 HR0.out x3_1 p188 q188
   cases e188
   replace p188 := eq_true p188
   replace q188 := eq_true q188
   have p189 : 0 ≤ (x3_1 : Int) := od (by with_reducible assumption)
   have q189 : x3_1 < (l0.length : Int) := od (by with_reducible assumption)
   obtain ⟨ad189, e189, hx189_0, hx189_1⟩ := at_T108 HR0.out x3_1 p189 q189
   obtain rfl : ad188 = ad189 := (by injection e189)
   replace p189 := eq_true p189
   replace q189 := eq_true q189
   have p190 : 0 ≤ (x3_1 : Int) := od (by with_reducible assumption)
   have q190 : x3_1 < (l0.length : Int) := od (by with_reducible assumption)
   obtain ⟨ad190, e190, hx190_0, hx190_1⟩ := at_T108 HR0.out x3_1 p190 q190
   obtain rfl : ad188 = ad190 := (by injection e190)
   replace p190 := eq_true p190
   replace q190 := eq_true q190
   have p191 : 0 ≤ (x3_1 : Int) := od (by with_reducible assumption)
   have q191 : x3_1 < (l0.length : Int) := od (by with_reducible assumption)
   obtain ⟨ad191, e191, hx191_0, hx191_1⟩ := at_T108 HR0.out x3_1 p191 q191
   obtain rfl : ad188 = ad191 := (by injection e191)
   replace p191 := eq_true p191
   replace q191 := eq_true q191
   go_wp2
   go_roundg k1
   case measure => have := HK1.out; omega
   case rel => exact ⟨(wrap64 (x3_1 + 1)), (by first | rfl | (simp; done) | simp [*]), H', ⟨by have := HK1.out; omega⟩, by repeat (first | exact Drawn0.refl _ | apply Drawn0.step)⟩
mutual
def Zbb.l0 : Nat → Int → Int → List (S110) → Option (Int)
 | 0, _, _, _ => none
 | k + 1, x3, x193000, x193001 => if x3 < (x193001.length : Int) then (if 0 ≤ x3 then (if (rd_T110 x193001 x3).f1 = true then ((Zat.f k (([(⟨(rd_T110 x193001 x3).f0.f0, (rd_T110 x193001 x3).f0.f1⟩ : S108)] : List (S108)))).bind fun t198 => (Zbb.j1 k x3 (!t198) x193000 x193001 ((rd_T110 x193001 x3).f0.f0) ((rd_T110 x193001 x3).f0.f1) ((rd_T110 x193001 x3).f1))) else (Zbb.j1 k x3 false x193000 x193001 ((rd_T110 x193001 x3).f0.f0) ((rd_T110 x193001 x3).f0.f1) ((rd_T110 x193001 x3).f1))) else (none)) else (some 0)
def Zbb.j1 : Nat → Int → Bool → Int → List (S110) → Int → Int → Bool → Option (Int)
 | 0, _, _, _, _, _, _, _ => none
 | k + 1, x3, x44, x193000, x193001, x195000, x195001, x195002 => if x44 = true then (some 9) else (if x195002 = true then (Zbb.l0 k (wrap64 (x3 + 1)) x193000 x193001) else (if (!(x195000 == 0) || (!(x195001 == 0))) = true then (some 19) else (Zbb.l0 k (wrap64 (x3 + 1)) x193000 x193001)))
end
def Zbb.f (k : Nat) (a0_0 : Int) (l0_1 : List (S110)) : Option (Int) := if (l0_1.length : Int) < 8 then (some 3) else (if (l0_1.length : Int) > 32 then (some 4) else (if a0_0 < 0 then (some 9) else (if a0_0 > 20000 then (some 9) else (Zbb.l0 k 0 a0_0 l0_1))))
theorem Zbb.calls (k : Nat) (a0_0 : Int) (A0_1 : Option Addr) (c0_1 : Nat) (l0_1 : List (S110)) (r : Int) (w : World) (hr0_1 : Kd.C k110 w A0_1 l0_1.length l0_1) (hc0_1 : l0_1.length ≤ c0_1) (h : Zbb.f k a0_0 l0_1 = some r) :
  Calls Tryz.prog 116 #[.agg #[.int .i64 a0_0, .slice A0_1 l0_1.length c0_1]] w fun e w' => e = .returned (.int .i64 r) ∧ Below w.heap.size w w' := by
 have hu106 := Tryz.underlying106
 have hu110 := Tryz.underlying110
 have hu108 := Tryz.underlying108
 have HR0_1 := am hr0_1
 have HC0_1 := am hc0_1
 clear hr0_1 hc0_1
 have HB := am (Below.refl w.heap.size w)
 have H : (if (l0_1.length : Int) < 8 then (some 3) else (if (l0_1.length : Int) > 32 then (some 4) else (if a0_0 < 0 then (some 9) else (if a0_0 > 20000 then (some 9) else (Zbb.l0 k 0 a0_0 l0_1))))) = some r := h
 clear h
 by_cases c2 : (l0_1.length : Int) < 8
 ·rw [if_pos c2] at H
  have c2b0 : decide ((l0_1.length : Int) < 8) = true := de c2
  have c2b1 : decide (l0_1.length < 8) = true := decide_eq_true (by omega)
  clear c2
  obtain rfl := Option.some.inj H
  go_enter Tryz.func116, Tryz.ntmps116
  go_wp2_with (first | ((with_reducible refine gate_dst (N := 1) rfl ?_); (try (refine gate_guard (by rfl) ?_; dsimp only)); refine box_event ?hg (N := 1) ?hd (cs := #[.int .i64 a0_0, .slice A0_1 l0_1.length c0_1]) (t := 106) ?hr ?_; (case hd => rfl); (case hg => rfl); (case hr => go_simp <;> rfl); intro gb192 hg w3 hbox hb; have BK192 := am hbox; have GW192 := gef hg HB.out; have GE192 := gef hg HB.out; replace HB := bs HB.out hb; clear hb hbox hg; obtain ⟨hcz4_0, hcz4_1, hfz4_0, hfz4_1⟩ := bk2 BK192.out))
  go_ret
  exact ⟨by rfl, vb HB.out⟩
 rw [if_neg c2] at H
 have c2b0 : decide ((l0_1.length : Int) < 8) = false := df c2
 have c2b1 : decide (l0_1.length < 8) = false := decide_eq_false (by omega)
 clear c2
 by_cases c5 : (l0_1.length : Int) > 32
 ·rw [if_pos c5] at H
  have c5b0 : decide (32 < (l0_1.length : Int)) = true := de c5
  have c5b1 : decide (32 < l0_1.length) = true := decide_eq_true (by omega)
  clear c5
  obtain rfl := Option.some.inj H
  go_enter Tryz.func116, Tryz.ntmps116
  go_wp2_with (first | ((with_reducible refine gate_dst (N := 1) rfl ?_); (try (refine gate_guard (by rfl) ?_; dsimp only)); refine box_event ?hg (N := 1) ?hd (cs := #[.int .i64 a0_0, .slice A0_1 l0_1.length c0_1]) (t := 106) ?hr ?_; (case hd => rfl); (case hg => rfl); (case hr => go_simp <;> rfl); intro gb192 hg w6 hbox hb; have BK192 := am hbox; have GW192 := gef hg HB.out; have GE192 := gef hg HB.out; replace HB := bs HB.out hb; clear hb hbox hg; obtain ⟨hcz7_0, hcz7_1, hfz7_0, hfz7_1⟩ := bk2 BK192.out))
  go_ret
  exact ⟨by rfl, vb HB.out⟩
 rw [if_neg c5] at H
 have c5b0 : decide (32 < (l0_1.length : Int)) = false := df c5
 have c5b1 : decide (32 < l0_1.length) = false := decide_eq_false (by omega)
 clear c5
 by_cases c8 : a0_0 < 0
 ·rw [if_pos c8] at H
  have c8b0 : decide (a0_0 < 0) = true := de c8
  clear c8
  obtain rfl := Option.some.inj H
  go_enter Tryz.func116, Tryz.ntmps116
  go_wp2_with (first | ((with_reducible refine gate_dst (N := 1) rfl ?_); (try (refine gate_guard (by rfl) ?_; dsimp only)); refine box_event ?hg (N := 1) ?hd (cs := #[.int .i64 a0_0, .slice A0_1 l0_1.length c0_1]) (t := 106) ?hr ?_; (case hd => rfl); (case hg => rfl); (case hr => go_simp <;> rfl); intro gb192 hg w9 hbox hb; have BK192 := am hbox; have GW192 := gef hg HB.out; have GE192 := gef hg HB.out; replace HB := bs HB.out hb; clear hb hbox hg; obtain ⟨hcz10_0, hcz10_1, hfz10_0, hfz10_1⟩ := bk2 BK192.out))
  go_ret
  exact ⟨by rfl, vb HB.out⟩
 rw [if_neg c8] at H
 have c8b0 : decide (a0_0 < 0) = false := df c8
 clear c8
 by_cases c11 : a0_0 > 20000
 ·rw [if_pos c11] at H
  have c11b0 : decide (20000 < a0_0) = true := de c11
  clear c11
  obtain rfl := Option.some.inj H
  go_enter Tryz.func116, Tryz.ntmps116
  go_wp2_with (first | ((with_reducible refine gate_dst (N := 1) rfl ?_); (try (refine gate_guard (by rfl) ?_; dsimp only)); refine box_event ?hg (N := 1) ?hd (cs := #[.int .i64 a0_0, .slice A0_1 l0_1.length c0_1]) (t := 106) ?hr ?_; (case hd => rfl); (case hg => rfl); (case hr => go_simp <;> rfl); intro gb192 hg w12 hbox hb; have BK192 := am hbox; have GW192 := gef hg HB.out; have GE192 := gef hg HB.out; replace HB := bs HB.out hb; clear hb hbox hg; obtain ⟨hcz13_0, hcz13_1, hfz13_0, hfz13_1⟩ := bk2 BK192.out))
  go_ret
  exact ⟨by rfl, vb HB.out⟩
 rw [if_neg c11] at H
 have c11b0 : decide (20000 < a0_0) = false := df c11
 clear c11
 have H' := am H
 clear H
 go_enter Tryz.func116, Tryz.ntmps116
 go_wp2_with (first | ((with_reducible refine gate_dst (N := 1) rfl ?_); (try (refine gate_guard (by rfl) ?_; dsimp only)); refine box_event ?hg (N := 1) ?hd (cs := #[.int .i64 a0_0, .slice A0_1 l0_1.length c0_1]) (t := 106) ?hr ?_; (case hd => rfl); (case hg => rfl); (case hr => go_simp <;> rfl); intro gb192 hg w14 hbox hb; have BK192 := am hbox; have GW192 := gef hg HB.out; have GE192 := gef hg HB.out; replace HB := bs HB.out hb; clear hb hbox hg; obtain ⟨hcz15_0, hcz15_1, hfz15_0, hfz15_1⟩ := bk2 BK192.out))
 go_loopg [3] k (fun kq v3 w' => ∃ (x3_1 : Int), v3 = .int .i64 x3_1 ∧ Aside0 (Zbb.l0 kq x3_1 a0_0 l0_1 = some r) ∧ Aside0 (kq ≤ k) ∧ Aside0 (w'.heap[gb192]? = some (.cells #[.int .i64 a0_0, (.slice A0_1 l0_1.length c0_1)] 106 (0, 0))) ∧ Aside0 (Below w.heap.size w w'))
 case atStart => exact ⟨(0), (by first | rfl | (simp; done) | simp [*]), H', ⟨Nat.le_refl _⟩, ⟨vk BK192.out⟩, ⟨vb HB.out⟩⟩
 case round =>
  clear H'
  (try clear c1); (try clear c2); (try clear c2b0); (try clear c2b1); (try clear p2); (try clear c5); (try clear c5b0); (try clear c5b1); (try clear c8); (try clear c8b0); (try clear c11); (try clear c11b0); (try clear hcz10_0); (try clear hcz10_1); (try clear hcz13_0); (try clear hcz13_1); (try clear hcz15_0); (try clear hcz15_1); (try clear hcz4_0); (try clear hcz4_1); (try clear hcz7_0); (try clear hcz7_1); (try clear hfz10_0); (try clear hfz10_1); (try clear hfz13_0); (try clear hfz13_1); (try clear hfz15_0); (try clear hfz15_1); (try clear hfz4_0); (try clear hfz4_1); (try clear hfz7_0); (try clear hfz7_1)
  obtain ⟨x3_1, rfl, HA, HK1, BK192, HB⟩ := hrel
  cases gk with
  | zero => exact absurd HA.out (by simp [Zbb.l0])
  | succ k1 =>
   have H := HA.out
   clear HA
   simp only [Zbb.l0] at H
   by_cases c16 : x3_1 < (l0_1.length : Int)
   rotate_left
   ·rw [if_neg c16] at H
    have c16b0 : decide (x3_1 < (l0_1.length : Int)) = false := df c16
    clear c16
    obtain rfl := Option.some.inj H
    obtain ⟨hcz42_0, hcz42_1, hfz42_0, hfz42_1⟩ := bk2 BK192.out
    go_wp2
    go_ret
    exact ⟨by rfl, vb HB.out⟩
   rw [if_pos c16] at H
   have c16b0 : decide (x3_1 < (l0_1.length : Int)) = true := de c16
   clear c16
   by_cases c17 : 0 ≤ x3_1
   rotate_left
   ·rw [if_neg c17] at H
    exact absurd H (by simp)
   rw [if_pos c17] at H
   have c17b0 : decide (0 ≤ x3_1) = true := de c17
   clear c17
   have HC18 := am H
   clear H
   obtain ⟨hcz19_0, hcz19_1, hfz19_0, hfz19_1⟩ := bk2 BK192.out
   have p193 : 0 ≤ (x3_1 : Int) := od (by with_reducible assumption)
   have q193 : x3_1 < (l0_1.length : Int) := od (by with_reducible assumption)
   obtain ⟨ad193, e193, hx193_0, hx193_1, hx193_2⟩ := at_T110 HR0_1.out x3_1 p193 q193
   cases e193
   replace hx193_0 := cb HB.out hx193_0
   replace hx193_1 := cb HB.out hx193_1
   replace hx193_2 := cb HB.out hx193_2
   replace p193 := eq_true p193
   replace q193 := eq_true q193
   go_upto_region 11 with (first | ((with_reducible refine gate_dst (N := 4) rfl ?_); (try (refine gate_guard (by rfl) ?_; dsimp only)); refine box_event ?hg (N := 4) ?hd (cs := #[.int .i64 0, .int .i64 0, .bool false]) (t := 110) ?hr ?_; (case hd => rfl); (case hg => rfl); (case hr => go_simp <;> rfl); intro gb194 hg w20 hbox hb; have BK194 := am hbox; have GW194 := gef hg HB.out; have GE194 := gef hg HB.out; replace HB := bs HB.out hb; have NB192_194 := nl hg BK192.out; have NB194_192 := ng hg BK192.out; replace BK192 := kb BK192.out hb; clear hb hbox hg; have hnb21 := NB194_192.out; have hnc21 := NB192_194.out; obtain ⟨hcz22_0, hcz22_1, hcz22_2, hfz22_0, hfz22_1, hfz22_2⟩ := bk3 BK194.out))
   (try simp only [Act.put, List.setIfInBounds_toArray, List.set_cons_zero, List.set_cons_succ])
   go_cut [44] (fun v44 wc => ∃ (kq : Nat) (x44_17 : Bool), v44 = .bool x44_17 ∧ Aside0 (Zbb.j1 kq x3_1 x44_17 a0_0 l0_1 ((rd_T110 l0_1 x3_1).f0.f0) ((rd_T110 l0_1 x3_1).f0.f1) ((rd_T110 l0_1 x3_1).f1) = some r) ∧ Aside0 (kq ≤ k1) ∧ Aside0 (wc.heap[gb192]? = some (.cells #[.int .i64 a0_0, (.slice (some ad193) l0_1.length c0_1)] 106 (0, 0))) ∧ Aside0 (wc.heap[gb194]? = some (.cells #[.int .i64 ((rd_T110 l0_1 x3_1).f0.f0), .int .i64 ((rd_T110 l0_1 x3_1).f0.f1), .bool ((rd_T110 l0_1 x3_1).f1)] 110 (0, 0))) ∧ Aside0 (Below w.heap.size w wc))
   case first =>
    have H := HC18.out
    clear HC18
    obtain ⟨bq23, hbq23⟩ : ∃ b_ : Bool, b_ = ((rd_T110 l0_1 x3_1).f1) := ⟨_, rfl⟩
    replace H : (if bq23 = true then ((Zat.f k1 (([(⟨(rd_T110 l0_1 x3_1).f0.f0, (rd_T110 l0_1 x3_1).f0.f1⟩ : S108)] : List (S108)))).bind fun t198 => (Zbb.j1 k1 x3_1 (!t198) a0_0 l0_1 ((rd_T110 l0_1 x3_1).f0.f0) ((rd_T110 l0_1 x3_1).f0.f1) bq23)) else (Zbb.j1 k1 x3_1 false a0_0 l0_1 ((rd_T110 l0_1 x3_1).f0.f0) ((rd_T110 l0_1 x3_1).f0.f1) bq23)) = some r := by rw [← hbq23] at H; exact H
    have Nbq23 := am hbq23
    clear hbq23
    (try rw [← Nbq23.out])
    by_cases c24 : bq23 = true
    rotate_left
    ·replace c24 := Bool.eq_false_iff.mpr c24
     subst c24
     rw [if_neg (show ¬ (false = true) by decide)] at H
     have H' := am H
     clear H
     have hnb31 := NB194_192.out
     have hnc31 := NB192_194.out
     obtain ⟨hcz32_0, hcz32_1, hcz32_2, hfz32_0, hfz32_1, hfz32_2⟩ := bk3 BK194.out
     go_wp2
     go_meet
     case rel => rw [← Nbq23.out]; exact ⟨_, (false), (by first | rfl | (simp; done) | simp [*]), H', ⟨by have := HK1.out; first | omega | exact Nat.le_refl _⟩, ⟨by exact vt (bf (vt (bf (vt (bf (vt BK192.out) NB192_194.out)) NB192_194.out)) NB192_194.out)⟩, ⟨by exact (vt (bp (vt (bp (vt (bp (vt BK194.out) 0)) 1)) 2)).trans rfl⟩, ⟨vb HB.out⟩⟩
    subst c24
    rw [if_pos rfl] at H
    obtain ⟨y195, hy195⟩ : ∃ y_ : List (S108), y_ = (([(⟨(rd_T110 l0_1 x3_1).f0.f0, (rd_T110 l0_1 x3_1).f0.f1⟩ : S108)] : List (S108))) := ⟨_, rfl⟩
    replace H : ((Zat.f k1 y195).bind fun t198 => (Zbb.j1 k1 x3_1 (!t198) a0_0 l0_1 ((rd_T110 l0_1 x3_1).f0.f0) ((rd_T110 l0_1 x3_1).f0.f1) true)) = some r := by first | (rw [hy195]; with_reducible exact H) | (have H2_ := (Option.bind_some _ _).symm.trans H; rw [hy195]; with_reducible exact H2_) | (have H2_ := (Option.bind_some _ _).symm.trans H; with_reducible exact H2_) | with_reducible exact H | (rw [hy195]; exact H) | exact H
    have Ny195 := am hy195
    clear hy195
    replace H := be H
    obtain ⟨t198, A250, H⟩ := H
    try dsimp only at H
    have A25 := am A250
    clear A250
    have H' := am H
    clear H
    have hnb26 := NB194_192.out
    have hnc26 := NB192_194.out
    obtain ⟨hcz27_0, hcz27_1, hcz27_2, hfz27_0, hfz27_1, hfz27_2⟩ := bk3 BK194.out
    go_wp2_with (first | ((with_reducible refine gate_dst (N := 41) rfl ?_); (try (refine gate_guard (by rfl) ?_; dsimp only)); refine Kd.R_lit k108 _ 108 ?hg (N := 41) ?hd (xs := ([(⟨(rd_T110 l0_1 x3_1).f0.f0, (rd_T110 l0_1 x3_1).f0.f1⟩ : S108)] : List (S108))) (inner := [.int .i64 ((rd_T110 l0_1 x3_1).f0.f0), .int .i64 ((rd_T110 l0_1 x3_1).f0.f1)]) (ok := fun _ => True) (okp := fun _ => True) ?hr ?hp (fun _ hk => hk) trivial (Below.refl _ _) (Nat.le_refl _) (by simp) ?_; (case hd => rfl); (case hg => rfl); (case hr => go_simp <;> rfl); (case hp => exact (Reps.c2 (show Kd.M k108 _ _ _ (⟨(rd_T110 l0_1 x3_1).f0.f0, (rd_T110 l0_1 x3_1).f0.f1⟩ : S108) [.int .i64 ((rd_T110 l0_1 x3_1).f0.f0), .int .i64 ((rd_T110 l0_1 x3_1).f0.f1)] from (k108_mkM _ _ _ (⟨(rd_T110 l0_1 x3_1).f0.f0, (rd_T110 l0_1 x3_1).f0.f1⟩ : S108) )) (Reps.none _ _))); intro v196 w28 ho29 hb hg_ hnew_; clear hg_ hnew_; (first | rw [← Ny195.out] at ho29 | (simp only [Int.reduceToNat] at ho29; rw [← Ny195.out] at ho29)); have HO197 := am (Kd.R_lower ho29 (below_size (vb HB.out))); replace BK192 := am (blk_below (g := gb192) (o := .cells #[.int .i64 a0_0, .slice (some ad193) l0_1.length c0_1] 106 (0, 0)) (by exact vt (bf (vt (bf (vt (bf (vt BK192.out) NB192_194.out)) NB192_194.out)) NB192_194.out)) hb); replace BK194 := am (blk_below (g := gb194) (o := .cells #[.int .i64 ((rd_T110 l0_1 x3_1).f0.f0), .int .i64 ((rd_T110 l0_1 x3_1).f0.f1), .bool true] 110 (0, 0)) (by exact (vt (bp (vt (bp (vt (bp (vt BK194.out) 0)) 1)) 2)).trans rfl) hb); replace HB := bs HB.out hb; clear hb ho29; obtain ⟨Ao30, co30, eo30⟩ := Kd.R_slice HO197.out; subst eo30) | (go_at_call 131; (with_reducible refine (Zat.calls k1 _ _ y195 t198 _ ?side1 ?side2 A25.out).mono ?_); (case side1 => repeat (first | exact (Kd.R_reads' HO197.out).2.2 | (with_reducible refine Kd.C_alloc ?_ _) | (with_reducible refine Kd.C_drewN ?_ _) | (with_reducible refine Kd.C_drew ?_))); (case side2 => exact (Kd.R_reads' HO197.out).2.1); rintro e w' ⟨rfl, ⟨nd, rfl⟩⟩))
    go_meet
    case rel => rw [← Nbq23.out]; exact ⟨_, (!t198), (by first | rfl | (simp; done) | simp [*]), H', ⟨by have := HK1.out; first | omega | exact Nat.le_refl _⟩, ⟨vk BK192.out⟩, ⟨vk BK194.out⟩, ⟨vb HB.out⟩⟩
   case rest =>
    clear HC18
    (try clear c1); (try clear p1); (try clear q1); (try clear hx1); (try clear c2); (try clear c2b0); (try clear c2b1); (try clear p2); (try clear q2); (try clear c3); (try clear c5); (try clear c5b0); (try clear c5b1); (try clear c8); (try clear c8b0); (try clear c11); (try clear c11b0); (try clear c16); (try clear c16b0); (try clear c17); (try clear c17b0); (try clear p19); (try clear q19); (try clear hx19); (try clear c21); (try clear q23); (try clear c24); (try clear c26); (try clear c31); (try clear hcz10_0); (try clear hcz10_1); (try clear hcz13_0); (try clear hcz13_1); (try clear hcz15_0); (try clear hcz15_1); (try clear hcz19_0); (try clear hcz19_1); (try clear hcz22_0); (try clear hcz22_1); (try clear hcz22_2); (try clear hcz27_0); (try clear hcz27_1); (try clear hcz27_2); (try clear hcz32_0); (try clear hcz32_1); (try clear hcz32_2); (try clear hcz4_0); (try clear hcz4_1); (try clear hcz7_0); (try clear hcz7_1); (try clear hfz10_0); (try clear hfz10_1); (try clear hfz13_0); (try clear hfz13_1); (try clear hfz15_0); (try clear hfz15_1); (try clear hfz19_0); (try clear hfz19_1); (try clear hfz22_0); (try clear hfz22_1); (try clear hfz22_2); (try clear hfz27_0); (try clear hfz27_1); (try clear hfz27_2); (try clear hfz32_0); (try clear hfz32_1); (try clear hfz32_2); (try clear hfz4_0); (try clear hfz4_1); (try clear hfz7_0); (try clear hfz7_1); (try clear hx193_0); (try clear hx193_1); (try clear hx193_2); (try clear p193); (try clear p2); (try clear q193)
    obtain ⟨kq, x44_17, rfl, HA, HJ17, BK192, BK194, HB⟩ := hcut
    cases kq with
    | zero => exact absurd HA.out (by simp [Zbb.j1])
    | succ kj17 =>
     have H := HA.out
     clear HA
     simp only [Zbb.j1] at H
     by_cases c33 : x44_17 = true
     ·subst c33
      rw [if_pos rfl] at H
      obtain rfl := Option.some.inj H
      go_wp2
      go_ret
      exact ⟨by rfl, vb HB.out⟩
     replace c33 := Bool.eq_false_iff.mpr c33
     subst c33
     rw [if_neg (show ¬ (false = true) by decide)] at H
     by_cases c34 : ((rd_T110 l0_1 x3_1).f1) = true
     ·rw [if_pos c34] at H
      have c34b0 : ((rd_T110 l0_1 x3_1).f1) = true := c34
      clear c34
      have H' := am H
      clear H
      have hnb35 := NB194_192.out
      have hnc35 := NB192_194.out
      obtain ⟨hcz36_0, hcz36_1, hcz36_2, hfz36_0, hfz36_1, hfz36_2⟩ := bk3 BK194.out
      go_wp2
      go_roundg kj17
      case measure => have := HK1.out; have := HJ17.out; omega
      case rel => exact ⟨(wrap64 (x3_1 + 1)), (by first | rfl | (simp; done) | simp [*]), H', ⟨by have := HK1.out; have := HJ17.out; omega⟩, ⟨vk BK192.out⟩, ⟨vb HB.out⟩⟩
     rw [if_neg c34] at H
     have c34b0 : ((rd_T110 l0_1 x3_1).f1) = false := by simpa using c34
     clear c34
     by_cases c37 : (!(((rd_T110 l0_1 x3_1).f0.f0) == 0) || (!(((rd_T110 l0_1 x3_1).f0.f1) == 0))) = true
     ·rw [if_pos c37] at H
      have c37b0 : (!(((rd_T110 l0_1 x3_1).f0.f0) == 0) || (!(((rd_T110 l0_1 x3_1).f0.f1) == 0))) = true := c37
      clear c37
      obtain rfl := Option.some.inj H
      have hnb38 := NB194_192.out
      have hnc38 := NB192_194.out
      obtain ⟨hcz39_0, hcz39_1, hcz39_2, hfz39_0, hfz39_1, hfz39_2⟩ := bk3 BK194.out
      go_wp2
      go_ret
      exact ⟨by rfl, vb HB.out⟩
     rw [if_neg c37] at H
     have c37b0 : (!(((rd_T110 l0_1 x3_1).f0.f0) == 0) || (!(((rd_T110 l0_1 x3_1).f0.f1) == 0))) = false := by simpa using c37
     clear c37
     have H' := am H
     clear H
     have hnb40 := NB194_192.out
     have hnc40 := NB192_194.out
     obtain ⟨hcz41_0, hcz41_1, hcz41_2, hfz41_0, hfz41_1, hfz41_2⟩ := bk3 BK194.out
     go_wp2
     go_roundg kj17
     case measure => have := HK1.out; have := HJ17.out; omega
     case rel => exact ⟨(wrap64 (x3_1 + 1)), (by first | rfl | (simp; done) | simp [*]), H', ⟨by have := HK1.out; have := HJ17.out; omega⟩, ⟨vk BK192.out⟩, ⟨vb HB.out⟩⟩
def Zbd.f (a0_0 : Int) (a0_1 : Int) (a0_2 : Int) (a0_3 : Int) (a0_4 : Int) (a0_5 : Int) : Option (Bool) := if a0_0 ≥ a0_1 then (some true) else (if a0_2 ≥ a0_3 then (some true) else (some (decide (a0_4 ≥ a0_5))))
theorem Zbd.calls (a0_0 : Int) (a0_1 : Int) (a0_2 : Int) (a0_3 : Int) (a0_4 : Int) (a0_5 : Int) (r : Bool) (w : World) (h : Zbd.f a0_0 a0_1 a0_2 a0_3 a0_4 a0_5 = some r) :
  Calls Tryz.prog 132 #[.agg #[.int .i64 a0_0, .int .i64 a0_1, .int .i64 a0_2, .int .i64 a0_3, .int .i64 a0_4, .int .i64 a0_5]] w fun e w' => e = .returned (.bool r) ∧ Below w.heap.size w w' := by
 have hu163 := Tryz.underlying163
 have HB := am (Below.refl w.heap.size w)
 have H : (if a0_0 ≥ a0_1 then (some true) else (if a0_2 ≥ a0_3 then (some true) else (some (decide (a0_4 ≥ a0_5))))) = some r := h
 clear h
 by_cases c2 : a0_0 ≥ a0_1
 ·rw [if_pos c2] at H
  have c2b0 : decide (a0_1 ≤ a0_0) = true := de c2
  clear c2
  obtain rfl := Option.some.inj H
  go_enter Tryz.func132, Tryz.ntmps132
  go_wp2_with (first | ((with_reducible refine gate_dst (N := 1) rfl ?_); refine box_event ?hg (N := 1) ?hd (cs := #[.int .i64 a0_0, .int .i64 a0_1, .int .i64 a0_2, .int .i64 a0_3, .int .i64 a0_4, .int .i64 a0_5]) (t := 163) ?hr ?_; (case hd => rfl); (case hg => rfl); (case hr => go_simp <;> rfl); intro gb199 hg w3 hbox hb; have BK199 := am hbox; have GW199 := gef hg HB.out; have GE199 := gef hg HB.out; replace HB := bs HB.out hb; clear hb hbox hg; obtain ⟨hcz4_0, hcz4_1, hcz4_2, hcz4_3, hcz4_4, hcz4_5, hfz4_0, hfz4_1, hfz4_2, hfz4_3, hfz4_4, hfz4_5⟩ := bk6 BK199.out))
  go_ret
  exact ⟨by rfl, vb HB.out⟩
 rw [if_neg c2] at H
 have c2b0 : decide (a0_1 ≤ a0_0) = false := df c2
 clear c2
 by_cases c5 : a0_2 ≥ a0_3
 ·rw [if_pos c5] at H
  have c5b0 : decide (a0_3 ≤ a0_2) = true := de c5
  clear c5
  obtain rfl := Option.some.inj H
  go_enter Tryz.func132, Tryz.ntmps132
  go_wp2_with (first | ((with_reducible refine gate_dst (N := 1) rfl ?_); refine box_event ?hg (N := 1) ?hd (cs := #[.int .i64 a0_0, .int .i64 a0_1, .int .i64 a0_2, .int .i64 a0_3, .int .i64 a0_4, .int .i64 a0_5]) (t := 163) ?hr ?_; (case hd => rfl); (case hg => rfl); (case hr => go_simp <;> rfl); intro gb199 hg w6 hbox hb; have BK199 := am hbox; have GW199 := gef hg HB.out; have GE199 := gef hg HB.out; replace HB := bs HB.out hb; clear hb hbox hg; obtain ⟨hcz7_0, hcz7_1, hcz7_2, hcz7_3, hcz7_4, hcz7_5, hfz7_0, hfz7_1, hfz7_2, hfz7_3, hfz7_4, hfz7_5⟩ := bk6 BK199.out))
  go_ret
  exact ⟨by rfl, vb HB.out⟩
 rw [if_neg c5] at H
 have c5b0 : decide (a0_3 ≤ a0_2) = false := df c5
 clear c5
 obtain rfl := Option.some.inj H
 go_enter Tryz.func132, Tryz.ntmps132
 go_wp2_with (first | ((with_reducible refine gate_dst (N := 1) rfl ?_); refine box_event ?hg (N := 1) ?hd (cs := #[.int .i64 a0_0, .int .i64 a0_1, .int .i64 a0_2, .int .i64 a0_3, .int .i64 a0_4, .int .i64 a0_5]) (t := 163) ?hr ?_; (case hd => rfl); (case hg => rfl); (case hr => go_simp <;> rfl); intro gb199 hg w8 hbox hb; have BK199 := am hbox; have GW199 := gef hg HB.out; have GE199 := gef hg HB.out; replace HB := bs HB.out hb; clear hb hbox hg; obtain ⟨hcz9_0, hcz9_1, hcz9_2, hcz9_3, hcz9_4, hcz9_5, hfz9_0, hfz9_1, hfz9_2, hfz9_3, hfz9_4, hfz9_5⟩ := bk6 BK199.out))
 go_ret
 exact ⟨by rfl, vb HB.out⟩
def Zbq.f (a0_0 : Int) (a0_1 : Int) (a1 : Int) (a2 : Int) : Option (Bool) := if a1 ≤ a0_0 then (some (decide (a0_1 ≤ a2))) else (some false)
theorem Zbq.calls (a0_0 : Int) (a0_1 : Int) (a1 : Int) (a2 : Int) (r : Bool) (w : World) (h : Zbq.f a0_0 a0_1 a1 a2 = some r) :
  Calls Tryz.prog 141 #[.agg #[.int .i64 a0_0, .int .i64 a0_1], .int .i64 a1, .int .i64 a2] w fun e w' => e = .returned (.bool r) ∧ Below w.heap.size w w' := by
 have hu161 := Tryz.underlying161
 have HB := am (Below.refl w.heap.size w)
 have H : (if a1 ≤ a0_0 then (some (decide (a0_1 ≤ a2))) else (some false)) = some r := h
 clear h
 by_cases c4 : a1 ≤ a0_0
 ·rw [if_pos c4] at H
  have c4b0 : decide (a1 ≤ a0_0) = true := de c4
  clear c4
  obtain rfl := Option.some.inj H
  go_enter Tryz.func141, Tryz.ntmps141
  go_wp2_with (first | ((with_reducible refine gate_dst (N := 3) rfl ?_); refine box_event ?hg (N := 3) ?hd (cs := #[.int .i64 a0_0, .int .i64 a0_1]) (t := 161) ?hr ?_; (case hd => rfl); (case hg => rfl); (case hr => go_simp <;> rfl); intro gb200 hg w5 hbox hb; have BK200 := am hbox; have GW200 := gef hg HB.out; have GE200 := gef hg HB.out; replace HB := bs HB.out hb; clear hb hbox hg; obtain ⟨hcz6_0, hcz6_1, hfz6_0, hfz6_1⟩ := bk2 BK200.out))
  go_ret
  exact ⟨by rfl, vb HB.out⟩
 rw [if_neg c4] at H
 have c4b0 : decide (a1 ≤ a0_0) = false := df c4
 clear c4
 obtain rfl := Option.some.inj H
 go_enter Tryz.func141, Tryz.ntmps141
 go_wp2_with (first | ((with_reducible refine gate_dst (N := 3) rfl ?_); refine box_event ?hg (N := 3) ?hd (cs := #[.int .i64 a0_0, .int .i64 a0_1]) (t := 161) ?hr ?_; (case hd => rfl); (case hg => rfl); (case hr => go_simp <;> rfl); intro gb200 hg w7 hbox hb; have BK200 := am hbox; have GW200 := gef hg HB.out; have GE200 := gef hg HB.out; replace HB := bs HB.out hb; clear hb hbox hg; obtain ⟨hcz8_0, hcz8_1, hfz8_0, hfz8_1⟩ := bk2 BK200.out))
 go_ret
 exact ⟨by rfl, vb HB.out⟩
def Zau.f (a0_0 : Int) (a0_1 : Int) (a0_2 : Int) (a0_3 : Int) (a0_4 : Int) (a0_5 : Int) : Option (Bool) := (Zbq.f a0_0 a0_1 (-600) 600).bind fun t202 => (if t202 = true then ((Zbq.f a0_2 a0_3 (-600) 600).bind fun t203 => (if t203 = true then ((Zbq.f a0_4 a0_5 0 20000).bind fun t204 => (some t204)) else (some false))) else (some false))
theorem Zau.calls (a0_0 : Int) (a0_1 : Int) (a0_2 : Int) (a0_3 : Int) (a0_4 : Int) (a0_5 : Int) (r : Bool) (w : World) (h : Zau.f a0_0 a0_1 a0_2 a0_3 a0_4 a0_5 = some r) :
  Calls Tryz.prog 133 #[.agg #[.int .i64 a0_0, .int .i64 a0_1, .int .i64 a0_2, .int .i64 a0_3, .int .i64 a0_4, .int .i64 a0_5]] w fun e w' => e = .returned (.bool r) ∧ Below w.heap.size w w' := by
 have hu163 := Tryz.underlying163
 have hu161 := Tryz.underlying161
 have HB := am (Below.refl w.heap.size w)
 have H : ((Zbq.f a0_0 a0_1 (-600) 600).bind fun t202 => (if t202 = true then ((Zbq.f a0_2 a0_3 (-600) 600).bind fun t203 => (if t203 = true then ((Zbq.f a0_4 a0_5 0 20000).bind fun t204 => (some t204)) else (some false))) else (some false))) = some r := h
 clear h
 replace H := be H
 obtain ⟨t202, A20, H⟩ := H
 try dsimp only at H
 have A2 := am A20
 clear A20
 by_cases c3 : t202 = true
 rotate_left
 ·replace c3 := Bool.eq_false_iff.mpr c3
  subst c3
  rw [if_neg (show ¬ (false = true) by decide)] at H
  obtain rfl := Option.some.inj H
  go_enter Tryz.func133, Tryz.ntmps133
  go_wp2_with (first | ((with_reducible refine gate_dst (N := 1) rfl ?_); refine box_event ?hg (N := 1) ?hd (cs := #[.int .i64 a0_0, .int .i64 a0_1, .int .i64 a0_2, .int .i64 a0_3, .int .i64 a0_4, .int .i64 a0_5]) (t := 163) ?hr ?_; (case hd => rfl); (case hg => rfl); (case hr => go_simp <;> rfl); intro gb201 hg w19 hbox hb; have BK201 := am hbox; have GW201 := gef hg HB.out; have GE201 := gef hg HB.out; replace HB := bs HB.out hb; clear hb hbox hg; obtain ⟨hcz20_0, hcz20_1, hcz20_2, hcz20_3, hcz20_4, hcz20_5, hfz20_0, hfz20_1, hfz20_2, hfz20_3, hfz20_4, hfz20_5⟩ := bk6 BK201.out) | ((with_reducible refine gate_callee (f := 141) rfl ?_); refine goesL_ (some 5) rfl rfl Tryz.func141 (by kernel_rfl) rfl #[.agg #[.int .i64 a0_0, .int .i64 a0_1], .int .i64 (-600), .int .i64 600] rfl (by (try simp only [mT, mC, mN]); first | done | rfl) ?_; (with_reducible refine (Zbq.calls a0_0 a0_1 (-600) 600 false _ A2.out).mono ?_); rintro e w21 ⟨rfl, hb⟩; refine ⟨_, rfl, ?_⟩; replace BK201 := kb BK201.out hb; replace HB := bs HB.out hb; (try clear hb)))
  go_ret
  exact ⟨by rfl, vb HB.out⟩
 subst c3
 rw [if_pos rfl] at H
 replace H := be H
 obtain ⟨t203, A40, H⟩ := H
 try dsimp only at H
 have A4 := am A40
 clear A40
 by_cases c5 : t203 = true
 rotate_left
 ·replace c5 := Bool.eq_false_iff.mpr c5
  subst c5
  rw [if_neg (show ¬ (false = true) by decide)] at H
  obtain rfl := Option.some.inj H
  go_enter Tryz.func133, Tryz.ntmps133
  go_wp2_with (first | ((with_reducible refine gate_dst (N := 1) rfl ?_); refine box_event ?hg (N := 1) ?hd (cs := #[.int .i64 a0_0, .int .i64 a0_1, .int .i64 a0_2, .int .i64 a0_3, .int .i64 a0_4, .int .i64 a0_5]) (t := 163) ?hr ?_; (case hd => rfl); (case hg => rfl); (case hr => go_simp <;> rfl); intro gb201 hg w14 hbox hb; have BK201 := am hbox; have GW201 := gef hg HB.out; have GE201 := gef hg HB.out; replace HB := bs HB.out hb; clear hb hbox hg; obtain ⟨hcz15_0, hcz15_1, hcz15_2, hcz15_3, hcz15_4, hcz15_5, hfz15_0, hfz15_1, hfz15_2, hfz15_3, hfz15_4, hfz15_5⟩ := bk6 BK201.out) | ((with_reducible refine gate_callee (f := 141) rfl ?_); refine goesL_ (some 5) rfl rfl Tryz.func141 (by kernel_rfl) rfl #[.agg #[.int .i64 a0_0, .int .i64 a0_1], .int .i64 (-600), .int .i64 600] rfl (by (try simp only [mT, mC, mN]); first | done | rfl) ?_; (with_reducible refine (Zbq.calls a0_0 a0_1 (-600) 600 true _ A2.out).mono ?_); rintro e w16 ⟨rfl, hb⟩; refine ⟨_, rfl, ?_⟩; replace BK201 := kb BK201.out hb; replace HB := bs HB.out hb; (try clear hb); (try clear hb2); (try clear hk); (try clear hi); obtain ⟨hcz17_0, hcz17_1, hcz17_2, hcz17_3, hcz17_4, hcz17_5, hfz17_0, hfz17_1, hfz17_2, hfz17_3, hfz17_4, hfz17_5⟩ := bk6 BK201.out) | (go_at_call 141; (with_reducible refine (Zbq.calls a0_2 a0_3 (-600) 600 false _ A4.out).mono ?_); rintro e w18 ⟨rfl, hb⟩; replace BK201 := kb BK201.out hb; replace HB := bs HB.out hb; (try clear hb)))
  go_ret
  exact ⟨by rfl, vb HB.out⟩
 subst c5
 rw [if_pos rfl] at H
 replace H := be H
 obtain ⟨t204, A60, H⟩ := H
 try dsimp only at H
 have A6 := am A60
 clear A60
 obtain rfl := Option.some.inj H
 go_enter Tryz.func133, Tryz.ntmps133
 go_wp2_with (first | ((with_reducible refine gate_dst (N := 1) rfl ?_); refine box_event ?hg (N := 1) ?hd (cs := #[.int .i64 a0_0, .int .i64 a0_1, .int .i64 a0_2, .int .i64 a0_3, .int .i64 a0_4, .int .i64 a0_5]) (t := 163) ?hr ?_; (case hd => rfl); (case hg => rfl); (case hr => go_simp <;> rfl); intro gb201 hg w7 hbox hb; have BK201 := am hbox; have GW201 := gef hg HB.out; have GE201 := gef hg HB.out; replace HB := bs HB.out hb; clear hb hbox hg; obtain ⟨hcz8_0, hcz8_1, hcz8_2, hcz8_3, hcz8_4, hcz8_5, hfz8_0, hfz8_1, hfz8_2, hfz8_3, hfz8_4, hfz8_5⟩ := bk6 BK201.out) | ((with_reducible refine gate_callee (f := 141) rfl ?_); refine goesL_ (some 5) rfl rfl Tryz.func141 (by kernel_rfl) rfl #[.agg #[.int .i64 a0_0, .int .i64 a0_1], .int .i64 (-600), .int .i64 600] rfl (by (try simp only [mT, mC, mN]); first | done | rfl) ?_; (with_reducible refine (Zbq.calls a0_0 a0_1 (-600) 600 true _ A2.out).mono ?_); rintro e w9 ⟨rfl, hb⟩; refine ⟨_, rfl, ?_⟩; replace BK201 := kb BK201.out hb; replace HB := bs HB.out hb; (try clear hb); (try clear hb2); (try clear hk); (try clear hi); obtain ⟨hcz10_0, hcz10_1, hcz10_2, hcz10_3, hcz10_4, hcz10_5, hfz10_0, hfz10_1, hfz10_2, hfz10_3, hfz10_4, hfz10_5⟩ := bk6 BK201.out) | (go_at_call 141; (with_reducible refine (Zbq.calls a0_2 a0_3 (-600) 600 true _ A4.out).mono ?_); rintro e w11 ⟨rfl, hb⟩; replace BK201 := kb BK201.out hb; replace HB := bs HB.out hb; (try clear hb); (try clear hb2); (try clear hk); (try clear hi); obtain ⟨hcz12_0, hcz12_1, hcz12_2, hcz12_3, hcz12_4, hcz12_5, hfz12_0, hfz12_1, hfz12_2, hfz12_3, hfz12_4, hfz12_5⟩ := bk6 BK201.out) | (go_at_call 141; (with_reducible refine (Zbq.calls a0_4 a0_5 0 20000 t204 _ A6.out).mono ?_); rintro e w13 ⟨rfl, hb⟩; replace BK201 := kb BK201.out hb; replace HB := bs HB.out hb; (try clear hb)))
 go_ret
 exact ⟨by rfl, vb HB.out⟩
end Go.Proofs.YtjgifmakhnkmdaaGreatDoor.XRep
