import Derived.Test.YtjgifmakhnkmdaaGreatDoorZExtB
namespace Go.Proofs.YtjgifmakhnkmdaaGreatDoor.XRep
open Go.RowKit Go.Proofs.YtjgifmakhnkmdaaGreatDoorW.PrintWords Go.Proofs.YtjgifmakhnkmdaaGreatDoorW.PrintLast Go.Proofs.YtjgifmakhnkmdaaGreatDoorW.PrintMore
theorem fld94 (a b c d : Value) (w : World) : (Instr.field 94 (.agg #[a, b, c, d]) 0).run Tryz.prog w = .ok a w := by kernel_rfl
attribute [local go_sem] fld94
set_option linter.unusedVariables false
set_option linter.unusedSimpArgs false
def Zcr.f (a0 : Int) : Option ByteArray := some (kindOf a0).name
set_option maxHeartbeats 8000000 in
set_option maxRecDepth 100000 in
theorem Zcr.calls (a0 : Int) (r : ByteArray) (w : World) (h : Zcr.f a0 = some r) : Calls Tryz.prog 38 #[.int .i64 a0] w fun e w' => e = .returned (.string r) ∧ Below w.heap.size w w' := by
 obtain rfl := Option.some.inj h
 have hu94 := Tryz.underlying94
 go_enter Tryz.func38, Tryz.ntmps38
 go_wp2_with (first | (go_at_call 68; refine (Zcc.calls a0 w).mono ?_; rintro e w' ⟨rfl, hb⟩; simp only [Kind.v]))
 go_ret
 exact ⟨rfl, hb⟩
end Go.Proofs.YtjgifmakhnkmdaaGreatDoor.XRep

namespace Go.Proofs.YtjgifmakhnkmdaaGreatDoor.XRep
set_option maxHeartbeats 8000000
set_option maxRecDepth 100000
open Go.RowKit Go.Proofs.YtjgifmakhnkmdaaGreatDoorW.PrintWords Go.Proofs.YtjgifmakhnkmdaaGreatDoorW.PrintLast Go.Proofs.YtjgifmakhnkmdaaGreatDoorW.PrintMore
set_option linter.unusedVariables false
set_option linter.unusedSimpArgs false
theorem Zcs.calls (w : World) : Calls Tryz.prog 98 #[] w fun e w' => e = .returned (.slice (some ⟨w.heap.size, 0, none⟩) 2 2) ∧ w' = w.alloc (.cells #[.int .i64 0, .int .i64 1, .func (.func 118) #[] #[], .int .i64 10, .int .i64 1, .int .i64 7, .func (.func 119) #[] #[], .int .i64 5] 142) := by
 have hu142 := Tryz.underlying142
 have hu139 := Tryz.underlying139
 go_enter Tryz.func98, Tryz.ntmps98
 go_wp2
 go_ret
 trace_state
 exact ⟨rfl, rfl⟩
theorem Zbv.calls (c : Int) (w : World) : Calls Tryz.prog 118 #[.int .u8 c] w fun e w' => e = .returned (.bool (decide (65 ≤ c) && decide (c ≤ 90))) ∧ w' = w := by
 by_cases h : 65 ≤ c
 ·have h1 : decide (65 ≤ c) = true := decide_eq_true h
  go_enter Tryz.func118, Tryz.ntmps118
  go_wp2
  go_ret
  exact ⟨by simp [h1], rfl⟩
 ·have h1 : decide (65 ≤ c) = false := decide_eq_false h
  go_enter Tryz.func118, Tryz.ntmps118
  go_wp2
  go_ret
  exact ⟨by simp [h1], rfl⟩
theorem Zcm.calls (c : Int) (w : World) : Calls Tryz.prog 119 #[.int .u8 c] w fun e w' => e = .returned (.bool (decide (48 ≤ c) && decide (c ≤ 57))) ∧ w' = w := by
 by_cases h : 48 ≤ c
 ·have h1 : decide (48 ≤ c) = true := decide_eq_true h
  go_enter Tryz.func119, Tryz.ntmps119
  go_wp2
  go_ret
  exact ⟨by simp [h1], rfl⟩
 ·have h1 : decide (48 ≤ c) = false := decide_eq_false h
  go_enter Tryz.func119, Tryz.ntmps119
  go_wp2
  go_ret
  exact ⟨by simp [h1], rfl⟩
end Go.Proofs.YtjgifmakhnkmdaaGreatDoor.XRep

namespace Go.Proofs.YtjgifmakhnkmdaaGreatDoor.XRep
open Go.RowKit Go.Proofs.YtjgifmakhnkmdaaGreatDoorW.PrintWords Go.Proofs.YtjgifmakhnkmdaaGreatDoorW.PrintLast Go.Proofs.YtjgifmakhnkmdaaGreatDoorW.PrintMore
set_option linter.unusedVariables false
set_option linter.unusedSimpArgs false
def letSum (s : ByteArray) : Nat → Nat
 | 0 => 0
 | i + 1 => (letSum s i + (i % 23 + 1) * (bt s i).toNat) % 23
theorem wrap64_small (x : Int) (h0 : -9223372036854775808 ≤ x) (h1 : x < 9223372036854775808) : wrap64 x = x := by
 unfold wrap64; omega
theorem u8_fits (x : UInt8) : x.toNat ≤ 255 := by have := x.toNat_lt; omega
set_option maxHeartbeats 8000000 in
set_option maxRecDepth 100000 in
theorem Zcd.hand (s : ByteArray) (hs : s.size ≤ 1000000) (w : World) : Calls Tryz.prog 99 #[.string s] w fun e w' => e = .returned (.int .u8 (65 + letSum s s.size)) ∧ w' = w := by
 go_enter Tryz.func99, Tryz.ntmps99
 go_wp2
 go_loop [3, 7] (fun v3 v7 => ∃ (k m : Nat), k ≤ s.size ∧ m ≤ 22 ∧ v3 = .int .i64 m ∧ v7 = .int .i64 k ∧ Hid (m = letSum s k)) (fun _ v7 => s.size - (intOf v7).toNat)
 case atStart => exact ⟨0, 0, Nat.zero_le _, by omega, rfl, rfl, rfl⟩
 case round =>
  obtain ⟨k, m, hk, hm, rfl, rfl, HM⟩ := hrel
  by_cases hkn : k < s.size
  ·obtain ⟨x, hx⟩ : ∃ x : UInt8, x = s[k]'hkn := ⟨_, rfl⟩
   have hx2 : (x.toNat : Int) ≤ 255 := by have := u8_fits x; omega
   go_wp2
   go_round
   case rel =>
    have e1 : (bt s k).toNat = s[k].toNat := by simp [bt, hkn]
    have hp : (k % 23 + 1) * s[k].toNat ≤ 23 * 255 := Nat.mul_le_mul (by omega) (u8_fits _)
    have hz : (wrap64 (↑m + wrap64 ((↑k % 23 + 1) * wrap64 ↑s[k].toNat))).tmod 23 = (((m + (k % 23 + 1) * s[k].toNat) % 23 : Nat) : Int) := by
     generalize s[k].toNat = y at hp ⊢
     have hy : y ≤ 23 * 255 := Nat.le_trans (Nat.le_mul_of_pos_left y (by omega)) hp
     have h1 : ((k : Int) % 23 + 1) * (y : Int) = (((k % 23 + 1) * y : Nat) : Int) := by push_cast; rfl
     rw [wrap64_small (y : Int) (by omega) (by omega), h1]
     generalize (k % 23 + 1) * y = z at hp ⊢
     rw [wrap64_small (z : Int) (by omega) (by omega), wrap64_small ((m : Int) + (z : Int)) (by omega) (by omega), Int.tmod_eq_emod_of_nonneg (by omega)]
     omega
    exact ⟨k + 1, (m + (k % 23 + 1) * s[k].toNat) % 23, by omega, by omega, by rw [hz], rfl, by
     show _ = _
     rw [letSum, ← HM.out, e1]⟩
   case measure => simp [intOf]; omega
  ·have hke : k = s.size := by omega
   subst hke
   go_wp2
   go_ret
   have := HM.out
   refine ⟨?_, rfl⟩
   rw [← this]
   rfl
end Go.Proofs.YtjgifmakhnkmdaaGreatDoor.XRep
