import Derived.Test.YtjgifmakhnkmdaaGreatDoorZExtF
namespace Go.Proofs.YtjgifmakhnkmdaaGreatDoor.XRep
set_option maxHeartbeats 8000000
set_option maxRecDepth 100000
open Go.RowKit Go.Proofs.YtjgifmakhnkmdaaGreatDoorW.PrintWords Go.Proofs.YtjgifmakhnkmdaaGreatDoorW.PrintLast Go.Proofs.YtjgifmakhnkmdaaGreatDoorW.PrintMore
set_option linter.unusedVariables false
set_option linter.unusedSimpArgs false
def Zcl.f (a0 : ByteArray) : Option (Int × Int × Int) := some (splitOf a0)
theorem Zcl.calls (a0 : ByteArray) (r1 : Int) (r2 : Int) (r3 : Int) (w : World) (h : Zcl.f a0 = some (r1, r2, r3)) :
  Calls Tryz.prog 76 #[.string a0] w fun e w' => e = .returned (.tuple #[.int .u8 r1, .int .i64 r2, .int .i64 r3]) ∧ Below w.heap.size w w' := by
 have e : splitOf a0 = (r1, r2, r3) := Option.some.inj h
 have := Zcl.hand a0 w
 rw [e] at this
 exact this
def isB (s : ByteArray) (k : Int) : Bool := (splitOf s).2.2 == 0 && (splitOf s).1 == k
def Zcu.f (a0 : ByteArray) (a1 : Int) : Option Bool := some (isB a0 a1)
theorem Zcu.calls (a0 : ByteArray) (a1 : Int) (r : Bool) (w : World) (h : Zcu.f a0 a1 = some r) :
  Calls Tryz.prog 42 #[.string a0, .int .u8 a1] w fun e w' => e = .returned (.bool r) ∧ Below w.heap.size w w' := by
 obtain rfl := Option.some.inj h
 unfold isB
 obtain ⟨⟨x, y, z⟩, hx⟩ : ∃ x, x = splitOf a0 := ⟨_, rfl⟩
 have hc := Zcl.hand a0
 rw [← hx] at hc ⊢
 clear hx h
 by_cases hz : z = 0
 ·subst hz
  go_enter Tryz.func42, Tryz.ntmps42
  go_wp2_with (first | (go_at_call 76; refine (hc _).mono ?_; rintro e w' ⟨rfl, hb⟩))
  go_ret
  exact ⟨by simp, hb⟩
 ·have hz2 : (z == 0) = false := by simpa using hz
  clear hz
  go_enter Tryz.func42, Tryz.ntmps42
  go_wp2_with (first | (go_at_call 76; refine (hc _).mono ?_; rintro e w' ⟨rfl, hb⟩))
  go_ret
  exact ⟨by simp [hz2], hb⟩
def isCodeB (s : ByteArray) (k : Int) : Bool := if k = 0 then s.toList.isEmpty else isB s k
theorem Zcb.calls (s : ByteArray) (k : Int) (w : World) :
  Calls Tryz.prog 69 #[.string s, .int .u8 k] w fun e w' => e = .returned (.bool (isCodeB s k)) ∧ Below w.heap.size w w' := by
 unfold isCodeB
 by_cases hk : k = 0
 ·subst hk
  rw [if_pos rfl]
  go_enter Tryz.func69, Tryz.ntmps69
  go_wp2
  go_ret
  exact ⟨rfl, Below.refl _ _⟩
 ·have hk2 : (k == 0) = false := by simpa using hk
  rw [if_neg hk]
  clear hk
  go_enter Tryz.func69, Tryz.ntmps69
  go_wp2_with (first | (go_at_call 42; refine (Zcu.calls s k _ _ rfl).mono ?_; rintro e w' ⟨rfl, hb⟩))
  go_ret
  exact ⟨rfl, hb⟩
theorem Zbu.calls (m : Int) (A : Option Addr) (n c : Nat) (w : World) :
  Calls Tryz.prog 164 #[.int .i64 m, .slice A n c] w fun e w' => e = .returned (.bool ((n : Int) == m)) ∧ w' = w := by
 go_enter Tryz.func164, Tryz.ntmps164
 go_wp2
 go_ret
 exact ⟨rfl, rfl⟩
theorem Zbt.calls (m : Int) (A : Option Addr) (n c : Nat) (w : World) :
  Calls Tryz.prog 165 #[.int .i64 m, .slice A n c] w fun e w' => e = .returned (.bool (decide (m ≤ (n : Int)))) ∧ w' = w := by
 go_enter Tryz.func165, Tryz.ntmps165
 go_wp2
 go_ret
 exact ⟨rfl, rfl⟩
theorem Zck.calls (m : Int) (A : Option Addr) (n c : Nat) (hn : n ≤ 1000000) (h0 : 0 ≤ m) (h1 : m ≤ 1) (w : World) :
  Calls Tryz.prog 167 #[.int .i64 m, .slice A n c] w fun e w' => e = .returned (.bool (decide (m ≤ (n : Int)) && ((n : Int) - m) % 2 == 0)) ∧ w' = w := by
 by_cases h : m ≤ (n : Int)
 ·have h2 : decide (m ≤ (n : Int)) = true := decide_eq_true h
  go_enter Tryz.func167, Tryz.ntmps167
  go_wp2
  go_ret
  refine ⟨?_, rfl⟩
  rw [h2]; rfl
 ·have h2 : decide (m ≤ (n : Int)) = false := decide_eq_false h
  go_enter Tryz.func167, Tryz.ntmps167
  go_wp2
  go_ret
  exact ⟨by simp [h2], rfl⟩
end Go.Proofs.YtjgifmakhnkmdaaGreatDoor.XRep
