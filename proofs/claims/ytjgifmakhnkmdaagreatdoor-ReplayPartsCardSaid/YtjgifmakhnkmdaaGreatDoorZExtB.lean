import Derived.Test.YtjgifmakhnkmdaaGreatDoorZShelf
import Derived.Test.YtjgifmakhnkmdaaGreatDoorZXRepx0
namespace Go.Proofs.YtjgifmakhnkmdaaGreatDoor.XRep
open Go.RowKit Go.Proofs.YtjgifmakhnkmdaaGreatDoorW.PrintWords Go.Proofs.YtjgifmakhnkmdaaGreatDoorW.PrintLast Go.Proofs.YtjgifmakhnkmdaaGreatDoorW.PrintMore
def Glob (w : World) : Prop := Lib.TabIs Tryz.prog w "internal/strconv.uint64pow10" .u64 Lib.pow10Tab
theorem Glob.below {w w' : World} (h : Glob w) (hb : Below w.heap.size w w') : Glob w' := by
 unfold Glob Lib.TabIs World.var? at h ⊢
 obtain ⟨g, hg, hc⟩ := Option.bind_eq_some_iff.mp h
 refine Option.bind_eq_some_iff.mpr ⟨g, hg, ?_⟩
 have hlt : g < w.heap.size := by
  rcases Nat.lt_or_ge g w.heap.size with hl | hl
  ·exact hl
  ·rw [Array.getElem?_eq_none hl] at hc; cases hc
 rw [hb.block g hlt]; exact hc
theorem Zbr.below_grow (w : World) (k : Nat) (os : Array Obj) : Below w.heap.size w (Go.Sort.grow (w.drewN k) os) :=
 ⟨rfl, rfl, rfl, by simp [Go.Sort.grow, World.drewN], fun i hi => by simp [Go.Sort.grow, World.drewN, Array.getElem?_append_left hi]⟩
def Zbr.f (a0 : Int) : Option ByteArray := if -9223372036854775808 ≤ a0 then (if a0 ≤ 9223372036854775807 then some ⟨(Lib.itoa a0).toArray⟩ else none) else none
theorem Zbr.calls (a0 : Int) (r : ByteArray) (w : World) (hgl : Glob w) (h : Zbr.f a0 = some r) :
  Calls Tryz.prog 39 #[.int .i64 a0] w fun e w' => e = .returned (.string r) ∧ Below w.heap.size w w' := by
 unfold Zbr.f at h
 by_cases h1 : -9223372036854775808 ≤ a0
 ·by_cases h2 : a0 ≤ 9223372036854775807
  ·rw [if_pos h1, if_pos h2] at h
   obtain rfl := Option.some.inj h
   refine (Tryz.strconv_Itoa a0 h1 h2 w hgl).mono fun e w' hh => ?_
   obtain ⟨rfl, k, os, rfl⟩ := hh
   exact ⟨rfl, Zbr.below_grow w k os⟩
  ·rw [if_pos h1, if_neg h2] at h; cases h
 ·rw [if_neg h1] at h; cases h
def Zai.f (l0 : List Int) : Option (List Int) := if l0.length ≤ 17592186044416 then some l0 else none
theorem Zai.calls (A0 : Option Addr) (c0 : Nat) (l0 : List Int) (r : List Int) (w : World) (hr0 : Kd.C (Kd.int .i64) w A0 l0.length l0) (hc0 : l0.length ≤ c0) (h : Zai.f l0 = some r) :
  Calls Tryz.prog 77 #[.slice A0 l0.length c0] w fun e w' => ∃ v0_ : Value, e = .returned (v0_) ∧ Kd.R (Kd.int .i64) 3 w' w.heap.size (fun _ => True) v0_ r ∧ Below w.heap.size w w' := by
 unfold Zai.f at h
 by_cases h2 : l0.length ≤ 17592186044416
 ·rw [if_pos h2] at h
  obtain rfl := Option.some.inj h
  have own : ∀ (w' : World) (v : Value), w'.ownsRow w.heap.size 3 1 v l0.length (l0.map (Value.int .i64)) → Kd.R (Kd.int .i64) 3 w' w.heap.size (fun _ => True) v l0 := by
   intro w' v ho
   refine ⟨fun _ _ => trivial, l0.map (Value.int .i64), ho, by simp [Kd.int, Kd.scalar], fun j p hp => ?_⟩
   show _ = [Value.int .i64 p]
   have hj : j < l0.length := by
    rcases Nat.lt_or_ge j l0.length with hl | hl
    ·exact hl
    ·rw [List.getElem?_eq_none hl] at hp; cases hp
   simp only [Kd.int, Kd.scalar, Nat.mul_one]
   rw [List.getElem?_eq_getElem hj] at hp
   have := Option.some.inj hp
   subst this
   rw [List.drop_eq_getElem_cons (by simpa using hj)]
   simp
  rcases Nat.eq_zero_or_pos l0.length with h0 | h0
  ·have e0 : l0 = [] := List.eq_nil_of_length_eq_zero h0
   subst e0
   cases A0 with
   | none =>
    refine (Tryz.slices_Clone_int_nil 0 c0 w).mono fun e w' hh => ?_
    obtain ⟨rfl, rfl⟩ := hh
    exact ⟨_, rfl, Kd.R_nil _ _ _ _ _, Below.refl _ _⟩
   | some a =>
    refine (Tryz.slices_Clone_int_zero a c0 w).mono fun e w' hh => ?_
    obtain ⟨v, rfl, ho, _, hb⟩ := hh
    exact ⟨v, rfl, own w' v ho, hb⟩
  ·have hR := Kd.reads_of_C (enc := Value.int .i64) (d := (0 : Int)) (h1 := fun _ => rfl) hr0
   obtain ⟨ad, e, hc⟩ := hR.2.2 h0
   obtain ⟨bk, o, sp⟩ := ad
   have hcell0 := hc 0 h0
   have hsp : sp = none := by
    cases sp with
    | none => rfl
    | some s =>
     simp only [Addr.add, if_true, World.cell?] at hcell0
     split at hcell0 <;> simp at hcell0
   subst hsp
   subst e
   refine (Tryz.slices_Clone_int bk o l0.length c0 l0 w (Nat.le_refl _) (by omega) ?_).mono fun e w' hh => ?_
   ·intro j hj
    have hcj := hc j hj
    by_cases hz : j = 0
    ·subst hz; simpa [Addr.add] using hcj
    ·simpa [Addr.add, hz] using hcj
   ·obtain ⟨v, rfl, ho, _, hb⟩ := hh
    rw [List.take_of_length_le (Nat.le_refl _)] at ho
    exact ⟨v, rfl, own w' v ho, hb⟩
 ·rw [if_neg h2] at h; cases h
end Go.Proofs.YtjgifmakhnkmdaaGreatDoor.XRep

namespace Go.Proofs.YtjgifmakhnkmdaaGreatDoor.XRep
open Go.RowKit Go.Proofs.YtjgifmakhnkmdaaGreatDoorW.PrintWords Go.Proofs.YtjgifmakhnkmdaaGreatDoorW.PrintLast Go.Proofs.YtjgifmakhnkmdaaGreatDoorW.PrintMore
set_option linter.unusedVariables false
set_option linter.unusedSimpArgs false
structure Kind where
 name : ByteArray
 item : Int
 of : Int
 t : Nat
 n : Option Int
def kindOf (n : Int) : Kind :=
 if n = 1 then ⟨⟨#[112, 101, 114, 109, 105, 116]⟩, 80, 0, 130, some 3⟩ else
 if n = 2 then ⟨⟨#[102, 101, 108, 108]⟩, 76, 80, 130, some 0⟩ else
 if n = 3 then ⟨⟨#[115, 99, 97, 110]⟩, 76, 0, 130, some 0⟩ else
 if n = 4 then ⟨⟨#[115, 97, 119]⟩, 76, 0, 131, some 2⟩ else
 if n = 5 then ⟨⟨#[112, 97, 99, 107]⟩, 75, 0, 131, some 0⟩ else
 if n = 6 then ⟨⟨#[100, 114, 121]⟩, 67, 0, 133, none⟩ else
 if n = 7 then ⟨⟨#[103, 114, 97, 100, 101]⟩, 66, 0, 130, some 1⟩ else
 if n = 8 then ⟨⟨#[111, 114, 100, 101, 114]⟩, 79, 0, 130, some 0⟩ else
 if n = 9 then ⟨⟨#[97, 115, 115, 105, 103, 110]⟩, 0, 0, 134, some 0⟩ else
 if n = 10 then ⟨⟨#[115, 104, 105, 112]⟩, 79, 0, 130, some 0⟩ else
 if n = 11 then ⟨⟨#[115, 101, 108, 108]⟩, 0, 0, 130, some 2⟩ else
 if n = 12 then ⟨⟨#[102, 97, 105, 108]⟩, 0, 0, 130, some 0⟩ else
 if n = 13 then ⟨⟨#[116, 114, 105, 109]⟩, 66, 0, 134, some 1⟩ else
 if n = 14 then ⟨⟨#[114, 101, 115, 97, 119]⟩, 66, 0, 131, some 1⟩ else ⟨⟨#[]⟩, 0, 0, 130, some 0⟩
def Kind.shape (k : Kind) : Value := match k.n with | some m => .int .i64 m | none => .agg #[]
def Kind.v (k : Kind) : Value := .agg #[.string k.name, .int .u8 k.item, .int .u8 k.of, .iface k.t k.shape]
theorem heap_new (w : World) (o : Obj) : (w.alloc o).heap[w.heap.size]? = some o := by show (w.heap.push o)[w.heap.size]? = _; simp
set_option maxHeartbeats 8000000 in
set_option maxRecDepth 100000 in
theorem Zcc.calls (n : Int) (w : World) : Calls Tryz.prog 68 #[.int .i64 n] w fun e w' => e = .returned (kindOf n).v ∧ Below w.heap.size w w' := by
 have hu94 := Tryz.underlying94
 have hu92 := Tryz.underlying92
 rcases Decidable.em (n = 1) with rfl | h1
 ·go_enter Tryz.func68, Tryz.ntmps68
  go_wp2
  refine bodyPost_ret (results_cell_row rfl _ _ w.heap.size 94 _ (0, 0) _ rfl (heap_new w _) Tryz.underlying94 rfl (by kernel_rfl)) rfl ?_
  exact ⟨rfl, below_alloc (Below.refl _ _) _⟩
 rcases Decidable.em (n = 2) with rfl | h2
 ·go_enter Tryz.func68, Tryz.ntmps68
  go_wp2
  refine bodyPost_ret (results_cell_row rfl _ _ w.heap.size 94 _ (0, 0) _ rfl (heap_new w _) Tryz.underlying94 rfl (by kernel_rfl)) rfl ?_
  exact ⟨rfl, below_alloc (Below.refl _ _) _⟩
 rcases Decidable.em (n = 3) with rfl | h3
 ·go_enter Tryz.func68, Tryz.ntmps68
  go_wp2
  refine bodyPost_ret (results_cell_row rfl _ _ w.heap.size 94 _ (0, 0) _ rfl (heap_new w _) Tryz.underlying94 rfl (by kernel_rfl)) rfl ?_
  exact ⟨rfl, below_alloc (Below.refl _ _) _⟩
 rcases Decidable.em (n = 4) with rfl | h4
 ·go_enter Tryz.func68, Tryz.ntmps68
  go_wp2
  refine bodyPost_ret (results_cell_row rfl _ _ w.heap.size 94 _ (0, 0) _ rfl (heap_new w _) Tryz.underlying94 rfl (by kernel_rfl)) rfl ?_
  exact ⟨rfl, below_alloc (Below.refl _ _) _⟩
 rcases Decidable.em (n = 5) with rfl | h5
 ·go_enter Tryz.func68, Tryz.ntmps68
  go_wp2
  refine bodyPost_ret (results_cell_row rfl _ _ w.heap.size 94 _ (0, 0) _ rfl (heap_new w _) Tryz.underlying94 rfl (by kernel_rfl)) rfl ?_
  exact ⟨rfl, below_alloc (Below.refl _ _) _⟩
 rcases Decidable.em (n = 6) with rfl | h6
 ·go_enter Tryz.func68, Tryz.ntmps68
  go_wp2
  refine bodyPost_ret (results_cell_row rfl _ _ w.heap.size 94 _ (0, 0) _ rfl (heap_new w _) Tryz.underlying94 rfl (by kernel_rfl)) rfl ?_
  exact ⟨rfl, below_alloc (Below.refl _ _) _⟩
 rcases Decidable.em (n = 7) with rfl | h7
 ·go_enter Tryz.func68, Tryz.ntmps68
  go_wp2
  refine bodyPost_ret (results_cell_row rfl _ _ w.heap.size 94 _ (0, 0) _ rfl (heap_new w _) Tryz.underlying94 rfl (by kernel_rfl)) rfl ?_
  exact ⟨rfl, below_alloc (Below.refl _ _) _⟩
 rcases Decidable.em (n = 8) with rfl | h8
 ·go_enter Tryz.func68, Tryz.ntmps68
  go_wp2
  refine bodyPost_ret (results_cell_row rfl _ _ w.heap.size 94 _ (0, 0) _ rfl (heap_new w _) Tryz.underlying94 rfl (by kernel_rfl)) rfl ?_
  exact ⟨rfl, below_alloc (Below.refl _ _) _⟩
 rcases Decidable.em (n = 9) with rfl | h9
 ·go_enter Tryz.func68, Tryz.ntmps68
  go_wp2
  refine bodyPost_ret (results_cell_row rfl _ _ w.heap.size 94 _ (0, 0) _ rfl (heap_new w _) Tryz.underlying94 rfl (by kernel_rfl)) rfl ?_
  exact ⟨rfl, below_alloc (Below.refl _ _) _⟩
 rcases Decidable.em (n = 10) with rfl | h10
 ·go_enter Tryz.func68, Tryz.ntmps68
  go_wp2
  refine bodyPost_ret (results_cell_row rfl _ _ w.heap.size 94 _ (0, 0) _ rfl (heap_new w _) Tryz.underlying94 rfl (by kernel_rfl)) rfl ?_
  exact ⟨rfl, below_alloc (Below.refl _ _) _⟩
 rcases Decidable.em (n = 11) with rfl | h11
 ·go_enter Tryz.func68, Tryz.ntmps68
  go_wp2
  refine bodyPost_ret (results_cell_row rfl _ _ w.heap.size 94 _ (0, 0) _ rfl (heap_new w _) Tryz.underlying94 rfl (by kernel_rfl)) rfl ?_
  exact ⟨rfl, below_alloc (Below.refl _ _) _⟩
 rcases Decidable.em (n = 12) with rfl | h12
 ·go_enter Tryz.func68, Tryz.ntmps68
  go_wp2
  refine bodyPost_ret (results_cell_row rfl _ _ w.heap.size 94 _ (0, 0) _ rfl (heap_new w _) Tryz.underlying94 rfl (by kernel_rfl)) rfl ?_
  exact ⟨rfl, below_alloc (Below.refl _ _) _⟩
 rcases Decidable.em (n = 13) with rfl | h13
 ·go_enter Tryz.func68, Tryz.ntmps68
  go_wp2
  refine bodyPost_ret (results_cell_row rfl _ _ w.heap.size 94 _ (0, 0) _ rfl (heap_new w _) Tryz.underlying94 rfl (by kernel_rfl)) rfl ?_
  exact ⟨rfl, below_alloc (Below.refl _ _) _⟩
 rcases Decidable.em (n = 14) with rfl | h14
 ·go_enter Tryz.func68, Tryz.ntmps68
  go_wp2
  refine bodyPost_ret (results_cell_row rfl _ _ w.heap.size 94 _ (0, 0) _ rfl (heap_new w _) Tryz.underlying94 rfl (by kernel_rfl)) rfl ?_
  exact ⟨rfl, below_alloc (Below.refl _ _) _⟩
 have b1 : (n == 1) = false := by simpa using h1
 have b2 : (n == 2) = false := by simpa using h2
 have b3 : (n == 3) = false := by simpa using h3
 have b4 : (n == 4) = false := by simpa using h4
 have b5 : (n == 5) = false := by simpa using h5
 have b6 : (n == 6) = false := by simpa using h6
 have b7 : (n == 7) = false := by simpa using h7
 have b8 : (n == 8) = false := by simpa using h8
 have b9 : (n == 9) = false := by simpa using h9
 have b10 : (n == 10) = false := by simpa using h10
 have b11 : (n == 11) = false := by simpa using h11
 have b12 : (n == 12) = false := by simpa using h12
 have b13 : (n == 13) = false := by simpa using h13
 have b14 : (n == 14) = false := by simpa using h14
 have hk : kindOf n = ⟨⟨#[]⟩, 0, 0, 130, some 0⟩ := by unfold kindOf; rw [if_neg h1, if_neg h2, if_neg h3, if_neg h4, if_neg h5, if_neg h6, if_neg h7, if_neg h8, if_neg h9, if_neg h10, if_neg h11, if_neg h12, if_neg h13, if_neg h14]
 rw [hk]
 clear h1 h2 h3 h4 h5 h6 h7 h8 h9 h10 h11 h12 h13 h14 hk
 go_enter Tryz.func68, Tryz.ntmps68
 go_wp2
 refine bodyPost_ret (results_cell_row rfl _ _ w.heap.size 94 _ (0, 0) _ rfl (heap_new w _) Tryz.underlying94 rfl (by kernel_rfl)) rfl ?_
 exact ⟨rfl, below_alloc (Below.refl _ _) _⟩
end Go.Proofs.YtjgifmakhnkmdaaGreatDoor.XRep
