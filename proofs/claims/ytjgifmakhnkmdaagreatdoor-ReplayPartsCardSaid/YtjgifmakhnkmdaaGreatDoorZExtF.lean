import Derived.Deep.QuietTactic
import Derived.BigQuiet
import Derived.Laws.EntriesVeiled
import Derived.Laws.Strings2
import Derived.Laws.DeepStrings4
import Derived.Test.YtjgifmakhnkmdaaGreatDoorZExtE
namespace Go.Proofs.YtjgifmakhnkmdaaGreatDoor.XRep
open Go.RowKit Go.Proofs.YtjgifmakhnkmdaaGreatDoorW.PrintWords Go.Proofs.YtjgifmakhnkmdaaGreatDoorW.PrintLast Go.Proofs.YtjgifmakhnkmdaaGreatDoorW.PrintMore
set_option linter.unusedVariables false
set_option linter.unusedSimpArgs false
def capB (c : Int) : Bool := decide (65 ≤ c) && decide (c ≤ 90)
def digB (c : Int) : Bool := decide (48 ≤ c) && decide (c ≤ 57)
def numOf (s : ByteArray) : Int := (((((bt s 1 - 48) * 10 + (bt s 2 - 48)) * 10 + (bt s 3 - 48)) * 10 + (bt s 4 - 48)) * 10 + (bt s 5 - 48)) * 10 + (bt s 6 - 48)
def splitOf (s : ByteArray) : Int × Int × Int :=
 if s.size ≠ 8 then (0, 0, 3)
 else if capB (bt s 0) = false then (0, 0, 10)
 else if ((List.range 6).all fun i => digB (bt s (i + 1 : Nat))) = false then (0, 0, 5)
 else if (65 + (letSum s 7 : Int)) ≠ bt s 7 then (0, 0, 16)
 else (bt s 0, numOf s, 0)
def formCells : Array Value := #[.int .i64 0, .int .i64 1, .func (.func 118) #[] #[], .int .i64 10, .int .i64 1, .int .i64 7, .func (.func 119) #[] #[], .int .i64 5]
theorem bt_cut (s : ByteArray) (h : s.size = 8) (i : Nat) (hi : i < 7) : bt (s.extract 0 7) i = bt s i := by
 have h1 : i < (s.extract 0 7).size := by rw [ByteArray.size_extract]; omega
 have h2 : i < s.size := by omega
 rw [← bt_at (s.extract 0 7) i h1, ← bt_at s i h2]
 congr 1
 simp [ByteArray.getElem_extract]
theorem letSum_cut (s : ByteArray) (h : s.size = 8) : letSum (s.extract 0 7) (s.extract 0 7).size = letSum s 7 := by
 have : (s.extract 0 7).size = 7 := by rw [ByteArray.size_extract]; omega
 rw [this]
 have all : ∀ i, i ≤ 7 → letSum (s.extract 0 7) i = letSum s i := by
  intro i
  induction i with
  | zero => intro _; rfl
  | succ i ih => intro hi; simp only [letSum]; rw [ih (by omega), bt_cut s h i (by omega)]
 exact all 7 (Nat.le_refl _)
theorem atoi_num (s : ByteArray) (h : s.size = 8) (hd : ((List.range 6).all fun i => digB (bt s (i + 1 : Nat))) = true) : Lib.atoi (s.extract 1 7).data.toList = some (numOf s) := by
 have hl : s.data.toList.length = 8 := by rw [data_length, h]
 obtain ⟨L, hL⟩ : ∃ L, L = s.data.toList := ⟨_, rfl⟩
 have hb : ∀ i : Nat, i < 8 → bt s i = ((L.getD i 0).toNat : Int) := by
  intro i hi
  rw [← bt_at s i (by omega), hL]
  have := Lib.getD_at s i (by omega)
  simp only [Int.toNat_natCast]
  rw [this]
 rw [Lib.extract_data, ← hL]
 rw [← hL] at hl
 have hd' : ∀ i : Nat, i < 6 → digB (bt s (i + 1 : Nat)) = true := fun i hi => List.all_eq_true.mp hd i (List.mem_range.mpr hi)
 match L, hl with
 | [a0, a1, a2, a3, a4, a5, a6, a7], _ =>
  have d1 := hd' 0 (by omega)
  have d2 := hd' 1 (by omega)
  have d3 := hd' 2 (by omega)
  have d4 := hd' 3 (by omega)
  have d5 := hd' 4 (by omega)
  have d6 := hd' 5 (by omega)
  rw [hb _ (by omega)] at d1 d2 d3 d4 d5 d6
  simp [digB] at d1 d2 d3 d4 d5 d6
  have b1 := hb 1 (by omega)
  have b2 := hb 2 (by omega)
  have b3 := hb 3 (by omega)
  have b4 := hb 4 (by omega)
  have b5 := hb 5 (by omega)
  have b6 := hb 6 (by omega)
  simp at b1 b2 b3 b4 b5 b6
  have n45 : (a1 == 45) = false := beq_eq_false_iff_ne.2 (fun e => by rw [e] at d1; exact absurd d1.1 (by decide))
  have n43 : (a1 == 43) = false := beq_eq_false_iff_ne.2 (fun e => by rw [e] at d1; exact absurd d1.1 (by decide))
  have v : ∀ a : UInt8, 48 ≤ (a.toNat : Int) ∧ (a.toNat : Int) ≤ 57 → Lib.digitVal a = some (a.toNat - 48) := fun a ha => if_pos (by omega)
  have e : (List.drop 1 [a0, a1, a2, a3, a4, a5, a6, a7]).take (7 - 1) = [a1, a2, a3, a4, a5, a6] := rfl
  rw [e]
  simp only [Lib.atoi, n45, n43, Bool.false_eq_true, if_false, Lib.decNat, List.isEmpty_cons, Lib.decFrom, v _ d1, v _ d2, v _ d3, v _ d4, v _ d5, v _ d6, Option.map_some]
  congr 1
  simp only [numOf, b1, b2, b3, b4, b5, b6]
  omega
theorem cell_of {W : World} {g : Nat} {t : TypeId} {cs : Array Value} (h : W.heap[g]? = some (.cells cs t (0, 0))) (i : Nat) {v : Value} (hv : cs[i]? = some v) : W.cell? ⟨g, i, none⟩ = some v := (blk_cell h i).trans hv
set_option maxHeartbeats 16000000 in
set_option maxRecDepth 100000 in
theorem Zcl.hand (s : ByteArray) (w : World) : Calls Tryz.prog 76 #[.string s] w fun e w' => e = .returned (.tuple #[.int .u8 (splitOf s).1, .int .i64 (splitOf s).2.1, .int .i64 (splitOf s).2.2]) ∧ Below w.heap.size w w' := by
 have hu142 := Tryz.underlying142
 have hu139 := Tryz.underlying139
 by_cases h8 : s.size = 8
 ·have H8 := Hid.out (p := s.size = 8) h8
  have e8 : ((s.size : Int) == 8) = true := by simpa using (by omega : (s.size : Int) = 8)
  have n8 : ((s.size : Int) != 8) = false := by simp [h8]
  have HS : Hid (s.size = 8) := h8
  clear h8 H8
  go_enter Tryz.func76, Tryz.ntmps76
  go_wp2_with (first | (go_at_call 98; refine (Zcs.calls _).mono ?_; rintro e w' ⟨rfl, rfl⟩))
  go_loopw [15] (fun v15 wr => ∃ k : Nat, k ≤ 2 ∧ v15 = .int .i64 k ∧ Hid (1 ≤ k → capB (bt s 0) = true) ∧ Hid (2 ≤ k → ((List.range 6).all fun i => digB (bt s (i + 1 : Nat))) = true) ∧ wr.heap[w.heap.size]? = some (.cells formCells 142 (0, 0)) ∧ Below w.heap.size w wr) (fun v15 _ => 2 - (intOf v15).toNat)
  case atStart => exact ⟨0, by omega, rfl, fun h => absurd h (by omega), fun h => absurd h (by omega), heap_new w _, below_alloc (Below.refl _ _) _⟩
  case round =>
   obtain ⟨k, hk, rfl, H1, H2, HF, HB⟩ := hrel
   obtain ⟨W0, hW0⟩ : ∃ W0, W0 = wr := ⟨_, rfl⟩
   subst hW0
   have hk3 : k = 0 ∨ k = 1 ∨ k = 2 := by omega
   rcases hk3 with rfl | rfl | rfl
   ·have z0 : W0.cell? ⟨w.heap.size, 0, none⟩ = some (.int .i64 0) := cell_of HF 0 rfl
    have z1 : W0.cell? ⟨w.heap.size, 1, none⟩ = some (.int .i64 1) := cell_of HF 1 rfl
    have z2 : W0.cell? ⟨w.heap.size, 2, none⟩ = some (.func (.func 118) #[] #[]) := cell_of HF 2 rfl
    have z3 : W0.cell? ⟨w.heap.size, 3, none⟩ = some (.int .i64 10) := cell_of HF 3 rfl
    have AF := Aside0.mk HF
    have AB := Aside0.mk HB
    clear HF HB
    go_wp2
    clear z0 z1 z2 z3
    go_loopw [7] (fun v7 wi => ∃ i : Nat, 0 ≤ i ∧ i ≤ 1 ∧ v7 = .int .i64 i ∧ Hid (∀ j : Nat, 0 ≤ j → j < i → capB (bt s j) = true) ∧ Aside0 (wi.heap[W0.heap.size]? = some (.cells #[.int .i64 0, .int .i64 1, .func (.func 118) #[] #[], .int .i64 10] 142 (0, 0))) ∧ Aside0 (wi.heap[w.heap.size]? = some (.cells formCells 142 (0, 0))) ∧ Aside0 (Below w.heap.size w wi)) (fun v7 _ => 1 - (intOf v7).toNat)
    case atStart => exact ⟨0, by omega, by omega, rfl, fun j h1 h2 => absurd h1 (by omega), ⟨heap_new W0 _⟩, ⟨blk_alloc AF.out _⟩, ⟨below_alloc AB.out _⟩⟩
    case round =>
     obtain ⟨i, hl, hi, rfl, HI, AI, AF2, AB2⟩ := hrel
     have z0 : wr.cell? ⟨W0.heap.size, 0, none⟩ = some (.int .i64 0) := cell_of AI.out 0 rfl
     have z1 : wr.cell? ⟨W0.heap.size, 1, none⟩ = some (.int .i64 1) := cell_of AI.out 1 rfl
     have z2 : wr.cell? ⟨W0.heap.size, 2, none⟩ = some (.func (.func 118) #[] #[]) := cell_of AI.out 2 rfl
     have z3 : wr.cell? ⟨W0.heap.size, 3, none⟩ = some (.int .i64 10) := cell_of AI.out 3 rfl
     by_cases hlt : i < 1
     ·have his : i < s.size := by have := HS.out; omega
      have hb0 : ((s[i]'his).toNat : Int) = bt s i := bt_at s i his
      cases hc : capB (bt s i)
      ·have HC : Hid (capB (bt s i) = false) := hc
       have hc2 : (!decide (65 ≤ ((s[i]'his).toNat : Int)) || !decide (((s[i]'his).toNat : Int) ≤ 90)) = true := by
        rw [← hb0] at hc; simp only [capB] at hc; rw [← Bool.not_and, hc]; rfl
       clear hb0 hc
       go_wp2
       go_quiet ((go_at_call 118; exact Calls.quiet_of_same (Zbv.calls _ _)))
       go_wp2
       go_quiet (fail)
       go_wp2
       go_ret3
       have hsp : splitOf s = (0, 0, 10) := by
        have h0 : i = 0 := by omega
        subst h0
        unfold splitOf; rw [if_neg (by have := HS.out; omega), if_pos (by simpa using HC.out)]
       rw [hsp]
       exact ⟨rfl, pw_below_drewN (pw_below_drewN AB2.out _) _⟩
      ·have HC : Hid (capB (bt s i) = true) := hc
       have hc2 : (!decide (65 ≤ ((s[i]'his).toNat : Int)) || !decide (((s[i]'his).toNat : Int) ≤ 90)) = false := by
        rw [← hb0] at hc; simp only [capB] at hc; rw [← Bool.not_and, hc]; rfl
       clear hb0 hc
       go_wp2
       go_quiet ((go_at_call 118; exact Calls.quiet_of_same (Zbv.calls _ _)))
       go_wp2
       go_roundw
       case rel => exact ⟨i + 1, by omega, by omega, by go_num, fun j h1 h2 => by
        rcases Nat.lt_or_ge j i with h | h
        ·exact HI.out j h1 h
        ·have : j = i := by omega
         subst this; exact HC.out, ⟨blk_drewN AI.out _⟩, ⟨blk_drewN AF2.out _⟩, ⟨pw_below_drewN AB2.out _⟩⟩
       case measure => simp [intOf]; omega
     ·have hie : i = 1 := by omega
      subst hie
      go_wp2
      go_roundw
      case rel => exact ⟨1, by omega, rfl, fun _ => HI.out 0 (by omega) (by omega), fun h => absurd h (by omega), AF2.out, AB2.out⟩
      case measure => simp [intOf]
   ·have z0 : W0.cell? ⟨w.heap.size, 4, none⟩ = some (.int .i64 1) := cell_of HF 4 rfl
    have z1 : W0.cell? ⟨w.heap.size, 5, none⟩ = some (.int .i64 7) := cell_of HF 5 rfl
    have z2 : W0.cell? ⟨w.heap.size, 6, none⟩ = some (.func (.func 119) #[] #[]) := cell_of HF 6 rfl
    have z3 : W0.cell? ⟨w.heap.size, 7, none⟩ = some (.int .i64 5) := cell_of HF 7 rfl
    have AF := Aside0.mk HF
    have AB := Aside0.mk HB
    clear HF HB
    go_wp2
    clear z0 z1 z2 z3
    go_loopw [7] (fun v7 wi => ∃ i : Nat, 1 ≤ i ∧ i ≤ 7 ∧ v7 = .int .i64 i ∧ Hid (∀ j : Nat, 1 ≤ j → j < i → digB (bt s j) = true) ∧ Aside0 (wi.heap[W0.heap.size]? = some (.cells #[.int .i64 1, .int .i64 7, .func (.func 119) #[] #[], .int .i64 5] 142 (0, 0))) ∧ Aside0 (wi.heap[w.heap.size]? = some (.cells formCells 142 (0, 0))) ∧ Aside0 (Below w.heap.size w wi)) (fun v7 _ => 7 - (intOf v7).toNat)
    case atStart => exact ⟨1, by omega, by omega, rfl, fun j h1 h2 => absurd h1 (by omega), ⟨heap_new W0 _⟩, ⟨blk_alloc AF.out _⟩, ⟨below_alloc AB.out _⟩⟩
    case round =>
     obtain ⟨i, hl, hi, rfl, HI, AI, AF2, AB2⟩ := hrel
     have z0 : wr.cell? ⟨W0.heap.size, 0, none⟩ = some (.int .i64 1) := cell_of AI.out 0 rfl
     have z1 : wr.cell? ⟨W0.heap.size, 1, none⟩ = some (.int .i64 7) := cell_of AI.out 1 rfl
     have z2 : wr.cell? ⟨W0.heap.size, 2, none⟩ = some (.func (.func 119) #[] #[]) := cell_of AI.out 2 rfl
     have z3 : wr.cell? ⟨W0.heap.size, 3, none⟩ = some (.int .i64 5) := cell_of AI.out 3 rfl
     by_cases hlt : i < 7
     ·have his : i < s.size := by have := HS.out; omega
      have hb0 : ((s[i]'his).toNat : Int) = bt s i := bt_at s i his
      cases hc : digB (bt s i)
      ·have HC : Hid (digB (bt s i) = false) := hc
       have hc2 : (!decide (48 ≤ ((s[i]'his).toNat : Int)) || !decide (((s[i]'his).toNat : Int) ≤ 57)) = true := by
        rw [← hb0] at hc; simp only [digB] at hc; rw [← Bool.not_and, hc]; rfl
       clear hb0 hc
       go_wp2
       go_quiet ((go_at_call 119; exact Calls.quiet_of_same (Zcm.calls _ _)))
       go_wp2
       go_quiet (fail)
       go_wp2
       go_ret3
       have hsp : splitOf s = (0, 0, 5) := by
        unfold splitOf; rw [if_neg (by have := HS.out; omega), if_neg (by rw [H1.out (by omega)]; decide), if_pos]
        rw [List.all_eq_false]
        exact ⟨i - 1, by simp; omega, by rw [show i - 1 + 1 = i by omega, HC.out]; decide⟩
       rw [hsp]
       exact ⟨rfl, pw_below_drewN (pw_below_drewN AB2.out _) _⟩
      ·have HC : Hid (digB (bt s i) = true) := hc
       have hc2 : (!decide (48 ≤ ((s[i]'his).toNat : Int)) || !decide (((s[i]'his).toNat : Int) ≤ 57)) = false := by
        rw [← hb0] at hc; simp only [digB] at hc; rw [← Bool.not_and, hc]; rfl
       clear hb0 hc
       go_wp2
       go_quiet ((go_at_call 119; exact Calls.quiet_of_same (Zcm.calls _ _)))
       go_wp2
       go_roundw
       case rel => exact ⟨i + 1, by omega, by omega, by go_num, fun j h1 h2 => by
        rcases Nat.lt_or_ge j i with h | h
        ·exact HI.out j h1 h
        ·have : j = i := by omega
         subst this; exact HC.out, ⟨blk_drewN AI.out _⟩, ⟨blk_drewN AF2.out _⟩, ⟨pw_below_drewN AB2.out _⟩⟩
       case measure => simp [intOf]; omega
     ·have hie : i = 7 := by omega
      subst hie
      go_wp2
      go_roundw
      case rel => exact ⟨2, by omega, rfl, H1.out ∘ (fun _ => by omega), fun _ => by rw [List.all_eq_true]; intro j hj; exact HI.out (j + 1) (by omega) (by have := List.mem_range.mp hj; omega), AF2.out, AB2.out⟩
      case measure => simp [intOf]
   ·have AB := Aside0.mk HB
    clear HF HB
    have hs7 : 7 < s.size := by have := HS.out; omega
    have hs0 : 0 < s.size := by have := HS.out; omega
    have hsl7 : ∀ W, (Instr.slice 9 (.string s) none (some (.int .i64 7)) none).run Tryz.prog W = .ok (.string (s.extract 0 7)) W := fun W => by
     rw [run_slice_string_to_if W 9 s .i64 7 Tryz.underlying9, if_pos (by omega)]; rfl
    have hsl17 : ∀ W, (Instr.slice 9 (.string s) (some (.int .i64 1)) (some (.int .i64 7)) none).run Tryz.prog W = .ok (.string (s.extract 1 7)) W := fun W => by
     rw [run_slice_string_if W 9 s .i64 .i64 1 7 Tryz.underlying9, if_pos (by omega), if_pos (by omega)]; rfl
    have hix7 : ∀ W, (Instr.index 9 (.string s) (.int .i64 7)).run Tryz.prog W = .ok (.int .u8 (s[7]'hs7).toNat) W := fun W => by
     rw [run_index_string W 9 s .i64 7 Tryz.underlying9, dif_pos ⟨by omega, by omega⟩]; rfl
    have hix0 : ∀ W, (Instr.index 9 (.string s) (.int .i64 0)).run Tryz.prog W = .ok (.int .u8 (s[0]'hs0).toNat) W := fun W => by
     rw [run_index_string W 9 s .i64 0 Tryz.underlying9, dif_pos ⟨by omega, by omega⟩]; rfl
    have hL : letSum (s.extract 0 7) (s.extract 0 7).size = letSum s 7 := letSum_cut s HS.out
    have hz : (s.extract 0 7).size ≤ 1000000 := by rw [ByteArray.size_extract]; omega
    obtain ⟨s7, e7⟩ : ∃ s7, s7 = s.extract 0 7 := ⟨_, rfl⟩
    rw [← e7] at hsl7 hL hz
    clear e7
    have HL := Hid.out (p := letSum s7 s7.size = letSum s 7) hL
    have HL2 : Hid (letSum s7 s7.size = letSum s 7) := hL
    clear hL HL
    have hb7 : ((s[7]'hs7).toNat : Int) = bt s 7 := bt_at s 7 hs7
    have hb0 : ((s[0]'hs0).toNat : Int) = bt s 0 := bt_at s 0 hs0
    have HB7 : Hid (((s[7]'hs7).toNat : Int) = bt s 7) := hb7
    have HB0 : Hid (((s[0]'hs0).toNat : Int) = bt s 0) := hb0
    clear hb7 hb0
    by_cases hc : (65 + (letSum s7 s7.size : Int)) = ((s[7]'hs7).toNat : Int)
    ·have hc2 : ((65 + (letSum s7 s7.size : Int)) != ((s[7]'hs7).toNat : Int)) = false := by simpa using hc
     have HC : Hid ((65 + (letSum s7 s7.size : Int)) = ((s[7]'hs7).toNat : Int)) := hc
     clear hc
     go_wp2
     go_quiet ((go_at_call 99; exact Calls.quiet_of_same (Zcd.hand _ hz _)))
     go_wp2_with (first | (go_at_call 100; refine (Tryz.strconv_Atoi _ (numOf s) (by rw [ByteArray.size_extract]; omega) (atoi_num s HS.out (H2.out (by omega))) _).mono ?_; rintro e w' ⟨rfl, tb, rfl⟩))
     go_ret3
     have hsp : splitOf s = (bt s 0, numOf s, 0) := by
      unfold splitOf
      rw [if_neg (by have := HS.out; omega), if_neg (by rw [H1.out (by omega)]; decide), if_neg (by rw [H2.out (by omega)]; decide), if_neg]
      rw [← HL2.out, ← HB7.out]; exact fun h => h HC.out
     rw [hsp, ← HB0.out]
     exact ⟨rfl, bytes_below (pw_below_drewN AB.out _) (by have := AB.out.size; simpa using this) _ _⟩
    ·have hc2 : ((65 + (letSum s7 s7.size : Int)) != ((s[7]'hs7).toNat : Int)) = true := by simpa using hc
     have HC : Hid (¬ (65 + (letSum s7 s7.size : Int)) = ((s[7]'hs7).toNat : Int)) := hc
     clear hc
     go_wp2
     go_quiet ((go_at_call 99; exact Calls.quiet_of_same (Zcd.hand _ hz _)))
     go_wp2
     go_ret3
     have hsp : splitOf s = (0, 0, 16) := by
      unfold splitOf
      rw [if_neg (by have := HS.out; omega), if_neg (by rw [H1.out (by omega)]; decide), if_neg (by rw [H2.out (by omega)]; decide), if_pos]
      rw [← HL2.out, ← HB7.out]; exact HC.out
     rw [hsp]
     exact ⟨rfl, pw_below_drewN AB.out _⟩
 ·have n8 : ((s.size : Int) != 8) = true := by simp; omega
  have hsp : splitOf s = (0, 0, 3) := by unfold splitOf; rw [if_pos h8]
  rw [hsp]
  clear h8 hsp
  go_enter Tryz.func76, Tryz.ntmps76
  go_wp2
  go_ret3
  exact ⟨rfl, Below.refl _ _⟩
end Go.Proofs.YtjgifmakhnkmdaaGreatDoor.XRep
