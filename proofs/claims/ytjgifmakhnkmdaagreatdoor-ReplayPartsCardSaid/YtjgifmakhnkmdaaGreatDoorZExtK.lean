import Derived.Maps.RangeWalk
import Derived.Maps.OwnSet
import Derived.Test.YtjgifmakhnkmdaaGreatDoorZExtH
namespace Go.Proofs.YtjgifmakhnkmdaaGreatDoor.XRep
open Go.RowKit Go.Proofs.YtjgifmakhnkmdaaGreatDoorW.PrintWords Go.Proofs.YtjgifmakhnkmdaaGreatDoorW.PrintLast Go.Proofs.YtjgifmakhnkmdaaGreatDoorW.PrintMore
open Go.Maps (Keyed)
set_option linter.unusedVariables false
instance decBA : DecidableEq ByteArray := fun a b => if h : a.data = b.data then .isTrue (by cases a; cases b; simp at h; rw [h]) else .isFalse (fun e => h (by rw [e]))
set_option linter.unusedSimpArgs false
def SetAt (w : World) (kt b n : Nat) (L : List Lit) : Prop :=
 ∃ D : DataW Unit, w.ownsMap Tryz.prog kt (plainElem Tryz.prog 4) b n D ∧ (∀ k, WideAt.IsKeyLit k → (Maps.has D k = true ↔ k ∈ L)) ∧ (∀ k z, WideAt.IsKeyLit k → Maps.has D k = true → D.atKey k z = .lit (.bool true))
def SetI (w : World) (b n : Nat) (l : List Int) : Prop := SetAt w 3 b n (l.map (Lit.int .i64))
def SetS (w : World) (b n : Nat) (l : List ByteArray) : Prop := SetAt w 9 b n (l.map (fun s => Lit.string s.data.toList))
theorem keyI : Keyed Tryz.prog 3 := Maps.int_keyed Tryz.underlying3
theorem keyS : Keyed Tryz.prog 9 := Maps.string_keyed Tryz.underlying9
set_option maxRecDepth 100000 in
theorem plain_bool_inv {v : Value} {x : Bool} {ps : List MemPlace} (h : plainElem (H := Unit) Tryz.prog 4 v = some (.lit (.bool x), ps)) : v = .bool x := by
 unfold plainElem at h
 rw [Tryz.underlying4] at h
 cases v <;> simp at h
 rw [h.1]
theorem zero4 (w : World) : (zeroValue 4).run Tryz.prog w = .ok (.bool false) w := by kernel_rfl
theorem SetAt.same {w : World} {kt b n : Nat} {L L' : List Lit} (h : SetAt w kt b n L) (hm : ∀ k, k ∈ L ↔ k ∈ L') : SetAt w kt b n L' := by
 obtain ⟨D, h1, h2, h3⟩ := h
 exact ⟨D, h1, fun k hk => (h2 k hk).trans (hm k), h3⟩
theorem SetAt.kept {w w' : World} {kt b n : Nat} {L : List Lit} {row : Option Nat} (h : SetAt w kt b n L) (hg : w.grownBy w' row) (hne : some b ≠ row) : SetAt w' kt b n L := by
 obtain ⟨D, h1, h2, h3⟩ := h
 exact ⟨D, h1.kept hg hne, h2, h3⟩
theorem grown_of_below {w w' : World} (h : Below w.heap.size w w') : w.grownBy w' none := ⟨h.os, h.tape, h.output, h.size, fun i hi _ => h.block i hi⟩
theorem SetAt.below {w w' : World} {kt b n : Nat} {L : List Lit} (h : SetAt w kt b n L) (hb : Below w.heap.size w w') : SetAt w' kt b n L := h.kept (grown_of_below hb) (by simp)
theorem SetAt.lt {w : World} {kt b n : Nat} {L : List Lit} (h : SetAt w kt b n L) : b < w.heap.size := by
 obtain ⟨D, h1, _⟩ := h
 exact h1.lt
theorem SetAt.made (w : World) (kt : Nat) : SetAt (w.alloc (.map #[] 0)) kt w.heap.size 0 [] :=
 ⟨_, World.ownsMap_made w Tryz.prog kt _, fun k _ => by simp [Maps.has], fun k z _ h => by simp [Maps.has] at h⟩
theorem SetAt.look {w : World} {kt b n t : Nat} {L : List Lit} (h : SetAt w kt b n L) (K : Keyed Tryz.prog kt) (ht : Tryz.prog.underlying t = some (.map kt 4)) {key : Value} {kl : Lit} (hkey : keyOf Tryz.prog kt key = some kl) {x : Bool} (hx : x = true ↔ kl ∈ L) :
  (Instr.lookup t (.map (some b)) key false).run Tryz.prog w = .ok (.bool x) w := by
 obtain ⟨D, h1, h2, h3⟩ := h
 obtain ⟨v, ps, hrun, hv⟩ := h1.lookup K ht (zero4 w) (plainElem_bool (H := Unit) Tryz.underlying4 false) hkey
 have hk := K.key hkey
 cases hh : Maps.has D kl
 ·rw [Maps.atKey_of_not_has hh] at hv
  have hxf : x = false := by
   cases x
   ·rfl
   ·rw [(h2 kl hk).2 (hx.1 rfl)] at hh; cases hh
  rw [hrun, plain_bool_inv hv, hxf]
 ·rw [h3 kl _ hk hh] at hv
  have hxt : x = true := hx.2 ((h2 kl hk).1 hh)
  rw [hrun, plain_bool_inv hv, hxt]
theorem SetAt.put {w : World} {kt b n t : Nat} {L : List Lit} (h : SetAt w kt b n L) (K : Keyed Tryz.prog kt) (ht : Tryz.prog.underlying t = some (.map kt 4)) (hn : n < maxLen) {key : Value} {kl : Lit} (hkey : keyOf Tryz.prog kt key = some kl) :
  ∃ w', (Instr.mapUpdate t (.map (some b)) key (.bool true)).run Tryz.prog w = .ok () w' ∧ SetAt w' kt b (n + 1) (L ++ [kl]) ∧ w.grownBy w' (some b) ∧ w'.heap.size = w.heap.size := by
 obtain ⟨D, h1, h2, h3⟩ := h
 obtain ⟨w', hrun, ho, ht'⟩ := h1.store K ht hn hkey (plainElem_bool (H := Unit) Tryz.underlying4 true)
 have hk := K.key hkey
 have hD := h1.isMap
 refine ⟨w', hrun, ⟨_, ho, fun k hkk => ?_, fun k z hkk hh => ?_⟩, ht'.grown, ?_⟩
 ·by_cases e : k = kl
  ·subst e
   simp [Maps.has_put_same hD hk]
  ·rw [Maps.has_put_other e, h2 k hkk]
   simp [e]
 ·by_cases e : k = kl
  ·subst e
   rw [Maps.atKey_put_same hD hk]
  ·rw [Maps.has_put_other e] at hh
   rw [Maps.atKey_put_other e, h3 k z hkk hh]
 ·obtain ⟨es, clock, es', clock', hb, rfl⟩ := ht'
  simp [ChangeMaps.setBlock]
def okI (x : Int) : Bool := decide (-9223372036854775808 ≤ x) && decide (x ≤ 9223372036854775807)
def okS (s : ByteArray) : Bool := decide (s.size ≤ 1000000)
theorem keyOfI {x : Int} (h : okI x = true) : keyOf Tryz.prog 3 (.int .i64 x) = some (.int .i64 x) :=
 Maps.keyOf_int_mk Tryz.underlying3 (by
  have e1 : IntKind.i64.min = -9223372036854775808 := by decide
  have e2 : IntKind.i64.max = 9223372036854775807 := by decide
  simp only [okI, Bool.and_eq_true, decide_eq_true_eq] at h
  simp only [Lit.wf, e1, e2, Bool.and_eq_true, decide_eq_true_eq]
  exact h)
theorem keyOfS {s : ByteArray} (h : okS s = true) : keyOf Tryz.prog 9 (.string s) = some (.string s.data.toList) :=
 WideMaps.keyOf_string_mk Tryz.underlying9 (by simp [okS] at h; show s.size ≤ _; simp [maxLen]; omega)
theorem bytes_inj {s s' : ByteArray} (h : s.data.toList = s'.data.toList) : s = s' := by
 cases s; cases s'; simp at h; rw [h]
def memS (s : ByteArray) (l : List ByteArray) : Bool := l.any (fun t => decide (t = s))
theorem memS_iff {s : ByteArray} {l : List ByteArray} : memS s l = true ↔ s ∈ l := by simp [memS]
theorem SetI.look {w : World} {b n : Nat} {l : List Int} (h : SetI w b n l) (x : Int) (hx : okI x = true) :
  (Instr.lookup 77 (.map (some b)) (.int .i64 x) false).run Tryz.prog w = .ok (.bool (decide (x ∈ l))) w :=
 SetAt.look h keyI Tryz.underlying77 (keyOfI hx) (by simp)
theorem SetS.look {w : World} {b n : Nat} {l : List ByteArray} (h : SetS w b n l) (s : ByteArray) (hs : okS s = true) :
  (Instr.lookup 76 (.map (some b)) (.string s) false).run Tryz.prog w = .ok (.bool (memS s l)) w :=
 SetAt.look h keyS Tryz.underlying76 (keyOfS hs) (by
  rw [memS_iff, List.mem_map]
  exact ⟨fun h => ⟨s, h, rfl⟩, fun ⟨s', h, e⟩ => by injection e with e; rw [← bytes_inj e]; exact h⟩)
theorem SetI.put {w : World} {b n : Nat} {l : List Int} (h : SetI w b n l) (hn : n < 1000000000) (x : Int) (hx : okI x = true) :
  ∃ w', (Instr.mapUpdate 77 (.map (some b)) (.int .i64 x) (.bool true)).run Tryz.prog w = .ok () w' ∧ SetI w' b (n + 1) (l ++ [x]) ∧ w.grownBy w' (some b) ∧ w'.heap.size = w.heap.size := by
 obtain ⟨w', h1, h2, h3⟩ := SetAt.put h keyI Tryz.underlying77 (by simp [maxLen]; omega) (keyOfI hx)
 exact ⟨w', h1, by unfold SetI; rw [List.map_append]; exact h2, h3⟩
theorem SetS.put {w : World} {b n : Nat} {l : List ByteArray} (h : SetS w b n l) (hn : n < 1000000000) (s : ByteArray) (hs : okS s = true) :
  ∃ w', (Instr.mapUpdate 76 (.map (some b)) (.string s) (.bool true)).run Tryz.prog w = .ok () w' ∧ SetS w' b (n + 1) (l ++ [s]) ∧ w.grownBy w' (some b) ∧ w'.heap.size = w.heap.size := by
 obtain ⟨w', h1, h2, h3⟩ := SetAt.put h keyS Tryz.underlying76 (by simp [maxLen]; omega) (keyOfS hs)
 exact ⟨w', h1, by unfold SetS; rw [List.map_append]; exact h2, h3⟩
end Go.Proofs.YtjgifmakhnkmdaaGreatDoor.XRep

namespace Go.Proofs.YtjgifmakhnkmdaaGreatDoor.XRep
set_option maxHeartbeats 8000000
set_option maxRecDepth 100000
open Go.RowKit Go.Proofs.YtjgifmakhnkmdaaGreatDoorW.PrintWords Go.Proofs.YtjgifmakhnkmdaaGreatDoorW.PrintLast Go.Proofs.YtjgifmakhnkmdaaGreatDoorW.PrintMore
set_option linter.unusedVariables false
set_option linter.unusedSimpArgs false
theorem meets_one (g b n : Nat) (l : List Int) (x : Int) (w : World) (hc : w.cell? ⟨g, 0, none⟩ = some (.map (some b))) (hs : SetI w b n l) (hx : okI x = true) :
  Calls Tryz.prog 83 #[.int .i64 x, .pointer (some ⟨g, 0, none⟩)] w fun e w' => e = .returned (.bool (decide (x ∈ l))) ∧ w' = w := by
 have hl := hs.look x hx
 generalize decide (x ∈ l) = r at hl ⊢
 clear hs hx
 go_enter Tryz.func83, Tryz.ntmps83
 go_wp2
 go_ret
 exact ⟨rfl, rfl⟩
theorem rd_mem {l : List Int} {k : Nat} (hk : k < l.length) : rd l k = l[k] := by simp [rd, List.getD_eq_getElem?_getD, List.getElem?_eq_getElem hk]
theorem rd_in {l : List Int} {k : Nat} (hk : k < l.length) : rd l k ∈ l := by rw [rd_mem hk]; exact List.getElem_mem hk
theorem any_none {l : List Int} {p : Int → Bool} (h : ∀ j : Nat, j < l.length → p (rd l j) = false) : l.any p = false := by
 rw [List.any_eq_false]
 intro x hx
 obtain ⟨j, hj, rfl⟩ := List.getElem_of_mem hx
 have := h j hj
 rw [rd_mem hj] at this
 simp [this]
theorem any_some {l : List Int} {p : Int → Bool} {j : Nat} (hj : j < l.length) (h : p (rd l j) = true) : l.any p = true := List.any_eq_true.mpr ⟨_, rd_in hj, h⟩
theorem meets_index (A : Option Addr) (c : Nat) (xs : List Int) (g b n : Nat) (l : List Int) (w : World) (hr : Kd.C (Kd.int .i64) w A xs.length xs) (hcc : xs.length ≤ c) (hok : ∀ x ∈ xs, okI x = true) (hc : w.cell? ⟨g, 0, none⟩ = some (.map (some b))) (hs : SetI w b n l) :
  Calls Tryz.prog 103 #[.slice A xs.length c, .func (.func 83) #[] #[.pointer (some ⟨g, 0, none⟩)]] w fun e w' => (∃ i : Int, e = .returned (.int .i64 i) ∧ decide (i ≥ 0) = xs.any (fun x => decide (x ∈ l))) ∧ w' = w := by
 have HR := Aside0.mk hr
 have HS := Aside0.mk hs
 have HC := Aside0.mk hc
 have HK := Aside0.mk hok
 have hmax : xs.length ≤ 9223372036854775807 := Kd.C_max hr
 clear hr hs hc hok
 go_enter Tryz.func103, Tryz.ntmps103
 go_wp2
 go_loop [8] (fun v8 => ∃ k : Nat, k ≤ xs.length ∧ v8 = .int .i64 k ∧ Hid (∀ j : Nat, j < k → decide (rd xs j ∈ l) = false)) (fun v8 => xs.length - (intOf v8).toNat)
 case atStart => exact ⟨0, Nat.zero_le _, rfl, fun j hj => absurd hj (by omega)⟩
 case round =>
  obtain ⟨k, hk1, rfl, HI⟩ := hrel
  by_cases hkl : k < xs.length
  ·obtain ⟨ad, eA, hx⟩ := Kd.at_int HR.out k (by omega) (by omega)
   subst eA
   simp only [Int.toNat_natCast] at hx
   have HX := fun w hs hc => meets_one g b n l (rd xs k) w hc hs (HK.out _ (rd_in hkl))
   cases d : decide (rd xs k ∈ l)
   ·simp only [d] at HX
    have D := Aside0.mk d
    clear d
    go_wp2_with (first | (go_at_call 83; refine (HX _ HS.out HC.out).mono ?_; rintro e4 w4 ⟨rfl, rfl⟩))
    go_round
    case rel => exact ⟨k + 1, by omega, by go_num, fun j hj => by
     rcases Nat.lt_or_ge j k with h | h
     ·exact HI.out j h
     ·have : j = k := by omega
      subst this; exact D.out⟩
    case measure => simp [intOf]; omega
   ·simp only [d] at HX
    have D := Aside0.mk d
    clear d
    go_wp2_with (first | (go_at_call 83; refine (HX _ HS.out HC.out).mono ?_; rintro e4 w4 ⟨rfl, rfl⟩))
    go_ret
    exact ⟨⟨k, rfl, by rw [any_some (p := fun x => decide (x ∈ l)) hkl D.out]; simp⟩, rfl⟩
  ·have hkn : k = xs.length := by omega
   subst hkn
   go_wp2
   go_ret
   exact ⟨⟨-1, rfl, by rw [any_none (p := fun x => decide (x ∈ l)) HI.out]; decide⟩, rfl⟩
theorem meets_contains (A : Option Addr) (c : Nat) (xs : List Int) (g b n : Nat) (l : List Int) (w : World) (hr : Kd.C (Kd.int .i64) w A xs.length xs) (hcc : xs.length ≤ c) (hok : ∀ x ∈ xs, okI x = true) (hc : w.cell? ⟨g, 0, none⟩ = some (.map (some b))) (hs : SetI w b n l) :
  Calls Tryz.prog 82 #[.slice A xs.length c, .func (.func 83) #[] #[.pointer (some ⟨g, 0, none⟩)]] w fun e w' => e = .returned (.bool (xs.any (fun x => decide (x ∈ l)))) ∧ w' = w := by
 have HX := meets_index A c xs g b n l w hr hcc hok hc hs
 generalize xs.any (fun x => decide (x ∈ l)) = r at HX ⊢
 clear hr hcc hok hc hs
 go_enter Tryz.func82, Tryz.ntmps82
 go_wp2_with (first | (go_at_call 103; refine HX.mono ?_; rintro e4 w4 ⟨⟨i, rfl, hi⟩, rfl⟩))
 go_ret
 exact ⟨by first | rfl | (rw [← hi]; rfl) | (simp [← hi]), rfl⟩
theorem Zci.calls (A : Option Addr) (c : Nat) (xs : List Int) (b n : Nat) (l : List Int) (w : World) (hr : Kd.C (Kd.int .i64) w A xs.length xs) (hcc : xs.length ≤ c) (hok : ∀ x ∈ xs, okI x = true) (hs : SetI w b n l) :
  Calls Tryz.prog 47 #[.map (some b), .slice A xs.length c] w fun e w' => e = .returned (.bool (xs.any (fun x => decide (x ∈ l)))) ∧ Below w.heap.size w w' := by
 have HX := fun (w : World) hr hc hs => meets_contains A c xs w.heap.size b n l (w.alloc (.cells #[.map (some b)] 77)) hr hcc hok hc hs
 have HR := Aside0.mk hr
 have HS := Aside0.mk hs
 clear hr hs
 generalize xs.any (fun x => decide (x ∈ l)) = r at HX ⊢
 go_enter Tryz.func47, Tryz.ntmps47
 go_wp2_with (first | (go_at_call 82; refine (HX w (Kd.C_alloc HR.out _) (cell_of (heap_new w _) 0 rfl) (SetAt.below HS.out (below_alloc (Below.refl _ _) _))).mono ?_; rintro e4 w4 ⟨rfl, rfl⟩))
 go_ret
 exact ⟨rfl, below_alloc (Below.refl _ _) _⟩
end Go.Proofs.YtjgifmakhnkmdaaGreatDoor.XRep
