import Derived.BigRegion
import Derived.Test.YtjgifmakhnkmdaaGreatDoorZExtN1
namespace Go.Proofs.YtjgifmakhnkmdaaGreatDoor.XRep
open Go.RowKit Go.Proofs.YtjgifmakhnkmdaaGreatDoorW.PrintWords Go.Proofs.YtjgifmakhnkmdaaGreatDoorW.PrintLast Go.Proofs.YtjgifmakhnkmdaaGreatDoorW.PrintMore
set_option linter.unusedVariables false
set_option linter.unusedSimpArgs false
def assigned_T6 : Bool × List (List Nat × List Nat) := (true, [([], []), ([], []), ([1], [1]), ([], []), ([2, 3], [2, 3]), ([4], [4]), ([], []), ([6], [6]), ([], []), ([8], [8]), ([7, 9], [7, 9]), ([10], [10]), ([5, 11], [5, 11]), ([0, 12], [0, 12]), ([13, 13, 0, 1, 2, 3, 4, 5, 6, 7, 8, 9, 10, 11, 12, 13], [0, 13])])
def assigned_B6 : List Nat := [0, 0, 2, 0, 14, 30, 0, 64, 0, 256, 960, 1984, 4094, 8191, 16383]
theorem assigned_tab6 : rtab .any (opsOf Tryz.f48 6) = assigned_T6 := by kernel_rfl
theorem assigned_bits6 : waitsOk assigned_T6.2 assigned_B6 = true := by kernel_rfl
def pairsOf (fam : List Int) : List Int → List Int
 | a :: b :: r => if b ∈ fam then a :: b :: pairsOf fam r else pairsOf fam r
 | _ => []
theorem pairsOf_end (fam l : List Int) (h : l.length ≤ 1) : pairsOf fam l = [] := by
 match l, h with
 | [], _ => rfl
 | [_], _ => rfl
theorem pairsOf_step (fam l : List Int) (n : Nat) (h : n + 1 < l.length) : pairsOf fam (l.drop n) = if rd l ((n : Int) + 1) ∈ fam then rd l (n : Int) :: rd l ((n : Int) + 1) :: pairsOf fam (l.drop (n + 2)) else pairsOf fam (l.drop (n + 2)) := by
 have e1 : rd l (n : Int) = l[n] := rd_mem (by omega)
 have e2 : rd l ((n : Int) + 1) = l[n + 1] := by
  rw [show ((n : Int) + 1) = ((n + 1 : Nat) : Int) by omega]
  exact rd_mem (by omega)
 have e3 : l.drop n = l[n] :: l[n + 1] :: l.drop (n + 2) := by
  rw [List.drop_eq_getElem_cons (show n < l.length by omega), List.drop_eq_getElem_cons (show n + 1 < l.length by omega)]
 rw [e1, e2, e3]
 rfl
theorem wrap_nk2 {nk : Nat} (h : nk ≤ 2000) : wrap64 ((nk : Int) + 2) = ((nk + 2 : Nat) : Int) := by unfold wrap64; omega
theorem grown_set {w W : World} {g j : Nat} (h : Below w.heap.size w W) (v : Value) : w.grownBy (W.setCell ⟨g, j, none⟩ v) (some g) :=
 ⟨h.os, h.tape, h.output, by have := h.size; simpa [World.setCell] using this, fun i hi hg => (Below.heap_setCell W ⟨g, j, none⟩ v i (fun e => hg (by rw [e]))).trans (h.block i hi)⟩
theorem grown_set2 {w W : World} {g j p : Nat} (h : w.grownBy W (some p)) (hg : w.heap.size ≤ g) (v : Value) : w.grownBy (W.setCell ⟨g, j, none⟩ v) (some p) :=
 ⟨h.os, h.tape, h.output, by have := h.size; simpa [World.setCell] using this, fun i hi hp => (Below.heap_setCell W ⟨g, j, none⟩ v i (by show i ≠ g; omega)).trans (h.block i hi hp)⟩
theorem evSet_far {w : World} {g eb t : Nat} {cs : Array Value} (h : w.heap[g]? = some (.cells cs t (0, 0))) (hne : g ≠ eb) (e : S34) (A4 : Option Addr) (c4 : Nat) : (evSet w eb e A4 c4).heap[g]? = some (.cells cs t (0, 0)) :=
 blk_far (p := ⟨eb, 5, none⟩) (blk_far (p := ⟨eb, 4, none⟩) (blk_far (p := ⟨eb, 3, none⟩) (blk_far (p := ⟨eb, 2, none⟩) (blk_far (p := ⟨eb, 1, none⟩) (blk_far (p := ⟨eb, 0, none⟩) h hne _) hne _) hne _) hne _) hne _) hne _
theorem evSet_R {w : World} {eb base : Nat} {v : Value} {xs : List Int} {x0 x1 x2 x3 x4 x5 : Value} (h : Kd.R (Kd.int .i64) 3 w base (fun _ => True) v xs) (hb : w.heap[eb]? = some (.cells #[x0, x1, x2, x3, x4, x5] 34 (0, 0))) (e : S34) (A4 : Option Addr) (c4 : Nat) : Kd.R (Kd.int .i64) 3 (evSet w eb e A4 c4) base (fun _ => True) v xs :=
 Kd.R_set (Kd.R_set (Kd.R_set (Kd.R_set (Kd.R_set (Kd.R_set h hb (by decide) 0 _) (blk_put hb 0 _ rfl) (by decide) 1 _) (blk_put (blk_put hb 0 _ rfl) 1 _ rfl) (by decide) 2 _) (blk_put (blk_put (blk_put hb 0 _ rfl) 1 _ rfl) 2 _ rfl) (by decide) 3 _) (blk_put (blk_put (blk_put (blk_put hb 0 _ rfl) 1 _ rfl) 2 _ rfl) 3 _ rfl) (by decide) 4 _) (blk_put (blk_put (blk_put (blk_put (blk_put hb 0 _ rfl) 1 _ rfl) 2 _ rfl) 3 _ rfl) 4 _ rfl) (by decide) 5 _
theorem grown_drew {w W : World} {p : Nat} (h : w.grownBy W (some p)) : w.grownBy W.drew (some p) := ⟨h.os, h.tape, h.output, h.size, h.block⟩
set_option maxHeartbeats 8000000 in
set_option maxRecDepth 100000 in
theorem Zbp.calls (p bf nf : Nat) (x0 x1 x3 x4 x5 : Value) (bg : Bool) (fam : List Int) (e : S34) (A4 : Option Addr) (c4 : Nat) (w : World) (hp : w.heap[p]? = some (.cells #[x0, x1, .map (some bf), x3, x4, x5, .bool bg] 79 (0, 0))) (hf : SetI w bf nf fam)
  (hr : Kd.C (Kd.int .i64) w A4 e.f4.length e.f4) (hc : e.f4.length ≤ c4) (hok : ∀ x ∈ e.f4, okI x = true) (hl : e.f4.length ≤ 1000) :
  Calls Tryz.prog 48 #[.pointer (some ⟨p, 0, none⟩), .agg #[.int .i64 e.f0, .int .i64 e.f1, .string e.f2, .string e.f3, .slice A4 e.f4.length c4, .string e.f5]] w fun en w' =>
   ∃ v4, en = .returned (.tuple #[.agg #[.int .i64 e.f0, .int .i64 e.f1, .string e.f2, .string e.f3, v4, .string e.f5], .bool (bg || !(pairsOf fam e.f4).isEmpty)]) ∧ Kd.R (Kd.int .i64) 3 w' w.heap.size (fun _ => True) v4 (pairsOf fam e.f4) ∧ w.grownBy w' (some p) ∧ w'.heap[p]? = some (.cells #[x0, x1, .map (some bf), x3, x4, x5, .bool (bg || !(pairsOf fam e.f4).isEmpty)] 79 (0, 0)) := by
 have HP := Aside0.mk hp
 have HF := Aside0.mk hf
 have HR := Aside0.mk hr
 have HC := Aside0.mk hc
 have HK := Aside0.mk hok
 have HL := Aside0.mk hl
 clear hp hf hr hc hok hl
 obtain ⟨b', hb'⟩ : ∃ b', b' = (bg || !(pairsOf fam e.f4).isEmpty) := ⟨_, rfl⟩
 rw [← hb']
 have BB := Aside0.mk hb'
 clear hb'
 go_enter Tryz.func48, Tryz.ntmps48
 go_wp2_with (first | ((with_reducible refine gate_dst (N := 3) rfl ?_); refine box_event ?hg (N := 3) ?hd (cs := #[.int .i64 e.f0, .int .i64 e.f1, .string e.f2, .string e.f3, .slice A4 e.f4.length c4, .string e.f5]) (t := 34) ?hr ?_; (case hd => rfl); (case hg => rfl); (case hr => first | (go_simp; done) | (go_simp; rfl)); intro eb hg w1 hbox hb; have BE := Aside0.mk hbox; have GE := Aside0.mk hg; have HB := Aside0.mk hb; clear hbox hg hb) | ((with_reducible refine gate_dst (N := 4) rfl ?_); refine box_event ?hg (N := 4) ?hd (cs := evz) (t := 34) ?hr ?_; (case hd => rfl); (case hg => rfl); (case hr => first | (go_simp; done) | (go_simp; rfl)); intro rb hg w2 hbox hb; have BZ := Aside0.mk hbox; have GZ := Aside0.mk hg; have HB2 := Aside0.mk (below_step HB.out hb); have BE2 := Aside0.mk (blk_below BE.out hb); have NE := Aside0.mk (show eb < rb by rw [hg]; exact blk_lt BE.out); clear hbox hg hb))
 go_loopg [6, 7] (e.f4.length + 2) (fun kq v6 v7 wx => ∃ (nk i : Nat) (ps : List Int), v7 = .int .i64 nk ∧ Aside0 (nk = 2 * i) ∧ Aside0 (nk + kq = e.f4.length + 2) ∧ Aside0 (ps ++ pairsOf fam (e.f4.drop nk) = pairsOf fam e.f4) ∧ Aside0 (ps.length ≤ nk) ∧ Aside0 (Kd.R (Kd.int .i64) 3 wx w.heap.size (fun _ => True) v6 ps) ∧ Aside0 (wx.heap[eb]? = some (.cells #[.int .i64 e.f0, .int .i64 e.f1, .string e.f2, .string e.f3, .slice A4 e.f4.length c4, .string e.f5] 34 (0, 0))) ∧ Aside0 (wx.heap[rb]? = some (.cells evz 34 (0, 0))) ∧ Aside0 (Below w.heap.size w wx))
 case atStart => exact ⟨0, 0, [], rfl, ⟨rfl⟩, ⟨by omega⟩, ⟨rfl⟩, ⟨Nat.le_refl _⟩, ⟨Kd.R_nil _ _ _ _ _⟩, BE2, BZ, HB2⟩
 case round =>
  clear BE2 HB2 HB BE BZ
  obtain ⟨nk, i, ps, rfl, HI1, HI2, HSP, HPL, HO, BE, BZ, HB⟩ := hrel
  have hnk : nk ≤ 1002 := Nat.le_trans (Nat.le_add_right nk _) (Nat.le_trans (Nat.le_of_eq HI2.out) (Nat.add_le_add_right HL.out 2))
  have HNK := Aside0.mk hnk
  have HPW := Aside0.mk (blk_below HP.out HB.out)
  have q4 : wr.cell? ⟨eb, 4, none⟩ = some (.slice A4 e.f4.length c4) := cell_of BE.out 4 rfl
  have hl4 := HC.out
  have hl5 := HL.out
  by_cases hlt : nk + 1 < e.f4.length
  ·obtain ⟨ad4, eA4, x0⟩ := Kd.at_int (Kd.C_below HR.out HB.out) (nk : Int) (by omega) (by omega)
   obtain ⟨ad5, eA5, x1⟩ := Kd.at_int (Kd.C_below HR.out HB.out) ((nk : Int) + 1) (by omega) (by omega)
   obtain ⟨ad6, eA6, xw0⟩ := Kd.at_int HR.out (nk : Int) (by omega) (by omega)
   obtain ⟨ad7, eA7, xw1⟩ := Kd.at_int HR.out ((nk : Int) + 1) (by omega) (by omega)
   cases eA4
   obtain rfl : ad4 = ad5 := (by injection eA5)
   obtain rfl : ad4 = ad6 := (by injection eA6)
   obtain rfl : ad4 = ad7 := (by injection eA7)
   have Xw0 := Aside0.mk xw0
   have Xw1 := Aside0.mk xw1
   clear xw0 xw1 eA6 eA7
   have o1 : okI (rd e.f4 ((nk : Int) + 1)) = true := HK.out _ (by rw [show ((nk : Int) + 1) = ((nk + 1 : Nat) : Int) by omega]; exact rd_in (by omega))
   have hsp := HSP.out
   rw [pairsOf_step fam e.f4 nk hlt] at hsp
   simp only [Int.toNat_natCast] at x0
   have tx : ((nk : Int) + 1).toNat = nk + 1 := by omega
   have x2 := x1
   rw [tx] at x2
   replace x2 : wr.cell? ⟨ad4.block, ad4.off + (nk + 1), none⟩ = some (.int .i64 (rd e.f4 ((nk : Int) + 1))) := by simpa [Addr.add] using x2
   have p2 : wr.cell? ⟨p, 2, none⟩ = some (.map (some bf)) := cell_of HPW.out 2 rfl
   have lk : ∀ m, (Instr.lookup 77 (.map (some bf)) (.int .i64 (rd e.f4 ((nk : Int) + 1))) false).run Tryz.prog (wr.drewN m) = .ok (.bool (decide (rd e.f4 ((nk : Int) + 1) ∈ fam))) (wr.drewN m) := fun m => SetI.look (SetAt.below HF.out (pw_below_drewN HB.out m)) _ o1
   have lt0 : nk < e.f4.length := Nat.lt_of_succ_lt hlt
   have lt1 : (nk : Int) + 1 < (e.f4.length : Int) := by omega
   have lz : (0 : Int) ≤ (nk : Int) + 1 := by omega
   have ew := wrap_nk (nk := nk) (Nat.le_trans hnk (by decide))
   have EW := Aside0.mk ew
   clear tx eA5 ew
   go_upto_region 5 with (fail)
   by_cases d : rd e.f4 ((nk : Int) + 1) ∈ fam
   ·rw [if_pos d] at hsp
    simp only [decide_eq_true d] at lk
    have HSP' := Aside0.mk hsp
    clear hsp d
    have ew := EW.out
    go_quiet (fail)
    clear ew
    have hb6 := pw_below_drewN (Below.refl wr.heap.size wr) nq
    have HB6 := Aside0.mk (below_step HB.out hb6)
    have BE6 := Aside0.mk (blk_below BE.out hb6)
    have BZ6 := Aside0.mk (blk_below BZ.out hb6)
    have HO6 := Aside0.mk (Kd.R_below HO.out hb6)
    replace x0 := cell_kept hb6 x0
    replace x1 := cell_kept hb6 x1
    replace x2 := cell_kept hb6 x2
    clear q4 p2 lk hb6 HB BE BZ HO o1 HSP HPW
    generalize wr.drewN nq = w6 at HB6 BE6 BZ6 HO6 x0 x1 x2 ⊢
    go_upto_region 6 with (fail)
    have hxd : ∃ x : Int, x = (nk : Int) := ⟨_, rfl⟩
    obtain ⟨x, hx⟩ := hxd
    have hyd : ∃ y : Int, y = x + 1 := ⟨_, rfl⟩
    obtain ⟨y, hy⟩ := hyd
    have hx0 : (0 ≤ x) = True := eq_true (by omega)
    have hx1 : (x < (e.f4.length : Int)) = True := eq_true (by omega)
    have hy0 : (0 ≤ y) = True := eq_true (by omega)
    have hy1 : (y < (e.f4.length : Int)) = True := eq_true (by omega)
    have ewy : wrap64 (x + 1) = y := by rw [hx, hy, hx]; exact EW.out
    have ewz : IntKind.i64.wrap (x + 1) = y := (i64_w _).trans ewy
    have xw0 : w.cell? (ad4.add x.toNat) = some (.int .i64 (rd e.f4 x)) := by rw [hx]; exact Xw0.out
    have xw1 : w.cell? (ad4.add y.toNat) = some (.int .i64 (rd e.f4 y)) := by rw [hy, hx]; exact Xw1.out
    rw [← hx] at ⊢
    have HXY := Aside0.mk (And.intro hx hy)
    have HLT := Aside0.mk hlt
    clear hx hy x0 x1 x2 lt0 lt1 lz hlt hl5
    have HBD := Aside0.mk (below_drew HB6.out)
    have BD := Aside0.mk (blk_drew BE6.out)
    have HOD := Aside0.mk (Kd.R_drew HO6.out)
    have BZD := Aside0.mk (blk_drew BZ6.out)
    refine start_ (n := 15) (S := fun w' => w'.cell? ⟨eb, 4, none⟩ = some (.slice (some ad4) e.f4.length c4) ∧ w'.cell? (ad4.add x.toNat) = some (.int .i64 (rd e.f4 x)) ∧ w'.cell? (ad4.add y.toNat) = some (.int .i64 (rd e.f4 y))) (ds := []) #[false, false, false, false, false, false, false, false, false, false, false, false, false, false, false] (by kernel_rfl) rfl rfl ⟨cell_of BD.out 4 rfl, cell_kept HBD.out xw0, cell_kept HBD.out xw1⟩ (fun hHeld => ?_); refine with_tabW assigned_tab6 assigned_bits6 (fun HT_ HW_ => ?_)
    clear HO6 BE6 BZ6 HB6
    have HO6 := HOD
    have BE6 := BD
    have BZ6 := BZD
    have HB6 := HBD
    clear HOD BD BZD HBD
    generalize w6.drew = w7 at HO6 BE6 BZ6 HB6 hHeld ⊢
    refine pure_ (i := 0) (N := some 27) (v := ?_) (a' := ?_) #[true, false, false, false, false, false, false, false, false, false, false, false, false, false, false] rfl rfl (any_of HT_.out (by kernel_rfl)) (fun _ _ _ h => h) (Or.inl ⟨by rfl, ?_⟩) ?_ ?_
    rotate_left
    ·intro w'
     go_simp
     with_reducible rfl
    rotate_left
    ·simp only [Act.put, List.setIfInBounds_toArray, List.set_cons_zero, List.set_cons_succ, i64_w]
     rfl
    refine pure_ (i := 1) (N := some 28) (v := ?_) (a' := ?_) #[true, true, false, false, false, false, false, false, false, false, false, false, false, false, false] rfl rfl (any_of HT_.out (by kernel_rfl)) (fun _ _ _ h => h) (Or.inl ⟨by rfl, ?_⟩) ?_ ?_
    rotate_left
    ·intro w'
     go_simp
     with_reducible rfl
    rotate_left
    ·simp only [Act.put, List.setIfInBounds_toArray, List.set_cons_zero, List.set_cons_succ, i64_w]
     rfl
    refine pure_ (i := 3) (N := some 30) (v := ?_) (a' := ?_) #[true, true, false, true, false, false, false, false, false, false, false, false, false, false, false] rfl rfl (any_of HT_.out (by kernel_rfl)) (fun _ _ _ h => h) (Or.inl ⟨by rfl, ?_⟩) ?_ ?_
    rotate_left
    ·intro w'
     go_simp
     with_reducible rfl
    rotate_left
    ·simp only [Act.put, List.setIfInBounds_toArray, List.set_cons_zero, List.set_cons_succ, i64_w]
     rfl
    refine pure_ (i := 6) (N := some 33) (v := ?_) (a' := ?_) #[true, true, false, true, false, false, true, false, false, false, false, false, false, false, false] rfl rfl (any_of HT_.out (by kernel_rfl)) (fun _ _ _ h => h) (Or.inl ⟨by rfl, ?_⟩) ?_ ?_
    rotate_left
    ·intro w'
     go_simp
     with_reducible rfl
    rotate_left
    ·simp only [Act.put, List.setIfInBounds_toArray, List.set_cons_zero, List.set_cons_succ, i64_w]
     rfl
    refine pure_ (i := 8) (N := some 35) (v := ?_) (a' := ?_) #[true, true, false, true, false, false, true, false, true, false, false, false, false, false, false] rfl rfl (any_of HT_.out (by kernel_rfl)) (fun _ _ _ h => h) (Or.inl ⟨by rfl, ?_⟩) ?_ ?_
    rotate_left
    ·intro w'
     go_simp
     with_reducible rfl
    rotate_left
    ·simp only [Act.put, List.setIfInBounds_toArray, List.set_cons_zero, List.set_cons_succ, i64_w]
     rfl
    refine pure_ (i := 9) (N := some 36) (v := ?_) (a' := ?_) #[true, true, false, true, false, false, true, false, true, true, false, false, false, false, false] rfl rfl (any_of HT_.out (by kernel_rfl)) (fun _ _ _ h => h) (Or.inl ⟨by rfl, ?_⟩) ?_ ?_
    rotate_left
    ·intro w'
     go_simp
     with_reducible rfl
    rotate_left
    ·simp only [Act.put, List.setIfInBounds_toArray, List.set_cons_zero, List.set_cons_succ, i64_w]
     rfl
    refine take_ (i := 2) (N := some 29) (v := ?_) (a' := ?_) #[true, true, true, true, false, false, true, false, true, true, false, false, false, false, false] rfl rfl (take_ofW HT_.out HW_.out (by kernel_rfl)) (fun _ _ _ h => h) (Or.inl ⟨by rfl, ?_⟩) hHeld ?_ ?_
    rotate_left
    ·rintro w' ⟨s0, s1, s2⟩
     go_simp
     with_reducible rfl
    rotate_left
    ·simp only [Act.put, List.setIfInBounds_toArray, List.set_cons_zero, List.set_cons_succ, i64_w]
     rfl
    refine pure_ (i := 4) (N := some 31) (v := ?_) (a' := ?_) #[true, true, true, true, true, false, true, false, true, true, false, false, false, false, false] rfl rfl (any_of HT_.out (by kernel_rfl)) (fun _ _ _ h => h) (Or.inl ⟨by rfl, ?_⟩) ?_ ?_
    rotate_left
    ·intro w'
     go_simp
     with_reducible rfl
    rotate_left
    ·simp only [Act.put, List.setIfInBounds_toArray, List.set_cons_zero, List.set_cons_succ, i64_w]
     rfl
    refine take_ (i := 5) (N := some 32) (v := ?_) (a' := ?_) #[true, true, true, true, true, true, true, false, true, true, false, false, false, false, false] rfl rfl (take_ofW HT_.out HW_.out (by kernel_rfl)) (fun _ _ _ h => h) (Or.inl ⟨by rfl, ?_⟩) hHeld ?_ ?_
    rotate_left
    ·rintro w' ⟨s0, s1, s2⟩
     go_simp
     with_reducible rfl
    rotate_left
    ·simp only [Act.put, List.setIfInBounds_toArray, List.set_cons_zero, List.set_cons_succ, i64_w]
     rfl
    refine take_ (i := 7) (N := some 34) (v := ?_) (a' := ?_) #[true, true, true, true, true, true, true, true, true, true, false, false, false, false, false] rfl rfl (take_ofW HT_.out HW_.out (by kernel_rfl)) (fun _ _ _ h => h) (Or.inl ⟨by rfl, ?_⟩) hHeld ?_ ?_
    rotate_left
    ·rintro w' ⟨s0, s1, s2⟩
     go_simp
     with_reducible rfl
    rotate_left
    ·simp only [Act.put, List.setIfInBounds_toArray, List.set_cons_zero, List.set_cons_succ, i64_w]
     rfl
    refine pure_ (i := 10) (N := some 37) (v := ?_) (a' := ?_) #[true, true, true, true, true, true, true, true, true, true, true, false, false, false, false] rfl rfl (any_of HT_.out (by kernel_rfl)) (fun _ _ _ h => h) (Or.inl ⟨by rfl, ?_⟩) ?_ ?_
    rotate_left
    ·intro w'
     go_simp
     with_reducible rfl
    rotate_left
    ·simp only [Act.put, List.setIfInBounds_toArray, List.set_cons_zero, List.set_cons_succ, i64_w]
     rfl
    refine take_ (i := 11) (N := some 38) (v := ?_) (a' := ?_) #[true, true, true, true, true, true, true, true, true, true, true, true, false, false, false] rfl rfl (take_ofW HT_.out HW_.out (by kernel_rfl)) (fun _ _ _ h => h) (Or.inl ⟨by rfl, ?_⟩) hHeld ?_ ?_
    rotate_left
    ·rintro w' ⟨s0, s1, s2⟩
     go_simp
     with_reducible rfl
    rotate_left
    ·simp only [Act.put, List.setIfInBounds_toArray, List.set_cons_zero, List.set_cons_succ, i64_w]
     rfl
    refine one_ (i := 12) (N := some 39) #[true, true, true, true, true, true, true, true, true, true, true, true, true, false, false] rfl rfl (one_of HT_.out (by kernel_rfl)) (by decide) (fun K hK => ?_)
    refine Kd.R_lit_step (Kd.int .i64) _ 3 ?hg (N := 39) ?hd (xs := ([rd e.f4 x, rd e.f4 y] : List Int)) (inner := [.int .i64 (rd e.f4 x), .int .i64 (rd e.f4 y)]) (ok := fun _ => True) (okp := fun _ => True) ?hr ?hp (fun _ hk => hk) trivial (Below.refl _ _) (Nat.le_refl _) (by simp) ?_; (case hd => rfl); (case hg => rfl); (case hr => first | (go_simp; done) | (go_simp; rfl)); (case hp => exact (Reps.one (show Kd.M (Kd.int .i64) _ _ _ (rd e.f4 x) [.int .i64 (rd e.f4 x)] from rfl) (Reps.one (show Kd.M (Kd.int .i64) _ _ _ (rd e.f4 y) [.int .i64 (rd e.f4 y)] from rfl) (Reps.none _ _))))
    intro v530 w14 ho15 hb hg_ hnew_
    clear hg_ hnew_
    have n0_ := Aside0.mk (Kd.R_elder' HO6.out (Kd.R_base ho15) hb)
    have n1_ := Aside0.mk (Kd.R_lower (Kd.R_new' ho15 (Kd.R_lt HO6.out)) (below_size HB6.out))
    have n2_ := Aside0.mk (blk_below BE6.out hb)
    have n4_ := Aside0.mk (blk_below BZ6.out hb)
    have n3_ := Aside0.mk (below_step HB6.out hb)
    clear HO6 BE6 BZ6 HB6
    have HO6 := n0_
    have HO7 := n1_
    have BE6 := n2_
    have BZ6 := n4_
    have HB6 := n3_
    clear n0_ n1_ n2_ n3_ n4_ hb ho15
    obtain ⟨Ao17, co17, eo17⟩ := Kd.R_slice HO7.out
    subst eo17
    refine hK.out _ _ ⟨cell_of BE6.out 4 rfl, cell_kept HB6.out xw0, cell_kept HB6.out xw1⟩ (fun hHeld => ?_)
    clear hK K
    refine norm_ (a' := ?_) ?_ ?_
    rotate_left
    ·show Act.put _ (some 39) _ = _
     simp only [Act.put, List.setIfInBounds_toArray, List.set_cons_zero, List.set_cons_succ, i64_w]
     rfl
    refine one_ (i := 13) (N := some 40) #[true, true, true, true, true, true, true, true, true, true, true, true, true, true, false] rfl rfl (one_of HT_.out (by kernel_rfl)) (by decide) (fun K hK => ?_)
    refine Kd.R_append_rows_step (Kd.int .i64) (w0 := w) w.heap.size (by rfl) (.tmp 27) (.tmp 39) 32 3 (.int .i64 0) 8 rfl Tryz.underlying32 info3 rfl (by decide) (by omega) u6 ps [rd e.f4 x, rd e.f4 y] _ _ _ (fun k_ => some k_ ≠ (.slice Ao17 ([rd e.f4 x, rd e.f4 y] : List Int).length co17 : Value).ownBlock) (fun _ => False) rfl rfl ?aO ?aR (fun _ _ h => h) (fun _ h => h.elim) ?aF ?aB ?aS ?aL ?_
    (case aR => exact (Kd.R_reads' HO7.out).2.2)
    (case aB => exact HB6.out)
    (case aF => exact (fun k_ hk => Kd.fresh' (Kd.R_lt HO7.out) k_ hk))
    (case aO => exact Kd.R_mono HO6.out (fun _ hk => hk.2))
    (case aS => exact below_size HB6.out)
    (case aL => have := HPL.out; show (ps.length + 2) * 8 ≤ _; omega)
    intro v533 w16 ho hb hg hat
    have n0_ := Aside0.mk (blk_grown BE6.out hg (Kd.R_ne HO6.out BE6.out (by decide)))
    have n1_ := Aside0.mk (blk_grown BZ6.out hg (Kd.R_ne HO6.out BZ6.out (by decide)))
    clear BE6 BZ6 HO7 HB6 HO6
    have BE6 := n0_
    have BZ6 := n1_
    have HB6 := Aside0.mk hb
    have HO8 := Aside0.mk (Kd.R_mono ho (fun _ _ => trivial : ∀ k, _ → True))
    clear n0_ n1_ ho hb hg hat
    refine hK.out _ _ ⟨cell_of BE6.out 4 rfl, cell_kept HB6.out xw0, cell_kept HB6.out xw1⟩ (fun hHeld => ?_)
    clear hK K
    refine norm_ (a' := ?_) ?_ ?_
    rotate_left
    ·show Act.put _ (some 40) _ = _
     simp only [Act.put, List.setIfInBounds_toArray, List.set_cons_zero, List.set_cons_succ, i64_w]
     rfl
    refine pure_ (i := 14) (N := some 6) (v := ?_) (a' := ?_) #[true, true, true, true, true, true, true, true, true, true, true, true, true, true, true] rfl rfl (any_of HT_.out (by kernel_rfl)) (fun _ _ _ h => h) (Or.inl ⟨by rfl, ?_⟩) ?_ ?_
    rotate_left
    ·intro w'
     go_simp
     with_reducible rfl
    rotate_left
    ·simp only [Act.put, List.setIfInBounds_toArray, List.set_cons_zero, List.set_cons_succ, i64_w]
     rfl
    refine done_ (done_of HT_.out (by kernel_rfl)) ?_
    go_wp2
    clear hx0 hx1 hy0 hy1 ewy ewz xw0 xw1
    have hx := HXY.out.1
    have hy := HXY.out.2
    subst hx
    subst hy
    have hlt := HLT.out
    have hl5 := HL.out
    go_roundg (gk - 2)
    case measure => have := HI1.out; have := HI2.out; omega
    case rel => exact ⟨nk + 2, i + 1, _, by first | go_num | exact congrArg (Value.int .i64) (wrap_nk2 (Nat.le_trans (HNK.out) (by decide))), ⟨by have := HI1.out; omega⟩, ⟨by have := HI2.out; omega⟩, ⟨by rw [← HSP'.out]; simp⟩, ⟨by rw [List.length_append]; exact Nat.add_le_add_right HPL.out 2⟩, HO8, BE6, BZ6, HB6⟩
   ·rw [if_neg d] at hsp
    simp only [decide_eq_false d] at lk
    have HSP' := Aside0.mk hsp
    clear hsp d
    have ew := EW.out
    go_quiet (fail)
    clear ew
    have hb6 := pw_below_drewN (Below.refl wr.heap.size wr) nq
    have HB6 := Aside0.mk (below_step HB.out hb6)
    have BE6 := Aside0.mk (blk_below BE.out hb6)
    have BZ6 := Aside0.mk (blk_below BZ.out hb6)
    have HO6 := Aside0.mk (Kd.R_below HO.out hb6)
    clear q4 p2 lk x0 x1 x2 hb6 HB BE BZ HO o1 HSP HPW
    generalize wr.drewN nq = w6 at HB6 BE6 BZ6 HO6 ⊢
    go_wp2
    go_roundg (gk - 2)
    case measure => have := HI1.out; have := HI2.out; omega
    case rel => exact ⟨nk + 2, i + 1, ps, by first | go_num | exact congrArg (Value.int .i64) (wrap_nk2 (Nat.le_trans (HNK.out) (by decide))), ⟨by have := HI1.out; omega⟩, ⟨by have := HI2.out; omega⟩, HSP', ⟨by have := HPL.out; omega⟩, HO6, BE6, BZ6, HB6⟩
  ·have hsp := HSP.out
   rw [pairsOf_end fam _ (by rw [List.length_drop]; omega), List.append_nil] at hsp
   have HSP' := Aside0.mk hsp
   clear hsp
   have hle : ¬ ((nk : Int) + 1 < (e.f4.length : Int)) := by omega
   have hemp : (pairsOf fam e.f4).isEmpty = decide (ps.length = 0) := by rw [← HSP'.out]; cases ps <;> rfl
   have EMP := Aside0.mk hemp
   clear hemp
   obtain ⟨Ao, co, eo⟩ := Kd.R_slice HO.out
   subst eo
   have hpw : p < w.heap.size := blk_lt HP.out
   have heb : w.heap.size ≤ eb := Nat.le_of_eq GE.out.symm
   have hne := NE.out
   cases bg with
   | true =>
    have hb : b' = true := by rw [BB.out]; rfl
    subst hb
    have p6 : wr.cell? ⟨p, 6, none⟩ = some (.bool true) := cell_of HPW.out 6 rfl
    have pf6 := blk_frozen HPW.out 6
    go_upto_region 8 with (fail)
    clear p6 pf6 q4
    have HP9 := Aside0.mk (blk_put (cs' := #[x0, x1, .map (some bf), x3, x4, x5, .bool true]) HPW.out 6 (.bool true) rfl)
    have BE9 := Aside0.mk (blk_far (p := ⟨p, 6, none⟩) BE.out (by show eb ≠ p; omega) (.bool true))
    have BZ9 := Aside0.mk (blk_far (p := ⟨p, 6, none⟩) BZ.out (by show rb ≠ p; omega) (.bool true))
    have HO9 := Aside0.mk (Kd.R_set HO.out HPW.out (by decide) 6 (.bool true))
    have HG9 := Aside0.mk (grown_set (g := p) (j := 6) HB.out (.bool true))
    clear HPW BE BZ HO HB
    generalize wr.setCell ⟨p, 6, none⟩ (.bool true) = w9 at HP9 BE9 BZ9 HO9 HG9 ⊢
    have q4 : w9.cell? ⟨eb, 4, none⟩ = some (.slice A4 e.f4.length c4) := cell_of BE9.out 4 rfl
    have qf4 := blk_frozen BE9.out 4
    go_upto_region 9 with (fail)
    clear q4 qf4
    have BE10 := Aside0.mk (blk_put (cs' := #[.int .i64 e.f0, .int .i64 e.f1, .string e.f2, .string e.f3, .slice Ao ps.length co, .string e.f5]) BE9.out 4 (.slice Ao ps.length co) rfl)
    have HP10 := Aside0.mk (blk_far (p := ⟨eb, 4, none⟩) HP9.out (by show p ≠ eb; omega) (.slice Ao ps.length co))
    have BZ10 := Aside0.mk (blk_far (p := ⟨eb, 4, none⟩) BZ9.out (by show rb ≠ eb; omega) (.slice Ao ps.length co))
    have HO10 := Aside0.mk (Kd.R_set HO9.out BE9.out (by decide) 4 (.slice Ao ps.length co))
    have HG10 := Aside0.mk (grown_set2 (j := 4) HG9.out (show w.heap.size ≤ eb by omega) (.slice Ao ps.length co))
    clear HP9 BE9 BZ9 HO9 HG9
    generalize w9.setCell ⟨eb, 4, none⟩ (.slice Ao ps.length co) = w10 at BE10 HP10 BZ10 HO10 HG10 ⊢
    have k0 : w10.cell? ⟨eb, 0, none⟩ = some (.int .i64 e.f0) := cell_of BE10.out 0 rfl
    have z0 : w10.cell? ⟨rb, 0, none⟩ = some (.int .i64 0) := cell_of BZ10.out 0 rfl
    have zf0 := blk_frozen BZ10.out 0
    have k1 : w10.cell? ⟨eb, 1, none⟩ = some (.int .i64 e.f1) := cell_of BE10.out 1 rfl
    have z1 : w10.cell? ⟨rb, 1, none⟩ = some (.int .i64 0) := cell_of BZ10.out 1 rfl
    have zf1 := blk_frozen BZ10.out 1
    have k2 : w10.cell? ⟨eb, 2, none⟩ = some (.string e.f2) := cell_of BE10.out 2 rfl
    have z2 : w10.cell? ⟨rb, 2, none⟩ = some (.string ⟨#[]⟩) := cell_of BZ10.out 2 rfl
    have zf2 := blk_frozen BZ10.out 2
    have k3 : w10.cell? ⟨eb, 3, none⟩ = some (.string e.f3) := cell_of BE10.out 3 rfl
    have z3 : w10.cell? ⟨rb, 3, none⟩ = some (.string ⟨#[]⟩) := cell_of BZ10.out 3 rfl
    have zf3 := blk_frozen BZ10.out 3
    have k4 : w10.cell? ⟨eb, 4, none⟩ = some (.slice Ao ps.length co) := cell_of BE10.out 4 rfl
    have z4 : w10.cell? ⟨rb, 4, none⟩ = some (.slice none 0 0) := cell_of BZ10.out 4 rfl
    have zf4 := blk_frozen BZ10.out 4
    have k5 : w10.cell? ⟨eb, 5, none⟩ = some (.string e.f5) := cell_of BE10.out 5 rfl
    have z5 : w10.cell? ⟨rb, 5, none⟩ = some (.string ⟨#[]⟩) := cell_of BZ10.out 5 rfl
    have zf5 := blk_frozen BZ10.out 5
    have k6 : w10.cell? ⟨p, 6, none⟩ = some (.bool true) := cell_of HP10.out 6 rfl
    have n1 : rb ≠ eb := by omega
    have n2 : rb ≠ p := by omega
    have n3 : eb ≠ rb := by omega
    have n4 : p ≠ rb := by omega
    have hrb : w.heap.size ≤ rb := by omega
    have HRB := Aside0.mk hrb
    clear heb hle hnk hpw hne hlt hrb
    go_region
    clear k0 k1 k2 k3 k4 k5 k6 z0 z1 z2 z3 z4 z5 zf0 zf1 zf2 zf3 zf4 zf5
    go_wp2
    refine bodyPost_ret (results_ct rfl _ _ rb 34 _ (0, 0) _ rfl (blk_drew (evSet_blk BZ10.out (⟨e.f0, e.f1, e.f2, e.f3, ps, e.f5⟩ : S34) Ao co)) Tryz.underlying34 rfl (by kernel_rfl)) rfl ?_
    refine ⟨.slice Ao ps.length co, rfl, ?_, grown_drew (grown_set2 (j := 5) (grown_set2 (j := 4) (grown_set2 (j := 3) (grown_set2 (j := 2) (grown_set2 (j := 1) (grown_set2 (j := 0) HG10.out HRB.out _) HRB.out _) HRB.out _) HRB.out _) HRB.out _) HRB.out _), blk_drew (evSet_far HP10.out n4 (⟨e.f0, e.f1, e.f2, e.f3, ps, e.f5⟩ : S34) Ao co)⟩
    rw [← HSP'.out]
    exact Kd.R_drew (evSet_R HO10.out BZ10.out (⟨e.f0, e.f1, e.f2, e.f3, ps, e.f5⟩ : S34) Ao co)
   | false =>
    by_cases h0 : ps.length = 0
    ·have hb : b' = false := by rw [BB.out, EMP.out, decide_eq_true h0]; rfl
     subst hb
     have hgz : ¬ (0 < ps.length) := by omega
     clear h0
     have p6 : wr.cell? ⟨p, 6, none⟩ = some (.bool false) := cell_of HPW.out 6 rfl
     have pf6 := blk_frozen HPW.out 6
     go_upto_region 8 with (fail)
     clear p6 pf6 q4
     have HP9 := Aside0.mk (blk_put (cs' := #[x0, x1, .map (some bf), x3, x4, x5, .bool false]) HPW.out 6 (.bool false) rfl)
     have BE9 := Aside0.mk (blk_far (p := ⟨p, 6, none⟩) BE.out (by show eb ≠ p; omega) (.bool false))
     have BZ9 := Aside0.mk (blk_far (p := ⟨p, 6, none⟩) BZ.out (by show rb ≠ p; omega) (.bool false))
     have HO9 := Aside0.mk (Kd.R_set HO.out HPW.out (by decide) 6 (.bool false))
     have HG9 := Aside0.mk (grown_set (g := p) (j := 6) HB.out (.bool false))
     clear HPW BE BZ HO HB
     generalize wr.setCell ⟨p, 6, none⟩ (.bool false) = w9 at HP9 BE9 BZ9 HO9 HG9 ⊢
     have q4 : w9.cell? ⟨eb, 4, none⟩ = some (.slice A4 e.f4.length c4) := cell_of BE9.out 4 rfl
     have qf4 := blk_frozen BE9.out 4
     go_upto_region 9 with (fail)
     clear q4 qf4
     have BE10 := Aside0.mk (blk_put (cs' := #[.int .i64 e.f0, .int .i64 e.f1, .string e.f2, .string e.f3, .slice Ao ps.length co, .string e.f5]) BE9.out 4 (.slice Ao ps.length co) rfl)
     have HP10 := Aside0.mk (blk_far (p := ⟨eb, 4, none⟩) HP9.out (by show p ≠ eb; omega) (.slice Ao ps.length co))
     have BZ10 := Aside0.mk (blk_far (p := ⟨eb, 4, none⟩) BZ9.out (by show rb ≠ eb; omega) (.slice Ao ps.length co))
     have HO10 := Aside0.mk (Kd.R_set HO9.out BE9.out (by decide) 4 (.slice Ao ps.length co))
     have HG10 := Aside0.mk (grown_set2 (j := 4) HG9.out (show w.heap.size ≤ eb by omega) (.slice Ao ps.length co))
     clear HP9 BE9 BZ9 HO9 HG9
     generalize w9.setCell ⟨eb, 4, none⟩ (.slice Ao ps.length co) = w10 at BE10 HP10 BZ10 HO10 HG10 ⊢
     have k0 : w10.cell? ⟨eb, 0, none⟩ = some (.int .i64 e.f0) := cell_of BE10.out 0 rfl
     have z0 : w10.cell? ⟨rb, 0, none⟩ = some (.int .i64 0) := cell_of BZ10.out 0 rfl
     have zf0 := blk_frozen BZ10.out 0
     have k1 : w10.cell? ⟨eb, 1, none⟩ = some (.int .i64 e.f1) := cell_of BE10.out 1 rfl
     have z1 : w10.cell? ⟨rb, 1, none⟩ = some (.int .i64 0) := cell_of BZ10.out 1 rfl
     have zf1 := blk_frozen BZ10.out 1
     have k2 : w10.cell? ⟨eb, 2, none⟩ = some (.string e.f2) := cell_of BE10.out 2 rfl
     have z2 : w10.cell? ⟨rb, 2, none⟩ = some (.string ⟨#[]⟩) := cell_of BZ10.out 2 rfl
     have zf2 := blk_frozen BZ10.out 2
     have k3 : w10.cell? ⟨eb, 3, none⟩ = some (.string e.f3) := cell_of BE10.out 3 rfl
     have z3 : w10.cell? ⟨rb, 3, none⟩ = some (.string ⟨#[]⟩) := cell_of BZ10.out 3 rfl
     have zf3 := blk_frozen BZ10.out 3
     have k4 : w10.cell? ⟨eb, 4, none⟩ = some (.slice Ao ps.length co) := cell_of BE10.out 4 rfl
     have z4 : w10.cell? ⟨rb, 4, none⟩ = some (.slice none 0 0) := cell_of BZ10.out 4 rfl
     have zf4 := blk_frozen BZ10.out 4
     have k5 : w10.cell? ⟨eb, 5, none⟩ = some (.string e.f5) := cell_of BE10.out 5 rfl
     have z5 : w10.cell? ⟨rb, 5, none⟩ = some (.string ⟨#[]⟩) := cell_of BZ10.out 5 rfl
     have zf5 := blk_frozen BZ10.out 5
     have k6 : w10.cell? ⟨p, 6, none⟩ = some (.bool false) := cell_of HP10.out 6 rfl
     have n1 : rb ≠ eb := by omega
     have n2 : rb ≠ p := by omega
     have n3 : eb ≠ rb := by omega
     have n4 : p ≠ rb := by omega
     have hrb : w.heap.size ≤ rb := by omega
     have HRB := Aside0.mk hrb
     clear heb hle hnk hpw hne hlt hrb
     go_region
     clear k0 k1 k2 k3 k4 k5 k6 z0 z1 z2 z3 z4 z5 zf0 zf1 zf2 zf3 zf4 zf5
     go_wp2
     refine bodyPost_ret (results_ct rfl _ _ rb 34 _ (0, 0) _ rfl (blk_drew (evSet_blk BZ10.out (⟨e.f0, e.f1, e.f2, e.f3, ps, e.f5⟩ : S34) Ao co)) Tryz.underlying34 rfl (by kernel_rfl)) rfl ?_
     refine ⟨.slice Ao ps.length co, rfl, ?_, grown_drew (grown_set2 (j := 5) (grown_set2 (j := 4) (grown_set2 (j := 3) (grown_set2 (j := 2) (grown_set2 (j := 1) (grown_set2 (j := 0) HG10.out HRB.out _) HRB.out _) HRB.out _) HRB.out _) HRB.out _) HRB.out _), blk_drew (evSet_far HP10.out n4 (⟨e.f0, e.f1, e.f2, e.f3, ps, e.f5⟩ : S34) Ao co)⟩
     rw [← HSP'.out]
     exact Kd.R_drew (evSet_R HO10.out BZ10.out (⟨e.f0, e.f1, e.f2, e.f3, ps, e.f5⟩ : S34) Ao co)
    ·have hb : b' = true := by rw [BB.out, EMP.out, decide_eq_false h0]; rfl
     subst hb
     have hgt : 0 < ps.length := by omega
     clear h0
     have p6 : wr.cell? ⟨p, 6, none⟩ = some (.bool false) := cell_of HPW.out 6 rfl
     have pf6 := blk_frozen HPW.out 6
     go_upto_region 8 with (fail)
     clear p6 pf6 q4
     have HP9 := Aside0.mk (blk_put (cs' := #[x0, x1, .map (some bf), x3, x4, x5, .bool true]) HPW.out 6 (.bool true) rfl)
     have BE9 := Aside0.mk (blk_far (p := ⟨p, 6, none⟩) BE.out (by show eb ≠ p; omega) (.bool true))
     have BZ9 := Aside0.mk (blk_far (p := ⟨p, 6, none⟩) BZ.out (by show rb ≠ p; omega) (.bool true))
     have HO9 := Aside0.mk (Kd.R_set HO.out HPW.out (by decide) 6 (.bool true))
     have HG9 := Aside0.mk (grown_set (g := p) (j := 6) HB.out (.bool true))
     clear HPW BE BZ HO HB
     generalize wr.setCell ⟨p, 6, none⟩ (.bool true) = w9 at HP9 BE9 BZ9 HO9 HG9 ⊢
     have q4 : w9.cell? ⟨eb, 4, none⟩ = some (.slice A4 e.f4.length c4) := cell_of BE9.out 4 rfl
     have qf4 := blk_frozen BE9.out 4
     go_upto_region 9 with (fail)
     clear q4 qf4
     have BE10 := Aside0.mk (blk_put (cs' := #[.int .i64 e.f0, .int .i64 e.f1, .string e.f2, .string e.f3, .slice Ao ps.length co, .string e.f5]) BE9.out 4 (.slice Ao ps.length co) rfl)
     have HP10 := Aside0.mk (blk_far (p := ⟨eb, 4, none⟩) HP9.out (by show p ≠ eb; omega) (.slice Ao ps.length co))
     have BZ10 := Aside0.mk (blk_far (p := ⟨eb, 4, none⟩) BZ9.out (by show rb ≠ eb; omega) (.slice Ao ps.length co))
     have HO10 := Aside0.mk (Kd.R_set HO9.out BE9.out (by decide) 4 (.slice Ao ps.length co))
     have HG10 := Aside0.mk (grown_set2 (j := 4) HG9.out (show w.heap.size ≤ eb by omega) (.slice Ao ps.length co))
     clear HP9 BE9 BZ9 HO9 HG9
     generalize w9.setCell ⟨eb, 4, none⟩ (.slice Ao ps.length co) = w10 at BE10 HP10 BZ10 HO10 HG10 ⊢
     have k0 : w10.cell? ⟨eb, 0, none⟩ = some (.int .i64 e.f0) := cell_of BE10.out 0 rfl
     have z0 : w10.cell? ⟨rb, 0, none⟩ = some (.int .i64 0) := cell_of BZ10.out 0 rfl
     have zf0 := blk_frozen BZ10.out 0
     have k1 : w10.cell? ⟨eb, 1, none⟩ = some (.int .i64 e.f1) := cell_of BE10.out 1 rfl
     have z1 : w10.cell? ⟨rb, 1, none⟩ = some (.int .i64 0) := cell_of BZ10.out 1 rfl
     have zf1 := blk_frozen BZ10.out 1
     have k2 : w10.cell? ⟨eb, 2, none⟩ = some (.string e.f2) := cell_of BE10.out 2 rfl
     have z2 : w10.cell? ⟨rb, 2, none⟩ = some (.string ⟨#[]⟩) := cell_of BZ10.out 2 rfl
     have zf2 := blk_frozen BZ10.out 2
     have k3 : w10.cell? ⟨eb, 3, none⟩ = some (.string e.f3) := cell_of BE10.out 3 rfl
     have z3 : w10.cell? ⟨rb, 3, none⟩ = some (.string ⟨#[]⟩) := cell_of BZ10.out 3 rfl
     have zf3 := blk_frozen BZ10.out 3
     have k4 : w10.cell? ⟨eb, 4, none⟩ = some (.slice Ao ps.length co) := cell_of BE10.out 4 rfl
     have z4 : w10.cell? ⟨rb, 4, none⟩ = some (.slice none 0 0) := cell_of BZ10.out 4 rfl
     have zf4 := blk_frozen BZ10.out 4
     have k5 : w10.cell? ⟨eb, 5, none⟩ = some (.string e.f5) := cell_of BE10.out 5 rfl
     have z5 : w10.cell? ⟨rb, 5, none⟩ = some (.string ⟨#[]⟩) := cell_of BZ10.out 5 rfl
     have zf5 := blk_frozen BZ10.out 5
     have k6 : w10.cell? ⟨p, 6, none⟩ = some (.bool true) := cell_of HP10.out 6 rfl
     have n1 : rb ≠ eb := by omega
     have n2 : rb ≠ p := by omega
     have n3 : eb ≠ rb := by omega
     have n4 : p ≠ rb := by omega
     have hrb : w.heap.size ≤ rb := by omega
     have HRB := Aside0.mk hrb
     clear heb hle hnk hpw hne hlt hrb
     go_region
     clear k0 k1 k2 k3 k4 k5 k6 z0 z1 z2 z3 z4 z5 zf0 zf1 zf2 zf3 zf4 zf5
     go_wp2
     refine bodyPost_ret (results_ct rfl _ _ rb 34 _ (0, 0) _ rfl (blk_drew (evSet_blk BZ10.out (⟨e.f0, e.f1, e.f2, e.f3, ps, e.f5⟩ : S34) Ao co)) Tryz.underlying34 rfl (by kernel_rfl)) rfl ?_
     refine ⟨.slice Ao ps.length co, rfl, ?_, grown_drew (grown_set2 (j := 5) (grown_set2 (j := 4) (grown_set2 (j := 3) (grown_set2 (j := 2) (grown_set2 (j := 1) (grown_set2 (j := 0) HG10.out HRB.out _) HRB.out _) HRB.out _) HRB.out _) HRB.out _) HRB.out _), blk_drew (evSet_far HP10.out n4 (⟨e.f0, e.f1, e.f2, e.f3, ps, e.f5⟩ : S34) Ao co)⟩
     rw [← HSP'.out]
     exact Kd.R_drew (evSet_R HO10.out BZ10.out (⟨e.f0, e.f1, e.f2, e.f3, ps, e.f5⟩ : S34) Ao co)
end Go.Proofs.YtjgifmakhnkmdaaGreatDoor.XRep
