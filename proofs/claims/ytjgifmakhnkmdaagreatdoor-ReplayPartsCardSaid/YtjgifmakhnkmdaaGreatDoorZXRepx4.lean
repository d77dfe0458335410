import Derived.Test.YtjgifmakhnkmdaaGreatDoorZXRepx0
import Derived.Test.YtjgifmakhnkmdaaGreatDoorZXRepx2
import Derived.Test.YtjgifmakhnkmdaaGreatDoorZXRepx3
import Derived.Test.YtjgifmakhnkmdaaGreatDoorZCmp
namespace Go.Proofs.YtjgifmakhnkmdaaGreatDoor.XRep
open Go.RowKit Go.Proofs.YtjgifmakhnkmdaaGreatDoorW.PrintWords Go.Proofs.YtjgifmakhnkmdaaGreatDoorW.PrintLast Go.Proofs.YtjgifmakhnkmdaaGreatDoorW.PrintMore Go.Proofs.YtjgifmakhnkmdaaGreatDoor.Cmp
set_option linter.unusedVariables false
set_option linter.unusedSimpArgs false
mutual
def Zbl.l0 : Nat → List Int → Int → List (S106) → ByteArray → Int → Int → Option ((List (S106)) × (List (S165)) × Bool)
 | 0, _, _, _, _, _, _ => none
 | k + 1, x6, x7, x145000, x155000, x155001, x155002 => if x7 < (x6.length : Int) then ((Zad.f k x155000 x155001 x155002 96 (-1099511627776) 1099511627776).bind fun bt155 => ((Zae.f k bt155.2.2.2).bind fun bt162 => (if bt162.2 = true then (if 0 ≤ x7 then (if x145000.length < 4398046511104 then (Zbl.l0 k x6 (wrap64 (x7 + 1)) (x145000 ++ [(⟨rd x6 x7, bt162.1⟩ : S106)]) bt155.1 bt155.2.1 bt155.2.2.1) else (none)) else (none)) else (some (([] : List (S106)), ([] : List (S165)), false))))) else ((Zad.f k x155000 x155001 x155002 448 (-1099511627776) 1099511627776).bind fun bt170 => ((Zbo.f bt170.1 bt170.2.1 bt170.2.2.1).bind fun t176 => (if t176 = 0 then (Zbl.j1 k bt170.2.2.2 (((bt170.2.2.2.length : Int) % 7) != 0) x145000) else (Zbl.j1 k bt170.2.2.2 true x145000))))
def Zbl.j1 : Nat → List Int → Bool → List (S106) → Option ((List (S106)) × (List (S165)) × Bool)
 | 0, _, _, _ => none
 | k + 1, x12, x65, x145000 => if x65 = true then (some (([] : List (S106)), ([] : List (S165)), false)) else (Zbl.l1 k x12 0 x145000 ([] : List (S165)))
def Zbl.l1 : Nat → List Int → Int → List (S106) → List (S165) → Option ((List (S106)) × (List (S165)) × Bool)
 | 0, _, _, _, _ => none
 | k + 1, x12, x13, x145000, x145001 => if x13 < (x12.length : Int) then (if 0 ≤ (wrap64 (x13 + 1)) then (if (wrap64 (x13 + 1)) < (x12.length : Int) then (if 0 ≤ (wrap64 (x13 + 2)) then (if (wrap64 (x13 + 2)) < (x12.length : Int) then (if 0 ≤ (wrap64 (x13 + 3)) then (if (wrap64 (x13 + 3)) < (x12.length : Int) then (if 0 ≤ (wrap64 (x13 + 4)) then (if (wrap64 (x13 + 4)) < (x12.length : Int) then (if 0 ≤ (wrap64 (x13 + 5)) then (if (wrap64 (x13 + 5)) < (x12.length : Int) then (if 0 ≤ (wrap64 (x13 + 6)) then (if (wrap64 (x13 + 6)) < (x12.length : Int) then (if 0 ≤ x13 then (if x145001.length < 2513169434916 then (Zbl.l1 k x12 (wrap64 (x13 + 7)) x145000 (x145001 ++ [(⟨rd x12 x13, (⟨(⟨rd x12 (wrap64 (x13 + 1)), rd x12 (wrap64 (x13 + 2))⟩ : S161), (⟨rd x12 (wrap64 (x13 + 3)), rd x12 (wrap64 (x13 + 4))⟩ : S161), (⟨rd x12 (wrap64 (x13 + 5)), rd x12 (wrap64 (x13 + 6))⟩ : S161)⟩ : S163)⟩ : S165)])) else (none)) else (none)) else (none)) else (none)) else (none)) else (none)) else (none)) else (none)) else (none)) else (none)) else (none)) else (none)) else (none)) else (none)) else (some (x145000, x145001, true))
end
def Zbl.f (k : Nat) (a0 : ByteArray) : Option ((List (S106)) × (List (S165)) × Bool) := (Zac.f a0).bind fun bt145 => ((Zad.f k bt145.1 bt145.2.1 bt145.2.2 24 (-1099511627776) 1099511627776).bind fun bt148 => (Zbl.l0 k bt148.2.2.2 0 ([] : List (S106)) bt148.1 bt148.2.1 bt148.2.2.1))
def Zbl.T10 : Bool × List (List Nat × List Nat) := (true, [([], []), ([0], [0]), ([], []), ([], []), ([2, 3], [2, 3]), ([4], [4]), ([], []), ([5, 6], [5, 6]), ([7], [7]), ([1, 8], [1, 8]), ([0, 1, 2, 3, 4, 5, 6, 7, 8, 9], []), ([10, 9, 9, 0, 1, 2, 3, 4, 5, 6, 7, 8, 9], [9, 10])])
def Zbl.B10 : List Nat := [0, 1, 0, 0, 12, 28, 0, 124, 252, 511, 1023, 2047]
theorem Zbl.tab10 : rtab .any (opsOf Tryz.f96 10) = Zbl.T10 := by kernel_rfl
theorem Zbl.bits10 : waitsOk Zbl.T10.2 Zbl.B10 = true := by kernel_rfl
def Zbl.T18 : Bool × List (List Nat × List Nat) := (true, [([], []), ([], []), ([1], [1]), ([0, 2], [0, 2]), ([3], [3]), ([], []), ([], []), ([6], [6]), ([5, 7], [5, 7]), ([8], [8]), ([4, 9], [4, 9]), ([], []), ([], []), ([12], [12]), ([11, 13], [11, 13]), ([14], [14]), ([], []), ([], []), ([17], [17]), ([16, 18], [16, 18]), ([19], [19]), ([15, 20], [15, 20]), ([], []), ([], []), ([23], [23]), ([22, 24], [22, 24]), ([25], [25]), ([], []), ([], []), ([28], [28]), ([27, 29], [27, 29]), ([30], [30]), ([26, 31], [26, 31]), ([10, 21, 32], [10, 21, 32]), ([], []), ([34, 33, 0, 1, 2, 3, 4, 5, 6, 7, 8, 9, 10, 11, 12, 13, 14, 15, 16, 17, 18, 19, 20, 21, 22, 23, 24, 25, 26, 27, 28, 29, 30, 31, 32, 33, 34], [33, 34])])
def Zbl.B18 : List Nat := [0, 0, 2, 7, 15, 0, 0, 64, 224, 480, 1023, 0, 0, 4096, 14336, 30720, 0, 0, 131072, 458752, 983040, 2095104, 0, 0, 8388608, 29360128, 62914560, 0, 0, 268435456, 939524096, 2013265920, 4290772992, 8589934591, 0, 34359738367]
theorem Zbl.tab18 : rtab .any (opsOf Tryz.f96 18) = Zbl.T18 := by kernel_rfl
theorem Zbl.bits18 : waitsOk Zbl.T18.2 Zbl.B18 = true := by kernel_rfl
def Zbl.T19 : Bool × List (List Nat × List Nat) := (true, [([], []), ([0], [0]), ([], []), ([], []), ([2, 3], [2, 3]), ([4], [4]), ([], []), ([5, 6], [5, 6]), ([7], [7]), ([1, 8], [1, 8]), ([0, 1, 2, 3, 4, 5, 6, 7, 8, 9], []), ([10, 9, 9, 0, 1, 2, 3, 4, 5, 6, 7, 8, 9], [9, 10])])
def Zbl.B19 : List Nat := [0, 1, 0, 0, 12, 28, 0, 124, 252, 511, 1023, 2047]
theorem Zbl.tab19 : rtab .any (opsOf Tryz.f96 19) = Zbl.T19 := by kernel_rfl
theorem Zbl.bits19 : waitsOk Zbl.T19.2 Zbl.B19 = true := by kernel_rfl
set_option maxHeartbeats 8000000 in
set_option maxRecDepth 100000 in
theorem Zbl.calls (k : Nat) (a0 : ByteArray) (r1 : List (S106)) (r2 : List (S165)) (r3 : Bool) (w : World) (h : Zbl.f k a0 = some (r1, r2, r3)) :
  Calls Tryz.prog 96 #[.string a0] w fun e w' => ∃ v0_ v1_ : Value, e = .returned (.tuple #[.agg #[v0_, v1_], .bool r3]) ∧ Kd.S k106 106 w' w.heap.size (fun _ => True) v0_ r1 ∧ Kd.R k165 165 w' w.heap.size (fun _ => True) v1_ r2 ∧ Below w.heap.size w w' := by
 have hu101 := Tryz.underlying101
 have hu153 := Tryz.underlying153
 have hu106 := Tryz.underlying106
 have hu161 := Tryz.underlying161
 have hu163 := Tryz.underlying163
 have hu165 := Tryz.underlying165
 have HB := am (Below.refl w.heap.size w)
 have H : ((Zac.f a0).bind fun bt145 => ((Zad.f k bt145.1 bt145.2.1 bt145.2.2 24 (-1099511627776) 1099511627776).bind fun bt148 => (Zbl.l0 k bt148.2.2.2 0 ([] : List (S106)) bt148.1 bt148.2.1 bt148.2.2.1))) = some (r1, r2, r3) := h
 clear h
 replace H := be H
 obtain ⟨⟨t145, t146, t147⟩, A20, H⟩ := H
 try dsimp only at H
 have A2 := am A20
 clear A20
 replace H := be H
 obtain ⟨⟨t148, t149, t150, t151⟩, A30, H⟩ := H
 try dsimp only at H
 have A3 := am A30
 clear A30
 have H' := am H
 clear H
 go_enter Tryz.func96, Tryz.ntmps96
 go_wp2_with (first | ((with_reducible refine gate_dst (N := 2) rfl ?_); (try (refine gate_guard (by rfl) ?_; dsimp only)); refine box_event ?hg (N := 2) ?hd (cs := #[.slice none 0 0, .slice none 0 0]) (t := 101) ?hr ?_; (case hd => rfl); (case hg => rfl); (case hr => go_simp <;> rfl); intro gb143 hg w4 hbox hb; have BK143 := am hbox; have GW143 := gef hg HB.out; have GE143 := gef hg HB.out; replace HB := bs HB.out hb; clear hb hbox hg) | ((with_reducible refine gate_dst (N := 4) rfl ?_); (try (refine gate_guard (by rfl) ?_; dsimp only)); refine box_event ?hg (N := 4) ?hd (cs := #[.slice none 0 0, .slice none 0 0]) (t := 101) ?hr ?_; (case hd => rfl); (case hg => rfl); (case hr => go_simp <;> rfl); intro gb144 hg w5 hbox hb; have BK144 := am hbox; have GW144 := gef hg HB.out; have GE144 := gef hg HB.out; replace HB := bs HB.out hb; have NB143_144 := nl hg BK143.out; have NB144_143 := ng hg BK143.out; replace BK143 := kb BK143.out hb; clear hb hbox hg) | ((with_reducible refine gate_callee (f := 113) rfl ?_); refine goesL_ (some 17) rfl rfl Tryz.func113 (by kernel_rfl) rfl #[.string a0] rfl (by (try simp only [mT, mC, mN]); first | done | rfl) ?_; (with_reducible refine (Zac.calls a0 t145 t146 t147 _ A2.out).mono ?_); rintro e w6 ⟨rfl, hb⟩; refine ⟨_, rfl, ?_⟩; replace BK143 := kb BK143.out hb; replace BK144 := kb BK144.out hb; replace HB := bs HB.out hb; (try clear hb)) | ((with_reducible refine gate_callee (f := 112) rfl ?_); refine goesL_ (some 18) rfl rfl Tryz.func112 (by kernel_rfl) rfl #[.agg #[.string t145, .int .i64 t146, .int .i64 t147], .int .i64 24, .int .i64 (-1099511627776), .int .i64 1099511627776] rfl (by (try simp only [mT, mC, mN]); first | done | rfl) ?_; (with_reducible refine (Zad.calls k t145 t146 t147 24 (-1099511627776) 1099511627776 t148 t149 t150 t151 _ A3.out).mono ?_); rintro e w7 ⟨v152, rfl, ho0, hb⟩; refine ⟨_, rfl, ?_⟩; have HO153 := am (Kd.R_lower ho0 (below_size (vb HB.out))); replace BK143 := kb BK143.out hb; replace BK144 := kb BK144.out hb; replace HB := bs HB.out hb; (try clear hb)) | ((with_reducible refine gate_dst (N := 5) rfl ?_); (try (refine gate_guard (by rfl) ?_; dsimp only)); refine box_event ?hg (N := 5) ?hd (cs := #[.string (⟨#[]⟩ : ByteArray), .int .i64 0, .int .i64 0]) (t := 153) ?hr ?_; (case hd => rfl); (case hg => rfl); (case hr => go_simp <;> rfl); intro gb154 hg w8 hbox hb; replace HO153 := kR HO153.out hb; have BK154 := am hbox; have GW154 := gef hg HB.out; have GE154 := gef hg HB.out; replace HB := bs HB.out hb; have NB143_154 := nl hg BK143.out; have NB154_143 := ng hg BK143.out; replace BK143 := kb BK143.out hb; have NB144_154 := nl hg BK144.out; have NB154_144 := ng hg BK144.out; replace BK144 := kb BK144.out hb; clear hb hbox hg; have hnb9 := NB154_143.out; have hnc9 := NB143_154.out; have hnb10 := NB154_144.out; have hnc10 := NB144_154.out; obtain ⟨hcz11_0, hcz11_1, hcz11_2, hfz11_0, hfz11_1, hfz11_2⟩ := bk3 BK154.out))
 go_loopg [7] k (fun kq v7 w' => ∃ (x7_1 : Int) (x145000_1 : List (S106)) (x155000_1 : ByteArray) (x155001_1 : Int) (x155002_1 : Int) (u145000 : Value), v7 = .int .i64 x7_1 ∧ Aside0 (Zbl.l0 kq t151 x7_1 x145000_1 x155000_1 x155001_1 x155002_1 = some (r1, r2, r3)) ∧ Aside0 (kq ≤ k) ∧ Aside0 (Kd.R (Kd.int .i64) 3 w' w.heap.size (fun _ => True) v152 t151) ∧ Aside0 (Kd.S k106 106 w' w.heap.size (fun _ => True) u145000 x145000_1) ∧ Aside0 (w'.heap[gb143]? = some (.cells #[(.slice none 0 0), (.slice none 0 0)] 101 (0, 0))) ∧ Aside0 (w'.heap[gb144]? = some (.cells #[u145000, (.slice none 0 0)] 101 (0, 0))) ∧ Aside0 (w'.heap[gb154]? = some (.cells #[.string x155000_1, .int .i64 x155001_1, .int .i64 x155002_1] 153 (0, 0))) ∧ Aside0 (Below w.heap.size w w'))
 case atStart => exact ⟨(0), (([] : List (S106))), (t148), (t149), (t150), (.slice none 0 0), (by first | rfl | (simp; done) | simp [*]), H', ⟨Nat.le_refl _⟩, ⟨vR (Kd.R_mono (fR3 gb154 (Kd.R_types HO153.out BK154.out (by decide)) (.string t148) (.int .i64 t149) (.int .i64 t150)) (fun _ hk => trivial))⟩, ⟨by first | exact Kd.S_nil _ _ _ _ _ | exact Kd.N_nil _ _ _ _ _ | exact Kd.V_nil _ _ _ _ _ | exact Kd.Q_nil _ _ _ _ _ | exact Kd.R_nil _ _ _ _ _⟩, ⟨by exact vt (bf (vt (bf (vt (bf (vt BK143.out) NB143_154.out)) NB143_154.out)) NB143_154.out)⟩, ⟨by exact vt (bf (vt (bf (vt (bf (vt BK144.out) NB144_154.out)) NB144_154.out)) NB144_154.out)⟩, ⟨by exact (vt (bp (vt (bp (vt (bp (vt BK154.out) 0)) 1)) 2)).trans rfl⟩, ⟨vb HB.out⟩⟩
 case round =>
  clear H'
  (try clear c1); (try clear p2); (try clear c9); (try clear c10); (try clear c11); (try clear hcz11_0); (try clear hcz11_1); (try clear hcz11_2); (try clear hfz11_0); (try clear hfz11_1); (try clear hfz11_2)
  obtain ⟨x7_1, x145000_1, x155000_1, x155001_1, x155002_1, u145000, rfl, HA, HK1, HO_6, HO_145000, BK143, BK144, BK154, HB⟩ := hrel
  cases gk with
  | zero => exact absurd HA.out (by simp [Zbl.l0])
  | succ k1 =>
   have H := HA.out
   clear HA
   simp only [Zbl.l0] at H
   by_cases c12 : x7_1 < (t151.length : Int)
   ·rw [if_pos c12] at H
    have c12b0 : decide (x7_1 < (t151.length : Int)) = true := de c12
    clear c12
    replace H := be H
    obtain ⟨⟨t155, t156, t157, t158⟩, A130, H⟩ := H
    try dsimp only at H
    have A13 := am A130
    clear A130
    replace H := be H
    obtain ⟨⟨t162, t163⟩, A140, H⟩ := H
    try dsimp only at H
    have A14 := am A140
    clear A140
    by_cases c15 : t163 = true
    rotate_left
    ·replace c15 := Bool.eq_false_iff.mpr c15
     subst c15
     rw [if_neg (show ¬ (false = true) by decide)] at H
     simp only [Option.some.injEq, Prod.mk.injEq] at H
     obtain ⟨rfl, rfl, rfl⟩ := H
     obtain ⟨Ao37, co37, eo37⟩ := Kd.R_slice HO_6.out
     subst eo37
     have hnb38 := NB154_143.out
     have hnc38 := NB143_154.out
     have hnb39 := NB154_144.out
     have hnc39 := NB144_154.out
     obtain ⟨hcz40_0, hcz40_1, hcz40_2, hfz40_0, hfz40_1, hfz40_2⟩ := bk3 BK154.out
     go_wp2_with (first | ((with_reducible refine gate_callee (f := 112) rfl ?_); refine goesL_ (some 29) rfl rfl Tryz.func112 (by kernel_rfl) rfl #[.agg #[.string x155000_1, .int .i64 x155001_1, .int .i64 x155002_1], .int .i64 96, .int .i64 (-1099511627776), .int .i64 1099511627776] rfl (by (try simp only [mT, mC, mN]); first | done | rfl) ?_; (with_reducible refine (Zad.calls k1 x155000_1 x155001_1 x155002_1 96 (-1099511627776) 1099511627776 t155 t156 t157 t158 _ A13.out).mono ?_); rintro e w41 ⟨v159, rfl, ho0, hb⟩; refine ⟨_, rfl, ?_⟩; replace HO_145000 := kS HO_145000.out hb; have HO160 := am (Kd.R_lower (Kd.R_new' ho0 (Kd.R_lt (vR HO_6.out))) (below_size (vb HB.out))); replace HO_6 := am (Kd.R_elder' (vR HO_6.out) (Kd.R_base ho0) hb); replace BK143 := kb BK143.out hb; replace BK144 := kb BK144.out hb; replace BK154 := kb BK154.out hb; replace HB := bs HB.out hb; (try clear hb)) | ((with_reducible refine gate_dst (N := 8) rfl ?_); (try (refine gate_guard (by rfl) ?_; dsimp only)); refine box_event ?hg (N := 8) ?hd (cs := #[.string (⟨#[]⟩ : ByteArray), .int .i64 0, .int .i64 0]) (t := 153) ?hr ?_; (case hd => rfl); (case hg => rfl); (case hr => go_simp <;> rfl); intro gb161 hg w42 hbox hb; replace HO_6 := kR HO_6.out hb; replace HO_145000 := kS HO_145000.out hb; replace HO160 := kR HO160.out hb; have BK161 := am hbox; have GW161 := gef hg HB.out; have GE161 := gef hg HB.out; replace HB := bs HB.out hb; have NB143_161 := nl hg BK143.out; have NB161_143 := ng hg BK143.out; replace BK143 := kb BK143.out hb; have NB144_161 := nl hg BK144.out; have NB161_144 := ng hg BK144.out; replace BK144 := kb BK144.out hb; have NB154_161 := nl hg BK154.out; have NB161_154 := ng hg BK154.out; replace BK154 := kb BK154.out hb; clear hb hbox hg; have hnb43 := NB161_143.out; have hnc43 := NB143_161.out; have hnb44 := NB161_144.out; have hnc44 := NB144_161.out; have hnb45 := NB161_154.out; have hnc45 := NB154_161.out; obtain ⟨hcz46_0, hcz46_1, hcz46_2, hfz46_0, hfz46_1, hfz46_2⟩ := bk3 BK161.out; obtain ⟨Ao47, co47, eo47⟩ := Kd.R_slice HO160.out; subst eo47) | ((with_reducible refine gate_callee (f := 114) rfl ?_); refine goesL_ (some 34) rfl rfl Tryz.func114 (by kernel_rfl) rfl #[.slice Ao47 t158.length co47] rfl (by (try simp only [mT, mC, mN]); first | done | rfl) ?_; (with_reducible refine (Zae.calls k1 _ _ t158 t162 false _ ?side1 ?side2 A14.out).mono ?_); (case side1 => refine (Kd.R_reads' (e := 3) (base := w.heap.size) (ok := fun k_ => (True ∧ some k_ ≠ (.slice Ao37 t151.length co37 : Value).ownBlock)) (n := t158.length) (c := co47) ?_).2.2; exact (vR (Kd.R_mono (fR3 gb161 (Kd.R_types HO160.out BK161.out (by decide)) (.string t155) (.int .i64 t156) (.int .i64 t157)) (fun _ h_ => h_.1)))); (case side2 => exact (Kd.R_reads' HO160.out).2.1); rintro e w48 ⟨v164, rfl, ho0, hb⟩; refine ⟨_, rfl, ?_⟩; replace HO_6 := am (Kd.R_below (vR (Kd.R_mono (fR3 gb161 (Kd.R_types HO_6.out BK161.out (by decide)) (.string t155) (.int .i64 t156) (.int .i64 t157)) (fun _ h_ => h_.1))) hb); replace HO_145000 := am (Kd.S_elder' (vS (Kd.S_mono (fS3 gb161 (Kd.S_types HO_145000.out BK161.out (by decide)) (.string t155) (.int .i64 t156) (.int .i64 t157)) (fun _ h_ => h_.1))) (Kd.R_base ho0) hb); replace HO160 := am (Kd.R_below (vR (Kd.R_mono (fR3 gb161 (Kd.R_types HO160.out BK161.out (by decide)) (.string t155) (.int .i64 t156) (.int .i64 t157)) (fun _ h_ => h_.1))) hb); have HO165 := am (Kd.R_lower ho0 (below_size (vb HB.out))); replace BK143 := am (blk_below (g := gb143) (o := .cells #[.slice none 0 0, .slice none 0 0] 101 (0, 0)) (by exact vt (bf (vt (bf (vt (bf (vt BK143.out) NB143_161.out)) NB143_161.out)) NB143_161.out)) hb); replace BK144 := am (blk_below (g := gb144) (o := .cells #[u145000, .slice none 0 0] 101 (0, 0)) (by exact vt (bf (vt (bf (vt (bf (vt BK144.out) NB144_161.out)) NB144_161.out)) NB144_161.out)) hb); replace BK154 := am (blk_below (g := gb154) (o := .cells #[.string x155000_1, .int .i64 x155001_1, .int .i64 x155002_1] 153 (0, 0)) (by exact vt (bf (vt (bf (vt (bf (vt BK154.out) NB154_161.out)) NB154_161.out)) NB154_161.out)) hb); replace BK161 := am (blk_below (g := gb161) (o := .cells #[.string t155, .int .i64 t156, .int .i64 t157] 153 (0, 0)) (by exact (vt (bp (vt (bp (vt (bp (vt BK161.out) 0)) 1)) 2)).trans rfl) hb); replace HB := bs HB.out hb; (try clear hb); (try clear hb2); (try clear hk); (try clear hi); (try clear ho0); have hnb49 := NB143_144.out; have hnc49 := NB144_143.out; obtain ⟨hcz50_0, hcz50_1, hfz50_0, hfz50_1⟩ := bk2 BK143.out))
     refine bodyPost_ret (results_ct rfl _ _ gb143 101 #[.slice none 0 0, .slice none 0 0] (0, 0) _ rfl (by exact (vt (bp (vt (bp (vt BK143.out) 0)) 1)).trans rfl) Tryz.underlying101 rfl (by kernel_rfl)) rfl ?_
     exact ⟨_, _, by rfl, by first | exact Kd.S_nil _ _ _ _ _ | exact Kd.N_nil _ _ _ _ _ | exact Kd.V_nil _ _ _ _ _ | exact Kd.Q_nil _ _ _ _ _ | exact Kd.R_nil _ _ _ _ _, by first | exact Kd.R_nil _ _ _ _ _ | exact Kd.N_nil _ _ _ _ _ | exact Kd.V_nil _ _ _ _ _ | exact Kd.Q_nil _ _ _ _ _ | exact Kd.S_nil _ _ _ _ _, vb HB.out⟩
    subst c15
    rw [if_pos rfl] at H
    by_cases c16 : 0 ≤ x7_1
    rotate_left
    ·rw [if_neg c16] at H
     exact absurd H (by simp)
    rw [if_pos c16] at H
    have c16b0 : decide (0 ≤ x7_1) = true := de c16
    clear c16
    by_cases c17 : x145000_1.length < 4398046511104
    rotate_left
    ·rw [if_neg c17] at H
     exact absurd H (by simp)
    rw [if_pos c17] at H
    have LMc17 := am c17
    clear c17
    obtain ⟨y167, hy167⟩ : ∃ y_ : List (S106), y_ = (x145000_1 ++ [(⟨rd t151 x7_1, t162⟩ : S106)]) := ⟨_, rfl⟩
    replace H : (Zbl.l0 k1 t151 (wrap64 (x7_1 + 1)) y167 t155 t156 t157) = some (r1, r2, r3) := by first | (rw [hy167]; with_reducible exact H) | (have H2_ := (Option.bind_some _ _).symm.trans H; rw [hy167]; with_reducible exact H2_) | (have H2_ := (Option.bind_some _ _).symm.trans H; with_reducible exact H2_) | with_reducible exact H | (rw [hy167]; exact H) | exact H
    have Ny167 := am hy167
    clear hy167
    have H' := am H
    clear H
    obtain ⟨Ao18, co18, eo18⟩ := Kd.R_slice HO_6.out
    subst eo18
    have hnb19 := NB154_143.out
    have hnc19 := NB143_154.out
    have hnb20 := NB154_144.out
    have hnc20 := NB144_154.out
    obtain ⟨hcz21_0, hcz21_1, hcz21_2, hfz21_0, hfz21_1, hfz21_2⟩ := bk3 BK154.out
    try go_wp2_with (first | ((with_reducible refine gate_callee (f := 112) rfl ?_); refine goesL_ (some 29) rfl rfl Tryz.func112 (by kernel_rfl) rfl #[.agg #[.string x155000_1, .int .i64 x155001_1, .int .i64 x155002_1], .int .i64 96, .int .i64 (-1099511627776), .int .i64 1099511627776] rfl (by (try simp only [mT, mC, mN]); first | done | rfl) ?_; (with_reducible refine (Zad.calls k1 x155000_1 x155001_1 x155002_1 96 (-1099511627776) 1099511627776 t155 t156 t157 t158 _ A13.out).mono ?_); rintro e w22 ⟨v159, rfl, ho0, hb⟩; refine ⟨_, rfl, ?_⟩; replace HO_145000 := kS HO_145000.out hb; have HO160 := am (Kd.R_lower (Kd.R_new' ho0 (Kd.R_lt (vR HO_6.out))) (below_size (vb HB.out))); replace HO_6 := am (Kd.R_elder' (vR HO_6.out) (Kd.R_base ho0) hb); replace BK143 := kb BK143.out hb; replace BK144 := kb BK144.out hb; replace BK154 := kb BK154.out hb; replace HB := bs HB.out hb; (try clear hb)) | ((with_reducible refine gate_dst (N := 8) rfl ?_); (try (refine gate_guard (by rfl) ?_; dsimp only)); refine box_event ?hg (N := 8) ?hd (cs := #[.string (⟨#[]⟩ : ByteArray), .int .i64 0, .int .i64 0]) (t := 153) ?hr ?_; (case hd => rfl); (case hg => rfl); (case hr => go_simp <;> rfl); intro gb161 hg w23 hbox hb; replace HO_6 := kR HO_6.out hb; replace HO_145000 := kS HO_145000.out hb; replace HO160 := kR HO160.out hb; have BK161 := am hbox; have GW161 := gef hg HB.out; have GE161 := gef hg HB.out; replace HB := bs HB.out hb; have NB143_161 := nl hg BK143.out; have NB161_143 := ng hg BK143.out; replace BK143 := kb BK143.out hb; have NB144_161 := nl hg BK144.out; have NB161_144 := ng hg BK144.out; replace BK144 := kb BK144.out hb; have NB154_161 := nl hg BK154.out; have NB161_154 := ng hg BK154.out; replace BK154 := kb BK154.out hb; clear hb hbox hg; have hnb24 := NB161_143.out; have hnc24 := NB143_161.out; have hnb25 := NB161_144.out; have hnc25 := NB144_161.out; have hnb26 := NB161_154.out; have hnc26 := NB154_161.out; obtain ⟨hcz27_0, hcz27_1, hcz27_2, hfz27_0, hfz27_1, hfz27_2⟩ := bk3 BK161.out; obtain ⟨Ao28, co28, eo28⟩ := Kd.R_slice HO160.out; subst eo28) | ((with_reducible refine gate_callee (f := 114) rfl ?_); refine goesL_ (some 34) rfl rfl Tryz.func114 (by kernel_rfl) rfl #[.slice Ao28 t158.length co28] rfl (by (try simp only [mT, mC, mN]); first | done | rfl) ?_; (with_reducible refine (Zae.calls k1 _ _ t158 t162 true _ ?side1 ?side2 A14.out).mono ?_); (case side1 => refine (Kd.R_reads' (e := 3) (base := w.heap.size) (ok := fun k_ => (True ∧ some k_ ≠ (.slice Ao18 t151.length co18 : Value).ownBlock)) (n := t158.length) (c := co28) ?_).2.2; exact (vR (Kd.R_mono (fR3 gb161 (Kd.R_types HO160.out BK161.out (by decide)) (.string t155) (.int .i64 t156) (.int .i64 t157)) (fun _ h_ => h_.1)))); (case side2 => exact (Kd.R_reads' HO160.out).2.1); rintro e w29 ⟨v164, rfl, ho0, hb⟩; refine ⟨_, rfl, ?_⟩; replace HO_6 := am (Kd.R_below (vR (Kd.R_mono (fR3 gb161 (Kd.R_types HO_6.out BK161.out (by decide)) (.string t155) (.int .i64 t156) (.int .i64 t157)) (fun _ h_ => h_.1))) hb); replace HO_145000 := am (Kd.S_elder' (vS (Kd.S_mono (fS3 gb161 (Kd.S_types HO_145000.out BK161.out (by decide)) (.string t155) (.int .i64 t156) (.int .i64 t157)) (fun _ h_ => h_.1))) (Kd.R_base ho0) hb); replace HO160 := am (Kd.R_below (vR (Kd.R_mono (fR3 gb161 (Kd.R_types HO160.out BK161.out (by decide)) (.string t155) (.int .i64 t156) (.int .i64 t157)) (fun _ h_ => h_.1))) hb); have HO165 := am (Kd.R_lower ho0 (below_size (vb HB.out))); replace BK143 := am (blk_below (g := gb143) (o := .cells #[.slice none 0 0, .slice none 0 0] 101 (0, 0)) (by exact vt (bf (vt (bf (vt (bf (vt BK143.out) NB143_161.out)) NB143_161.out)) NB143_161.out)) hb); replace BK144 := am (blk_below (g := gb144) (o := .cells #[u145000, .slice none 0 0] 101 (0, 0)) (by exact vt (bf (vt (bf (vt (bf (vt BK144.out) NB144_161.out)) NB144_161.out)) NB144_161.out)) hb); replace BK154 := am (blk_below (g := gb154) (o := .cells #[.string x155000_1, .int .i64 x155001_1, .int .i64 x155002_1] 153 (0, 0)) (by exact vt (bf (vt (bf (vt (bf (vt BK154.out) NB154_161.out)) NB154_161.out)) NB154_161.out)) hb); replace BK161 := am (blk_below (g := gb161) (o := .cells #[.string t155, .int .i64 t156, .int .i64 t157] 153 (0, 0)) (by exact (vt (bp (vt (bp (vt (bp (vt BK161.out) 0)) 1)) 2)).trans rfl) hb); replace HB := bs HB.out hb; (try clear hb)))
    replace HO_6 := am (Kd.R_drew HO_6.out)
    replace HO_145000 := am (Kd.S_drew HO_145000.out)
    replace HO160 := am (Kd.R_drew HO160.out)
    replace HO165 := am (Kd.R_drew HO165.out)
    replace BK143 := am (blk_drew BK143.out)
    replace BK144 := am (blk_drew BK144.out)
    replace BK154 := am (blk_drew BK154.out)
    replace BK161 := am (blk_drew BK161.out)
    replace HB := am (below_drew1 HB.out)
    have p166 : 0 ≤ (x7_1 : Int) := od (by with_reducible assumption)
    have q166 : x7_1 < (t151.length : Int) := od (by with_reducible assumption)
    obtain ⟨ad166, e166, hx166_0⟩ := Kd.at_int (Kd.R_reads' HO_6.out).2.2 x7_1 p166 q166
    cases e166
    replace p166 := eq_true p166
    replace q166 := eq_true q166
    obtain ⟨Ao31, co31, eo31⟩ := Kd.R_slice HO165.out
    (first | subst eo31 | (injection eo31 with f1_ f2_ f3_; have f4_ := f1_.symm; have f5_ := f3_.symm; clear f1_ f2_ f3_; subst f4_; subst f5_))
    refine start_ (n := 12) (S := fun w' => w'.cell? ⟨gb144, 0, none⟩ = some (u145000) ∧ w'.cell? ⟨gb144, 1, none⟩ = some (.slice none 0 0) ∧ w'.cell? (ad166.add (x7_1).toNat) = some (.int .i64 (rd t151 x7_1))) (ds := [9, 11]) #[false, false, false, false, false, false, false, false, false, false, false, false] (by kernel_rfl) rfl rfl ⟨(blk_cell BK144.out 0).trans rfl, (blk_cell BK144.out 1).trans rfl, hx166_0⟩ (fun hHeld => ?_); refine with_tabW Zbl.tab10 Zbl.bits10 (fun HT_ HW_ => ?_)
    generalize w29.drew = w30 at HO_6 HO_145000 HO160 HO165 BK143 BK144 BK154 BK161 HB hx166_0 hHeld ⊢
    refine pure_ (i := 0) (N := some 40) (v := ?_) (a' := ?_) #[true, false, false, false, false, false, false, false, false, false, false, false] rfl rfl (any_of HT_.out (by kernel_rfl)) (fun _ _ _ h => h) (Or.inl ⟨by rfl, ?_⟩) ?_ ?_
    rotate_left
    ·intro w'
     go_simp
     with_reducible rfl
    rotate_left
    ·simp only [Act.put, List.setIfInBounds_toArray, List.set_cons_zero, List.set_cons_succ, i64_w]
     rfl
    refine pure_ (i := 2) (N := some 42) (v := ?_) (a' := ?_) #[true, false, true, false, false, false, false, false, false, false, false, false] rfl rfl (any_of HT_.out (by kernel_rfl)) (fun _ _ _ h => h) (Or.inl ⟨by rfl, ?_⟩) ?_ ?_
    rotate_left
    ·intro w'
     go_simp
     with_reducible rfl
    rotate_left
    ·simp only [Act.put, List.setIfInBounds_toArray, List.set_cons_zero, List.set_cons_succ, i64_w]
     rfl
    refine pure_ (i := 3) (N := some 43) (v := ?_) (a' := ?_) #[true, false, true, true, false, false, false, false, false, false, false, false] rfl rfl (any_of HT_.out (by kernel_rfl)) (fun _ _ _ h => h) (Or.inl ⟨by rfl, ?_⟩) ?_ ?_
    rotate_left
    ·intro w'
     go_simp
     with_reducible rfl
    rotate_left
    ·simp only [Act.put, List.setIfInBounds_toArray, List.set_cons_zero, List.set_cons_succ, i64_w]
     rfl
    refine pure_ (i := 4) (N := some 44) (v := ?_) (a' := ?_) #[true, false, true, true, true, false, false, false, false, false, false, false] rfl rfl (any_of HT_.out (by kernel_rfl)) (fun _ _ _ h => h) (Or.inl ⟨by rfl, ?_⟩) ?_ ?_
    rotate_left
    ·intro w'
     go_simp
     with_reducible rfl
    rotate_left
    ·simp only [Act.put, List.setIfInBounds_toArray, List.set_cons_zero, List.set_cons_succ, i64_w]
     rfl
    refine pure_ (i := 6) (N := some 46) (v := ?_) (a' := ?_) #[true, false, true, true, true, false, true, false, false, false, false, false] rfl rfl (any_of HT_.out (by kernel_rfl)) (fun _ _ _ h => h) (Or.inl ⟨by rfl, ?_⟩) ?_ ?_
    rotate_left
    ·intro w'
     go_simp
     with_reducible rfl
    rotate_left
    ·simp only [Act.put, List.setIfInBounds_toArray, List.set_cons_zero, List.set_cons_succ, i64_w]
     rfl
    refine take_ (i := 1) (N := some 41) (v := ?_) (a' := ?_) #[true, true, true, true, true, false, true, false, false, false, false, false] rfl rfl (take_ofW HT_.out HW_.out (by kernel_rfl)) (fun _ _ _ h => h) (Or.inl ⟨by rfl, ?_⟩) hHeld ?_ ?_
    rotate_left
    ·rintro w' ⟨s0, s1, s2⟩
     go_simp
     with_reducible rfl
    rotate_left
    ·simp only [Act.put, List.setIfInBounds_toArray, List.set_cons_zero, List.set_cons_succ, i64_w]
     rfl
    refine take_ (i := 5) (N := some 45) (v := ?_) (a' := ?_) #[true, true, true, true, true, true, true, false, false, false, false, false] rfl rfl (take_ofW HT_.out HW_.out (by kernel_rfl)) (fun _ _ _ h => h) (Or.inl ⟨by rfl, ?_⟩) hHeld ?_ ?_
    rotate_left
    ·rintro w' ⟨s0, s1, s2⟩
     go_simp
     with_reducible rfl
    rotate_left
    ·simp only [Act.put, List.setIfInBounds_toArray, List.set_cons_zero, List.set_cons_succ, i64_w]
     rfl
    refine pure_ (i := 7) (N := some 47) (v := ?_) (a' := ?_) #[true, true, true, true, true, true, true, true, false, false, false, false] rfl rfl (any_of HT_.out (by kernel_rfl)) (fun _ _ _ h => h) (Or.inl ⟨by rfl, ?_⟩) ?_ ?_
    rotate_left
    ·intro w'
     go_simp
     with_reducible rfl
    rotate_left
    ·simp only [Act.put, List.setIfInBounds_toArray, List.set_cons_zero, List.set_cons_succ, i64_w]
     rfl
    refine one_ (i := 8) (N := some 48) #[true, true, true, true, true, true, true, true, true, false, false, false] rfl rfl (one_of HT_.out (by kernel_rfl)) (by decide) (fun K hK => ?_)
    refine value_ (w1 := ?_) (v := ?_) (by rfl) rfl ?_ ?_
    rotate_left 2
    ·go_simp
     constructor
     ·rfl
     rfl
    refine hK.out _ _ ⟨(blk_cell (blk_alloc BK144.out _) 0).trans rfl, (blk_cell (blk_alloc BK144.out _) 1).trans rfl, (World.cell?_alloc_lt _ _ _ (World.block_lt_of_cell? _ _ (hHeld.2.2))).trans (hHeld.2.2)⟩ (fun hHeld => ?_)
    clear hK K
    refine norm_ (a' := ?_) ?_ ?_
    rotate_left
    ·show Act.put _ (some 48) _ = _
     simp only [Act.put, List.setIfInBounds_toArray, List.set_cons_zero, List.set_cons_succ, i64_w]
     rfl
    refine last_ (i := 9) (N := some 49) #[true, true, true, true, true, true, true, true, true, true, false, false] rfl rfl (one_of HT_.out (by kernel_rfl)) (by decide) (fun K hK => ?_)
    refine Kd.S_append_step k106 (w0 := w) w.heap.size (by rfl) (.tmp 41) (.tmp 48) 98 106 (.agg #[(.int .i64 0), (.slice none 0 0)]) 32 rfl Tryz.underlying98 info106 rfl (by decide) (by omega) u145000 x145000_1 (⟨rd t151 x7_1, t162⟩ : S106) [.int .i64 (rd t151 x7_1), .slice Ao31 t162.length co31] (fun _ => True) (fun k_ => some k_ = (.slice Ao31 t162.length co31 : Value).ownBlock) rfl rfl ?aP (fun k_ hk_ => ((Kd.R_mono (ok' := fun k_ => ((fun _ => True)) k_ ∧ some k_ ≠ (u145000 : Value).ownBlock) (Kd.R_apart' (HO165.out) (Kd.S_typed HO_145000.out) (by decide)) (fun k_ hk => ⟨trivial, hk.2⟩))).1 k_ hk_.symm) ?aF ?aO ?aB ?aS ?aL ?_
    (case aP => exact k106_mkM _ _ _ (⟨rd t151 x7_1, t162⟩ : S106) (Kd.R_mono (Kd.R_tight rfl (Kd.R_mono (ok' := fun k_ => ((fun _ => True)) k_ ∧ some k_ ≠ (u145000 : Value).ownBlock) (Kd.R_apart' (HO165.out) (Kd.S_typed HO_145000.out) (by decide)) (fun k_ hk => ⟨trivial, hk.2⟩))) (fun _ h_ => h_)))
    (case aB => exact (vb HB.out))
    (case aF => exact (fun _ _ => trivial))
    (case aO => exact (vS (Kd.S_mono HO_145000.out (fun k_ hk => ⟨trivial, fun e_ => hk.2 e_⟩))))
    (case aS => exact (below_size (vb HB.out)))
    (case aL => have := LMc17.out; omega)
    intro v168 w32 ho hb hg hat
    rw [← Ny167.out] at ho
    replace HO_6 := am (Kd.R_over' (vR HO_6.out) (Kd.S_typed (vS HO_145000.out)) (by decide) hg)
    replace BK143 := am (blk_grown (g := gb143) (o := .cells #[.slice none 0 0, .slice none 0 0] 101 (0, 0)) (vk BK143.out) hg (Kd.S_ne HO_145000.out BK143.out (by decide)))
    replace BK144 := am (blk_grown (g := gb144) (o := .cells #[u145000, .slice none 0 0] 101 (0, 0)) (vk BK144.out) hg (Kd.S_ne HO_145000.out BK144.out (by decide)))
    replace BK154 := am (blk_grown (g := gb154) (o := .cells #[.string x155000_1, .int .i64 x155001_1, .int .i64 x155002_1] 153 (0, 0)) (vk BK154.out) hg (Kd.S_ne HO_145000.out BK154.out (by decide)))
    replace HO160 := am (Kd.R_over' (vR HO160.out) (Kd.S_typed (vS HO_145000.out)) (by decide) hg)
    replace BK161 := am (blk_grown (g := gb161) (o := .cells #[.string t155, .int .i64 t156, .int .i64 t157] 153 (0, 0)) (vk BK161.out) hg (Kd.S_ne HO_145000.out BK161.out (by decide)))
    replace HB := am hb
    have HO169 := am (ho)
    clear HO_145000 HO165
    clear ho hb hg hat
    obtain ⟨Ao33, co33, eo33⟩ := Kd.S_slice HO169.out
    (first | subst eo33 | (injection eo33 with f1_ f2_ f3_; have f4_ := f1_.symm; have f5_ := f3_.symm; clear f1_ f2_ f3_; subst f4_; subst f5_))
    refine hK.out _ _ ?_
    clear hK K
    refine norm_ (a' := ?_) ?_ ?_
    rotate_left
    ·show Act.put _ (some 49) _ = _
     simp only [Act.put, List.setIfInBounds_toArray, List.set_cons_zero, List.set_cons_succ, i64_w]
     rfl
    refine pure_ (i := 10) (N := some 50) (v := ?_) (a' := ?_) #[true, true, true, true, true, true, true, true, true, true, true, false] rfl rfl (any_of HT_.out (by kernel_rfl)) (fun _ _ _ h => h) (Or.inl ⟨by rfl, ?_⟩) ?_ ?_
    rotate_left
    ·intro w'
     go_simp
     with_reducible rfl
    rotate_left
    ·simp only [Act.put, List.setIfInBounds_toArray, List.set_cons_zero, List.set_cons_succ, i64_w]
     rfl
    refine last_ (i := 11) (N := none) #[true, true, true, true, true, true, true, true, true, true, true, true] rfl rfl (one_of HT_.out (by kernel_rfl)) (by decide) (fun K hK => ?_)
    have hs34 : w32.cell? ⟨gb144, 0, none⟩ = some (u145000) := (blk_cell BK144.out 0).trans rfl
    have hfs34 := blk_frozen BK144.out 0
    have hns34_0 := NB143_144.out
    have hns34_2 := NB154_144.out
    have hns34_3 := NB161_144.out
    have hms34_0 := NB144_143.out
    have hms34_2 := NB144_154.out
    have hms34_3 := NB144_161.out
    refine skip_ (w1 := ?_) (by rfl) rfl ?_ ?_
    rotate_left
    ·go_simp
     rfl
    refine hK.out _ _ ?_
    clear hK K
    refine done_ (done_of HT_.out (by kernel_rfl)) ?_
    obtain ⟨hcz35_0, hcz35_1, hcz35_2, hfz35_0, hfz35_1, hfz35_2⟩ := bk3 BK161.out
    obtain ⟨hcz36_0, hcz36_1, hcz36_2, hfz36_0, hfz36_1, hfz36_2⟩ := bk3 BK154.out
    try go_wp2
    go_roundg k1
    case measure => have := HK1.out; omega
    case rel => exact ⟨(wrap64 (x7_1 + 1)), (y167), (t155), (t156), (t157), (.slice Ao33 y167.length co33), (by first | rfl | (simp; done) | simp [*]), H', ⟨by have := HK1.out; omega⟩, ⟨vR (Kd.R_mono (fR3 gb154 (Kd.R_far (p := ⟨gb144, 0, none⟩) (Kd.R_types (Kd.R_types HO_6.out BK144.out (by decide)) BK154.out (by decide)) (fun _ hk => hk.1.2) (.slice Ao33 y167.length co33)) (.string t155) (.int .i64 t156) (.int .i64 t157)) (fun _ hk => trivial))⟩, ⟨vS (Kd.S_mono (fS3 gb154 (Kd.S_far (p := ⟨gb144, 0, none⟩) (Kd.S_types (Kd.S_types HO169.out BK144.out (by decide)) BK154.out (by decide)) (fun _ hk => hk.1.2) (.slice Ao33 y167.length co33)) (.string t155) (.int .i64 t156) (.int .i64 t157)) (fun _ hk => trivial))⟩, ⟨by exact vt (bf (vt (bf (vt (bf (vt (bf (vt BK143.out) NB143_144.out)) NB143_154.out)) NB143_154.out)) NB143_154.out)⟩, ⟨by exact (vt (bf (vt (bf (vt (bf (vt (bp (vt BK144.out) 0)) NB144_154.out)) NB144_154.out)) NB144_154.out)).trans rfl⟩, ⟨by exact (vt (bp (vt (bp (vt (bp (vt (bf (vt BK154.out) NB154_144.out)) 0)) 1)) 2)).trans rfl⟩, ⟨vb HB.out⟩⟩
   rw [if_neg c12] at H
   have c12b0 : decide (x7_1 < (t151.length : Int)) = false := df c12
   clear c12
   replace H := be H
   obtain ⟨⟨t170, t171, t172, t173⟩, A510, H⟩ := H
   try dsimp only at H
   have A51 := am A510
   clear A510
   have HC52 := am H
   clear H
   obtain ⟨Ao53, co53, eo53⟩ := Kd.R_slice HO_6.out
   subst eo53
   have hnb54 := NB154_143.out
   have hnc54 := NB143_154.out
   have hnb55 := NB154_144.out
   have hnc55 := NB144_154.out
   obtain ⟨hcz56_0, hcz56_1, hcz56_2, hfz56_0, hfz56_1, hfz56_2⟩ := bk3 BK154.out
   go_upto_region 13 with (first | ((with_reducible refine gate_callee (f := 112) rfl ?_); refine goesL_ (some 54) rfl rfl Tryz.func112 (by kernel_rfl) rfl #[.agg #[.string x155000_1, .int .i64 x155001_1, .int .i64 x155002_1], .int .i64 448, .int .i64 (-1099511627776), .int .i64 1099511627776] rfl (by (try simp only [mT, mC, mN]); first | done | rfl) ?_; (with_reducible refine (Zad.calls k1 x155000_1 x155001_1 x155002_1 448 (-1099511627776) 1099511627776 t170 t171 t172 t173 _ A51.out).mono ?_); rintro e w57 ⟨v174, rfl, ho0, hb⟩; refine ⟨_, rfl, ?_⟩; replace HO_145000 := kS HO_145000.out hb; have HO175 := am (Kd.R_lower (Kd.R_new' ho0 (Kd.R_lt (vR HO_6.out))) (below_size (vb HB.out))); replace HO_6 := am (Kd.R_elder' (vR HO_6.out) (Kd.R_base ho0) hb); replace BK143 := kb BK143.out hb; replace BK144 := kb BK144.out hb; replace BK154 := kb BK154.out hb; replace HB := bs HB.out hb; (try clear hb); (try clear hb2); (try clear hk); (try clear hi); (try clear ho0); obtain ⟨hcz58_0, hcz58_1, hcz58_2, hfz58_0, hfz58_1, hfz58_2⟩ := bk3 BK154.out))
   (try simp only [Act.put, List.setIfInBounds_toArray, List.set_cons_zero, List.set_cons_succ])
   go_cut [65] (fun v65 wc => ∃ (kq : Nat) (x65_51 : Bool), v65 = .bool x65_51 ∧ Aside0 (Zbl.j1 kq t173 x65_51 x145000_1 = some (r1, r2, r3)) ∧ Aside0 (kq ≤ k1) ∧ Aside0 (Kd.R (Kd.int .i64) 3 wc w.heap.size (fun _ => True) v174 t173) ∧ Aside0 (Kd.S k106 106 wc w.heap.size (fun _ => True) u145000 x145000_1) ∧ Aside0 (wc.heap[gb143]? = some (.cells #[(.slice none 0 0), (.slice none 0 0)] 101 (0, 0))) ∧ Aside0 (wc.heap[gb144]? = some (.cells #[u145000, (.slice none 0 0)] 101 (0, 0))) ∧ Aside0 (wc.heap[gb154]? = some (.cells #[.string t170, .int .i64 t171, .int .i64 t172] 153 (0, 0))) ∧ Aside0 (Below w.heap.size w wc))
   case first =>
    have H := HC52.out
    clear HC52
    replace H := be H
    obtain ⟨t176, A590, H⟩ := H
    try dsimp only at H
    have A59 := am A590
    clear A590
    by_cases c60 : t176 = 0
    rotate_left
    ·rw [if_neg c60] at H
     have c60b0 : (t176 == 0) = false := beq_eq_false_iff_ne.mpr c60
     have c60b1 : (t176 != 0) = true := bne_iff_ne.mpr c60
     (first | rw [c60b0] | (simp only [i64_w]; rw [c60b0]) | skip)
     have H' := am H
     clear H
     have hnb66 := NB154_143.out
     have hnc66 := NB143_154.out
     have hnb67 := NB154_144.out
     have hnc67 := NB144_154.out
     obtain ⟨hcz68_0, hcz68_1, hcz68_2, hfz68_0, hfz68_1, hfz68_2⟩ := bk3 BK154.out
     go_wp2_with (first | ((with_reducible refine gate_callee (f := 115) rfl ?_); refine goesL_ (some 58) rfl rfl Tryz.func115 (by kernel_rfl) rfl #[.agg #[.string t170, .int .i64 t171, .int .i64 t172]] rfl (by (try simp only [mT, mC, mN]); first | done | rfl) ?_; (with_reducible refine (Zbo.calls t170 t171 t172 t176 _ A59.out).mono ?_); rintro e w69 ⟨rfl, hb⟩; refine ⟨_, rfl, ?_⟩; replace HO_6 := am (Kd.R_below (vR (Kd.R_mono (fR3 gb154 (Kd.R_types HO_6.out BK154.out (by decide)) (.string t170) (.int .i64 t171) (.int .i64 t172)) (fun _ h_ => h_.1))) hb); replace HO_145000 := am (Kd.S_below (vS (Kd.S_mono (fS3 gb154 (Kd.S_types HO_145000.out BK154.out (by decide)) (.string t170) (.int .i64 t171) (.int .i64 t172)) (fun _ h_ => h_.1))) hb); replace HO175 := am (Kd.R_below (vR (Kd.R_mono (fR3 gb154 (Kd.R_types HO175.out BK154.out (by decide)) (.string t170) (.int .i64 t171) (.int .i64 t172)) (fun _ h_ => h_.1))) hb); replace BK143 := am (blk_below (g := gb143) (o := .cells #[.slice none 0 0, .slice none 0 0] 101 (0, 0)) (by exact vt (bf (vt (bf (vt (bf (vt BK143.out) NB143_154.out)) NB143_154.out)) NB143_154.out)) hb); replace BK144 := am (blk_below (g := gb144) (o := .cells #[u145000, .slice none 0 0] 101 (0, 0)) (by exact vt (bf (vt (bf (vt (bf (vt BK144.out) NB144_154.out)) NB144_154.out)) NB144_154.out)) hb); replace BK154 := am (blk_below (g := gb154) (o := .cells #[.string t170, .int .i64 t171, .int .i64 t172] 153 (0, 0)) (by exact (vt (bp (vt (bp (vt (bp (vt BK154.out) 0)) 1)) 2)).trans rfl) hb); replace HB := bs HB.out hb; (try clear hb)))
     go_meet
     case rel => exact ⟨_, (true), (by first | rfl | (simp; done) | simp [*]), H', ⟨by have := HK1.out; first | omega | exact Nat.le_refl _⟩, ⟨vR (Kd.R_mono HO175.out (fun _ hk => trivial))⟩, ⟨vS HO_145000.out⟩, ⟨vk BK143.out⟩, ⟨vk BK144.out⟩, ⟨vk BK154.out⟩, ⟨vb HB.out⟩⟩
    rw [if_pos c60] at H
    have c60b0 : (t176 == 0) = true := beq_iff_eq.mpr c60
    have c60b1 : (t176 != 0) = false := bne_eq_false_iff_eq.mpr c60
    clear c60
    (first | rw [c60b0] | (simp only [i64_w]; rw [c60b0]) | skip)
    have H' := am H
    clear H
    have hnb61 := NB154_143.out
    have hnc61 := NB143_154.out
    have hnb62 := NB154_144.out
    have hnc62 := NB144_154.out
    obtain ⟨hcz63_0, hcz63_1, hcz63_2, hfz63_0, hfz63_1, hfz63_2⟩ := bk3 BK154.out
    go_wp2_with (first | ((with_reducible refine gate_callee (f := 115) rfl ?_); refine goesL_ (some 58) rfl rfl Tryz.func115 (by kernel_rfl) rfl #[.agg #[.string t170, .int .i64 t171, .int .i64 t172]] rfl (by (try simp only [mT, mC, mN]); first | done | rfl) ?_; (with_reducible refine (Zbo.calls t170 t171 t172 t176 _ A59.out).mono ?_); rintro e w64 ⟨rfl, hb⟩; refine ⟨_, rfl, ?_⟩; replace HO_6 := am (Kd.R_below (vR (Kd.R_mono (fR3 gb154 (Kd.R_types HO_6.out BK154.out (by decide)) (.string t170) (.int .i64 t171) (.int .i64 t172)) (fun _ h_ => h_.1))) hb); replace HO_145000 := am (Kd.S_below (vS (Kd.S_mono (fS3 gb154 (Kd.S_types HO_145000.out BK154.out (by decide)) (.string t170) (.int .i64 t171) (.int .i64 t172)) (fun _ h_ => h_.1))) hb); replace HO175 := am (Kd.R_below (vR (Kd.R_mono (fR3 gb154 (Kd.R_types HO175.out BK154.out (by decide)) (.string t170) (.int .i64 t171) (.int .i64 t172)) (fun _ h_ => h_.1))) hb); replace BK143 := am (blk_below (g := gb143) (o := .cells #[.slice none 0 0, .slice none 0 0] 101 (0, 0)) (by exact vt (bf (vt (bf (vt (bf (vt BK143.out) NB143_154.out)) NB143_154.out)) NB143_154.out)) hb); replace BK144 := am (blk_below (g := gb144) (o := .cells #[u145000, .slice none 0 0] 101 (0, 0)) (by exact vt (bf (vt (bf (vt (bf (vt BK144.out) NB144_154.out)) NB144_154.out)) NB144_154.out)) hb); replace BK154 := am (blk_below (g := gb154) (o := .cells #[.string t170, .int .i64 t171, .int .i64 t172] 153 (0, 0)) (by exact (vt (bp (vt (bp (vt (bp (vt BK154.out) 0)) 1)) 2)).trans rfl) hb); replace HB := bs HB.out hb; (try clear hb); (try clear hb2); (try clear hk); (try clear hi); obtain ⟨Ao65, co65, eo65⟩ := Kd.R_slice HO175.out; subst eo65))
    go_meet
    case rel => exact ⟨_, ((((t173.length : Int) % 7) != 0)), (by first | rfl | (simp; done) | simp [*]), H', ⟨by have := HK1.out; first | omega | exact Nat.le_refl _⟩, ⟨vR (Kd.R_mono HO175.out (fun _ hk => trivial))⟩, ⟨vS HO_145000.out⟩, ⟨vk BK143.out⟩, ⟨vk BK144.out⟩, ⟨vk BK154.out⟩, ⟨vb HB.out⟩⟩
   case rest =>
    clear HC52
    (try clear c1); (try clear p1); (try clear q1); (try clear hx1); (try clear c2); (try clear p2); (try clear c3); (try clear c4); (try clear c5); (try clear c6); (try clear p6); (try clear c9); (try clear c10); (try clear c11); (try clear c12); (try clear c12b0); (try clear c15); (try clear c16); (try clear c16b0); (try clear p16); (try clear q16); (try clear hx16); (try clear c17); (try clear c19); (try clear c20); (try clear c24); (try clear c25); (try clear c26); (try clear c38); (try clear c39); (try clear c43); (try clear c44); (try clear c45); (try clear c49); (try clear c54); (try clear c55); (try clear c60); (try clear c60b0); (try clear c60b1); (try clear c61); (try clear c62); (try clear p64); (try clear c66); (try clear c67); (try clear hcz11_0); (try clear hcz11_1); (try clear hcz11_2); (try clear hcz21_0); (try clear hcz21_1); (try clear hcz21_2); (try clear hcz27_0); (try clear hcz27_1); (try clear hcz27_2); (try clear hcz35_0); (try clear hcz35_1); (try clear hcz35_2); (try clear hcz36_0); (try clear hcz36_1); (try clear hcz36_2); (try clear hcz40_0); (try clear hcz40_1); (try clear hcz40_2); (try clear hcz46_0); (try clear hcz46_1); (try clear hcz46_2); (try clear hcz50_0); (try clear hcz50_1); (try clear hcz56_0); (try clear hcz56_1); (try clear hcz56_2); (try clear hcz58_0); (try clear hcz58_1); (try clear hcz58_2); (try clear hcz63_0); (try clear hcz63_1); (try clear hcz63_2); (try clear hcz68_0); (try clear hcz68_1); (try clear hcz68_2); (try clear hfz11_0); (try clear hfz11_1); (try clear hfz11_2); (try clear hfz21_0); (try clear hfz21_1); (try clear hfz21_2); (try clear hfz27_0); (try clear hfz27_1); (try clear hfz27_2); (try clear hfz35_0); (try clear hfz35_1); (try clear hfz35_2); (try clear hfz36_0); (try clear hfz36_1); (try clear hfz36_2); (try clear hfz40_0); (try clear hfz40_1); (try clear hfz40_2); (try clear hfz46_0); (try clear hfz46_1); (try clear hfz46_2); (try clear hfz50_0); (try clear hfz50_1); (try clear hfz56_0); (try clear hfz56_1); (try clear hfz56_2); (try clear hfz58_0); (try clear hfz58_1); (try clear hfz58_2); (try clear hfz63_0); (try clear hfz63_1); (try clear hfz63_2); (try clear hfz68_0); (try clear hfz68_1); (try clear hfz68_2); (try clear hx166_0); (try clear p166); (try clear p2); (try clear q166)
    obtain ⟨kq, x65_51, rfl, HA, HJ51, HO_12, HO_145000, BK143, BK144, BK154, HB⟩ := hcut
    cases kq with
    | zero => exact absurd HA.out (by simp [Zbl.j1])
    | succ kj51 =>
     have H := HA.out
     clear HA
     simp only [Zbl.j1] at H
     by_cases c70 : x65_51 = true
     ·subst c70
      rw [if_pos rfl] at H
      simp only [Option.some.injEq, Prod.mk.injEq] at H
      obtain ⟨rfl, rfl, rfl⟩ := H
      have hnb71 := NB143_144.out
      have hnc71 := NB144_143.out
      have hnb72 := NB143_154.out
      have hnc72 := NB154_143.out
      obtain ⟨hcz73_0, hcz73_1, hfz73_0, hfz73_1⟩ := bk2 BK143.out
      go_wp2
      refine bodyPost_ret (results_ct rfl _ _ gb143 101 #[.slice none 0 0, .slice none 0 0] (0, 0) _ rfl (by exact (vt (bp (vt (bp (vt BK143.out) 0)) 1)).trans rfl) Tryz.underlying101 rfl (by kernel_rfl)) rfl ?_
      exact ⟨_, _, by rfl, by first | exact Kd.S_nil _ _ _ _ _ | exact Kd.N_nil _ _ _ _ _ | exact Kd.V_nil _ _ _ _ _ | exact Kd.Q_nil _ _ _ _ _ | exact Kd.R_nil _ _ _ _ _, by first | exact Kd.R_nil _ _ _ _ _ | exact Kd.N_nil _ _ _ _ _ | exact Kd.V_nil _ _ _ _ _ | exact Kd.Q_nil _ _ _ _ _ | exact Kd.S_nil _ _ _ _ _, vb HB.out⟩
     replace c70 := Bool.eq_false_iff.mpr c70
     subst c70
     rw [if_neg (show ¬ (false = true) by decide)] at H
     have H' := am H
     clear H
     go_wp2
     go_loopg [13] kj51 (fun kq v13 w' => ∃ (x13_3 : Int) (x145001_3 : List (S165)) (u145001 : Value), v13 = .int .i64 x13_3 ∧ Aside0 (Zbl.l1 kq t173 x13_3 x145000_1 x145001_3 = some (r1, r2, r3)) ∧ Aside0 (kq ≤ kj51) ∧ Aside0 (Kd.R (Kd.int .i64) 3 w' w.heap.size (fun _ => True) v174 t173) ∧ Aside0 (Kd.S k106 106 w' w.heap.size (fun _ => True) u145000 x145000_1) ∧ Aside0 (Kd.R k165 165 w' w.heap.size (fun _ => True) u145001 x145001_3) ∧ Aside0 (w'.heap[gb143]? = some (.cells #[(.slice none 0 0), (.slice none 0 0)] 101 (0, 0))) ∧ Aside0 (w'.heap[gb144]? = some (.cells #[u145000, u145001] 101 (0, 0))) ∧ Aside0 (w'.heap[gb154]? = some (.cells #[.string t170, .int .i64 t171, .int .i64 t172] 153 (0, 0))) ∧ Aside0 (Below w.heap.size w w'))
     case atStart => exact ⟨(0), (([] : List (S165))), (.slice none 0 0), (by first | rfl | (simp; done) | simp [*]), H', ⟨Nat.le_refl _⟩, ⟨vR HO_12.out⟩, ⟨vS HO_145000.out⟩, ⟨by first | exact Kd.R_nil _ _ _ _ _ | exact Kd.N_nil _ _ _ _ _ | exact Kd.V_nil _ _ _ _ _ | exact Kd.Q_nil _ _ _ _ _ | exact Kd.S_nil _ _ _ _ _⟩, ⟨vk BK143.out⟩, ⟨vk BK144.out⟩, ⟨vk BK154.out⟩, ⟨vb HB.out⟩⟩
     case round =>
      clear H'
      (try clear c1); (try clear p1); (try clear q1); (try clear hx1); (try clear c2); (try clear p2); (try clear c3); (try clear c4); (try clear c5); (try clear c6); (try clear p6); (try clear c7); (try clear c9); (try clear c10); (try clear c11); (try clear c12); (try clear c12b0); (try clear c15); (try clear c16); (try clear c16b0); (try clear p16); (try clear q16); (try clear hx16); (try clear c17); (try clear c19); (try clear c20); (try clear c24); (try clear c25); (try clear c26); (try clear c38); (try clear c39); (try clear c43); (try clear c44); (try clear c45); (try clear c49); (try clear c54); (try clear c55); (try clear c60); (try clear c60b0); (try clear c60b1); (try clear c61); (try clear c62); (try clear p64); (try clear c66); (try clear c67); (try clear c70); (try clear c71); (try clear c72); (try clear hcz11_0); (try clear hcz11_1); (try clear hcz11_2); (try clear hcz21_0); (try clear hcz21_1); (try clear hcz21_2); (try clear hcz27_0); (try clear hcz27_1); (try clear hcz27_2); (try clear hcz35_0); (try clear hcz35_1); (try clear hcz35_2); (try clear hcz36_0); (try clear hcz36_1); (try clear hcz36_2); (try clear hcz40_0); (try clear hcz40_1); (try clear hcz40_2); (try clear hcz46_0); (try clear hcz46_1); (try clear hcz46_2); (try clear hcz50_0); (try clear hcz50_1); (try clear hcz56_0); (try clear hcz56_1); (try clear hcz56_2); (try clear hcz58_0); (try clear hcz58_1); (try clear hcz58_2); (try clear hcz63_0); (try clear hcz63_1); (try clear hcz63_2); (try clear hcz68_0); (try clear hcz68_1); (try clear hcz68_2); (try clear hcz73_0); (try clear hcz73_1); (try clear hfz11_0); (try clear hfz11_1); (try clear hfz11_2); (try clear hfz21_0); (try clear hfz21_1); (try clear hfz21_2); (try clear hfz27_0); (try clear hfz27_1); (try clear hfz27_2); (try clear hfz35_0); (try clear hfz35_1); (try clear hfz35_2); (try clear hfz36_0); (try clear hfz36_1); (try clear hfz36_2); (try clear hfz40_0); (try clear hfz40_1); (try clear hfz40_2); (try clear hfz46_0); (try clear hfz46_1); (try clear hfz46_2); (try clear hfz50_0); (try clear hfz50_1); (try clear hfz56_0); (try clear hfz56_1); (try clear hfz56_2); (try clear hfz58_0); (try clear hfz58_1); (try clear hfz58_2); (try clear hfz63_0); (try clear hfz63_1); (try clear hfz63_2); (try clear hfz68_0); (try clear hfz68_1); (try clear hfz68_2); (try clear hfz73_0); (try clear hfz73_1); (try clear hx166_0); (try clear p1); (try clear p16); (try clear p166); (try clear p2); (try clear p6); (try clear p64); (try clear q1); (try clear q16); (try clear q166)
      obtain ⟨x13_3, x145001_3, u145001, rfl, HA, HK3, HO_12, HO_145000, HO_145001, BK143, BK144, BK154, HB⟩ := hrel
      cases gk with
      | zero => exact absurd HA.out (by simp [Zbl.l1])
      | succ k3 =>
       have H := HA.out
       clear HA
       simp only [Zbl.l1] at H
       by_cases c74 : x13_3 < (t173.length : Int)
       rotate_left
       ·rw [if_neg c74] at H
        have c74b0 : decide (x13_3 < (t173.length : Int)) = false := df c74
        clear c74
        simp only [Option.some.injEq, Prod.mk.injEq] at H
        obtain ⟨rfl, rfl, rfl⟩ := H
        obtain ⟨Ao109, co109, eo109⟩ := Kd.R_slice HO_12.out
        subst eo109
        have hnb110 := NB144_143.out
        have hnc110 := NB143_144.out
        have hnb111 := NB144_154.out
        have hnc111 := NB154_144.out
        obtain ⟨hcz112_0, hcz112_1, hfz112_0, hfz112_1⟩ := bk2 BK144.out
        obtain ⟨Ao113, co113, eo113⟩ := Kd.S_slice HO_145000.out
        subst eo113
        have hnb114 := NB143_154.out
        have hnc114 := NB154_143.out
        obtain ⟨hcz115_0, hcz115_1, hfz115_0, hfz115_1⟩ := bk2 BK143.out
        obtain ⟨Ao116, co116, eo116⟩ := Kd.R_slice HO_145001.out
        subst eo116
        go_wp2
        refine bodyPost_ret (results_ct rfl _ _ gb143 101 #[.slice Ao113 x145000_1.length co113, .slice Ao116 x145001_3.length co116] (0, 0) _ rfl (by exact (vt (bp (vt (bp (vt BK143.out) 0)) 1)).trans rfl) Tryz.underlying101 rfl (by kernel_rfl)) rfl ?_
        exact ⟨_, _, by rfl, vS (Kd.S_mono (Kd.S_far (p := ⟨gb143, 1, none⟩) (Kd.S_far (p := ⟨gb143, 0, none⟩) (Kd.S_types HO_145000.out BK143.out (by decide)) (fun _ hk => hk.2) (.slice Ao113 x145000_1.length co113)) (fun _ hk => hk.2) (.slice Ao116 x145001_3.length co116)) (fun _ hk => trivial)), vR (Kd.R_mono (Kd.R_far (p := ⟨gb143, 1, none⟩) (Kd.R_far (p := ⟨gb143, 0, none⟩) (Kd.R_types HO_145001.out BK143.out (by decide)) (fun _ hk => hk.2) (.slice Ao113 x145000_1.length co113)) (fun _ hk => hk.2) (.slice Ao116 x145001_3.length co116)) (fun _ hk => trivial)), vb HB.out⟩
       rw [if_pos c74] at H
       have c74b0 : decide (x13_3 < (t173.length : Int)) = true := de c74
       clear c74
       obtain ⟨ji75, hji75⟩ : ∃ j_ : Int, (wrap64 (x13_3 + 1)) = j_ := ⟨_, rfl⟩
       replace H : (if 0 ≤ (ji75) then (if (ji75) < (t173.length : Int) then (if 0 ≤ (wrap64 (x13_3 + 2)) then (if (wrap64 (x13_3 + 2)) < (t173.length : Int) then (if 0 ≤ (wrap64 (x13_3 + 3)) then (if (wrap64 (x13_3 + 3)) < (t173.length : Int) then (if 0 ≤ (wrap64 (x13_3 + 4)) then (if (wrap64 (x13_3 + 4)) < (t173.length : Int) then (if 0 ≤ (wrap64 (x13_3 + 5)) then (if (wrap64 (x13_3 + 5)) < (t173.length : Int) then (if 0 ≤ (wrap64 (x13_3 + 6)) then (if (wrap64 (x13_3 + 6)) < (t173.length : Int) then (if 0 ≤ x13_3 then (if x145001_3.length < 2513169434916 then (Zbl.l1 k3 t173 (wrap64 (x13_3 + 7)) x145000_1 (x145001_3 ++ [(⟨rd t173 x13_3, (⟨(⟨rd t173 (ji75), rd t173 (wrap64 (x13_3 + 2))⟩ : S161), (⟨rd t173 (wrap64 (x13_3 + 3)), rd t173 (wrap64 (x13_3 + 4))⟩ : S161), (⟨rd t173 (wrap64 (x13_3 + 5)), rd t173 (wrap64 (x13_3 + 6))⟩ : S161)⟩ : S163)⟩ : S165)])) else (none)) else (none)) else (none)) else (none)) else (none)) else (none)) else (none)) else (none)) else (none)) else (none)) else (none)) else (none)) else (none)) else (none)) = some (r1, r2, r3) := by first | (rw [hji75] at H; exact H) | (simp only [hji75] at H ⊢; exact H)
       have hji75w : (IntKind.i64.wrap (x13_3 + 1)) = ji75 := (i64_w _).trans hji75
       by_cases c76 : 0 ≤ (ji75)
       rotate_left
       ·rw [if_neg c76] at H
        exact absurd H (by simp)
       rw [if_pos c76] at H
       have c76b0 : decide (0 ≤ (ji75)) = true := de c76
       clear c76
       by_cases c77 : (ji75) < (t173.length : Int)
       rotate_left
       ·rw [if_neg c77] at H
        exact absurd H (by simp)
       rw [if_pos c77] at H
       have c77b0 : decide ((ji75) < (t173.length : Int)) = true := de c77
       clear c77
       obtain ⟨ji78, hji78⟩ : ∃ j_ : Int, (wrap64 (x13_3 + 2)) = j_ := ⟨_, rfl⟩
       replace H : (if 0 ≤ (ji78) then (if (ji78) < (t173.length : Int) then (if 0 ≤ (wrap64 (x13_3 + 3)) then (if (wrap64 (x13_3 + 3)) < (t173.length : Int) then (if 0 ≤ (wrap64 (x13_3 + 4)) then (if (wrap64 (x13_3 + 4)) < (t173.length : Int) then (if 0 ≤ (wrap64 (x13_3 + 5)) then (if (wrap64 (x13_3 + 5)) < (t173.length : Int) then (if 0 ≤ (wrap64 (x13_3 + 6)) then (if (wrap64 (x13_3 + 6)) < (t173.length : Int) then (if 0 ≤ x13_3 then (if x145001_3.length < 2513169434916 then (Zbl.l1 k3 t173 (wrap64 (x13_3 + 7)) x145000_1 (x145001_3 ++ [(⟨rd t173 x13_3, (⟨(⟨rd t173 (ji75), rd t173 (ji78)⟩ : S161), (⟨rd t173 (wrap64 (x13_3 + 3)), rd t173 (wrap64 (x13_3 + 4))⟩ : S161), (⟨rd t173 (wrap64 (x13_3 + 5)), rd t173 (wrap64 (x13_3 + 6))⟩ : S161)⟩ : S163)⟩ : S165)])) else (none)) else (none)) else (none)) else (none)) else (none)) else (none)) else (none)) else (none)) else (none)) else (none)) else (none)) else (none)) = some (r1, r2, r3) := by first | (rw [hji78] at H; exact H) | (simp only [hji78] at H ⊢; exact H)
       have hji78w : (IntKind.i64.wrap (x13_3 + 2)) = ji78 := (i64_w _).trans hji78
       by_cases c79 : 0 ≤ (ji78)
       rotate_left
       ·rw [if_neg c79] at H
        exact absurd H (by simp)
       rw [if_pos c79] at H
       have c79b0 : decide (0 ≤ (ji78)) = true := de c79
       clear c79
       by_cases c80 : (ji78) < (t173.length : Int)
       rotate_left
       ·rw [if_neg c80] at H
        exact absurd H (by simp)
       rw [if_pos c80] at H
       have c80b0 : decide ((ji78) < (t173.length : Int)) = true := de c80
       clear c80
       obtain ⟨ji81, hji81⟩ : ∃ j_ : Int, (wrap64 (x13_3 + 3)) = j_ := ⟨_, rfl⟩
       replace H : (if 0 ≤ (ji81) then (if (ji81) < (t173.length : Int) then (if 0 ≤ (wrap64 (x13_3 + 4)) then (if (wrap64 (x13_3 + 4)) < (t173.length : Int) then (if 0 ≤ (wrap64 (x13_3 + 5)) then (if (wrap64 (x13_3 + 5)) < (t173.length : Int) then (if 0 ≤ (wrap64 (x13_3 + 6)) then (if (wrap64 (x13_3 + 6)) < (t173.length : Int) then (if 0 ≤ x13_3 then (if x145001_3.length < 2513169434916 then (Zbl.l1 k3 t173 (wrap64 (x13_3 + 7)) x145000_1 (x145001_3 ++ [(⟨rd t173 x13_3, (⟨(⟨rd t173 (ji75), rd t173 (ji78)⟩ : S161), (⟨rd t173 (ji81), rd t173 (wrap64 (x13_3 + 4))⟩ : S161), (⟨rd t173 (wrap64 (x13_3 + 5)), rd t173 (wrap64 (x13_3 + 6))⟩ : S161)⟩ : S163)⟩ : S165)])) else (none)) else (none)) else (none)) else (none)) else (none)) else (none)) else (none)) else (none)) else (none)) else (none)) = some (r1, r2, r3) := by first | (rw [hji81] at H; exact H) | (simp only [hji81] at H ⊢; exact H)
       have hji81w : (IntKind.i64.wrap (x13_3 + 3)) = ji81 := (i64_w _).trans hji81
       by_cases c82 : 0 ≤ (ji81)
       rotate_left
       ·rw [if_neg c82] at H
        exact absurd H (by simp)
       rw [if_pos c82] at H
       have c82b0 : decide (0 ≤ (ji81)) = true := de c82
       clear c82
       by_cases c83 : (ji81) < (t173.length : Int)
       rotate_left
       ·rw [if_neg c83] at H
        exact absurd H (by simp)
       rw [if_pos c83] at H
       have c83b0 : decide ((ji81) < (t173.length : Int)) = true := de c83
       clear c83
       obtain ⟨ji84, hji84⟩ : ∃ j_ : Int, (wrap64 (x13_3 + 4)) = j_ := ⟨_, rfl⟩
       replace H : (if 0 ≤ (ji84) then (if (ji84) < (t173.length : Int) then (if 0 ≤ (wrap64 (x13_3 + 5)) then (if (wrap64 (x13_3 + 5)) < (t173.length : Int) then (if 0 ≤ (wrap64 (x13_3 + 6)) then (if (wrap64 (x13_3 + 6)) < (t173.length : Int) then (if 0 ≤ x13_3 then (if x145001_3.length < 2513169434916 then (Zbl.l1 k3 t173 (wrap64 (x13_3 + 7)) x145000_1 (x145001_3 ++ [(⟨rd t173 x13_3, (⟨(⟨rd t173 (ji75), rd t173 (ji78)⟩ : S161), (⟨rd t173 (ji81), rd t173 (ji84)⟩ : S161), (⟨rd t173 (wrap64 (x13_3 + 5)), rd t173 (wrap64 (x13_3 + 6))⟩ : S161)⟩ : S163)⟩ : S165)])) else (none)) else (none)) else (none)) else (none)) else (none)) else (none)) else (none)) else (none)) = some (r1, r2, r3) := by first | (rw [hji84] at H; exact H) | (simp only [hji84] at H ⊢; exact H)
       have hji84w : (IntKind.i64.wrap (x13_3 + 4)) = ji84 := (i64_w _).trans hji84
       by_cases c85 : 0 ≤ (ji84)
       rotate_left
       ·rw [if_neg c85] at H
        exact absurd H (by simp)
       rw [if_pos c85] at H
       have c85b0 : decide (0 ≤ (ji84)) = true := de c85
       clear c85
       by_cases c86 : (ji84) < (t173.length : Int)
       rotate_left
       ·rw [if_neg c86] at H
        exact absurd H (by simp)
       rw [if_pos c86] at H
       have c86b0 : decide ((ji84) < (t173.length : Int)) = true := de c86
       clear c86
       obtain ⟨ji87, hji87⟩ : ∃ j_ : Int, (wrap64 (x13_3 + 5)) = j_ := ⟨_, rfl⟩
       replace H : (if 0 ≤ (ji87) then (if (ji87) < (t173.length : Int) then (if 0 ≤ (wrap64 (x13_3 + 6)) then (if (wrap64 (x13_3 + 6)) < (t173.length : Int) then (if 0 ≤ x13_3 then (if x145001_3.length < 2513169434916 then (Zbl.l1 k3 t173 (wrap64 (x13_3 + 7)) x145000_1 (x145001_3 ++ [(⟨rd t173 x13_3, (⟨(⟨rd t173 (ji75), rd t173 (ji78)⟩ : S161), (⟨rd t173 (ji81), rd t173 (ji84)⟩ : S161), (⟨rd t173 (ji87), rd t173 (wrap64 (x13_3 + 6))⟩ : S161)⟩ : S163)⟩ : S165)])) else (none)) else (none)) else (none)) else (none)) else (none)) else (none)) = some (r1, r2, r3) := by first | (rw [hji87] at H; exact H) | (simp only [hji87] at H ⊢; exact H)
       have hji87w : (IntKind.i64.wrap (x13_3 + 5)) = ji87 := (i64_w _).trans hji87
       by_cases c88 : 0 ≤ (ji87)
       rotate_left
       ·rw [if_neg c88] at H
        exact absurd H (by simp)
       rw [if_pos c88] at H
       have c88b0 : decide (0 ≤ (ji87)) = true := de c88
       clear c88
       by_cases c89 : (ji87) < (t173.length : Int)
       rotate_left
       ·rw [if_neg c89] at H
        exact absurd H (by simp)
       rw [if_pos c89] at H
       have c89b0 : decide ((ji87) < (t173.length : Int)) = true := de c89
       clear c89
       obtain ⟨ji90, hji90⟩ : ∃ j_ : Int, (wrap64 (x13_3 + 6)) = j_ := ⟨_, rfl⟩
       replace H : (if 0 ≤ (ji90) then (if (ji90) < (t173.length : Int) then (if 0 ≤ x13_3 then (if x145001_3.length < 2513169434916 then (Zbl.l1 k3 t173 (wrap64 (x13_3 + 7)) x145000_1 (x145001_3 ++ [(⟨rd t173 x13_3, (⟨(⟨rd t173 (ji75), rd t173 (ji78)⟩ : S161), (⟨rd t173 (ji81), rd t173 (ji84)⟩ : S161), (⟨rd t173 (ji87), rd t173 (ji90)⟩ : S161)⟩ : S163)⟩ : S165)])) else (none)) else (none)) else (none)) else (none)) = some (r1, r2, r3) := by first | (rw [hji90] at H; exact H) | (simp only [hji90] at H ⊢; exact H)
       have hji90w : (IntKind.i64.wrap (x13_3 + 6)) = ji90 := (i64_w _).trans hji90
       by_cases c91 : 0 ≤ (ji90)
       rotate_left
       ·rw [if_neg c91] at H
        exact absurd H (by simp)
       rw [if_pos c91] at H
       have c91b0 : decide (0 ≤ (ji90)) = true := de c91
       clear c91
       by_cases c92 : (ji90) < (t173.length : Int)
       rotate_left
       ·rw [if_neg c92] at H
        exact absurd H (by simp)
       rw [if_pos c92] at H
       have c92b0 : decide ((ji90) < (t173.length : Int)) = true := de c92
       clear c92
       by_cases c93 : 0 ≤ x13_3
       rotate_left
       ·rw [if_neg c93] at H
        exact absurd H (by simp)
       rw [if_pos c93] at H
       have c93b0 : decide (0 ≤ x13_3) = true := de c93
       clear c93
       by_cases c94 : x145001_3.length < 2513169434916
       rotate_left
       ·rw [if_neg c94] at H
        exact absurd H (by simp)
       rw [if_pos c94] at H
       have LMc94 := am c94
       clear c94
       obtain ⟨y185, hy185⟩ : ∃ y_ : List (S165), y_ = (x145001_3 ++ [(⟨rd t173 x13_3, (⟨(⟨rd t173 (ji75), rd t173 (ji78)⟩ : S161), (⟨rd t173 (ji81), rd t173 (ji84)⟩ : S161), (⟨rd t173 (ji87), rd t173 (ji90)⟩ : S161)⟩ : S163)⟩ : S165)]) := ⟨_, rfl⟩
       replace H : (Zbl.l1 k3 t173 (wrap64 (x13_3 + 7)) x145000_1 y185) = some (r1, r2, r3) := by first | (rw [hy185]; with_reducible exact H) | (have H2_ := (Option.bind_some _ _).symm.trans H; rw [hy185]; with_reducible exact H2_) | (have H2_ := (Option.bind_some _ _).symm.trans H; with_reducible exact H2_) | with_reducible exact H | (rw [hy185]; exact H) | exact H
       have Ny185 := am hy185
       clear hy185
       have H' := am H
       clear H
       obtain ⟨Ao95, co95, eo95⟩ := Kd.R_slice HO_12.out
       subst eo95
       try go_wp2
       replace HO_12 := am (Kd.R_drew HO_12.out)
       replace HO_145000 := am (Kd.S_drew HO_145000.out)
       replace HO_145001 := am (Kd.R_drew HO_145001.out)
       replace BK143 := am (blk_drew BK143.out)
       replace BK144 := am (blk_drew BK144.out)
       replace BK154 := am (blk_drew BK154.out)
       replace HB := am (below_drew1 HB.out)
       have p177 : 0 ≤ ((ji75) : Int) := od (by with_reducible assumption)
       have q177 : (ji75) < (t173.length : Int) := od (by with_reducible assumption)
       obtain ⟨ad177, e177, hx177_0⟩ := Kd.at_int (Kd.R_reads' HO_12.out).2.2 (ji75) p177 q177
       cases e177
       replace p177 := eq_true p177
       replace q177 := eq_true q177
       have p178 : 0 ≤ ((ji78) : Int) := od (by with_reducible assumption)
       have q178 : (ji78) < (t173.length : Int) := od (by with_reducible assumption)
       obtain ⟨ad178, e178, hx178_0⟩ := Kd.at_int (Kd.R_reads' HO_12.out).2.2 (ji78) p178 q178
       obtain rfl : ad177 = ad178 := (by injection e178)
       replace p178 := eq_true p178
       replace q178 := eq_true q178
       have p179 : 0 ≤ ((ji81) : Int) := od (by with_reducible assumption)
       have q179 : (ji81) < (t173.length : Int) := od (by with_reducible assumption)
       obtain ⟨ad179, e179, hx179_0⟩ := Kd.at_int (Kd.R_reads' HO_12.out).2.2 (ji81) p179 q179
       obtain rfl : ad177 = ad179 := (by injection e179)
       replace p179 := eq_true p179
       replace q179 := eq_true q179
       have p180 : 0 ≤ ((ji84) : Int) := od (by with_reducible assumption)
       have q180 : (ji84) < (t173.length : Int) := od (by with_reducible assumption)
       obtain ⟨ad180, e180, hx180_0⟩ := Kd.at_int (Kd.R_reads' HO_12.out).2.2 (ji84) p180 q180
       obtain rfl : ad177 = ad180 := (by injection e180)
       replace p180 := eq_true p180
       replace q180 := eq_true q180
       have p181 : 0 ≤ ((ji87) : Int) := od (by with_reducible assumption)
       have q181 : (ji87) < (t173.length : Int) := od (by with_reducible assumption)
       obtain ⟨ad181, e181, hx181_0⟩ := Kd.at_int (Kd.R_reads' HO_12.out).2.2 (ji87) p181 q181
       obtain rfl : ad177 = ad181 := (by injection e181)
       replace p181 := eq_true p181
       replace q181 := eq_true q181
       have p182 : 0 ≤ ((ji90) : Int) := od (by with_reducible assumption)
       have q182 : (ji90) < (t173.length : Int) := od (by with_reducible assumption)
       obtain ⟨ad182, e182, hx182_0⟩ := Kd.at_int (Kd.R_reads' HO_12.out).2.2 (ji90) p182 q182
       obtain rfl : ad177 = ad182 := (by injection e182)
       replace p182 := eq_true p182
       replace q182 := eq_true q182
       refine start_ (n := 36) (S := fun w' => w'.cell? (ad177.add ((ji75)).toNat) = some (.int .i64 (rd t173 (ji75))) ∧ w'.cell? (ad177.add ((ji78)).toNat) = some (.int .i64 (rd t173 (ji78))) ∧ w'.cell? (ad177.add ((ji81)).toNat) = some (.int .i64 (rd t173 (ji81))) ∧ w'.cell? (ad177.add ((ji84)).toNat) = some (.int .i64 (rd t173 (ji84))) ∧ w'.cell? (ad177.add ((ji87)).toNat) = some (.int .i64 (rd t173 (ji87))) ∧ w'.cell? (ad177.add ((ji90)).toNat) = some (.int .i64 (rd t173 (ji90)))) (ds := []) #[false, false, false, false, false, false, false, false, false, false, false, false, false, false, false, false, false, false, false, false, false, false, false, false, false, false, false, false, false, false, false, false, false, false, false, false] (by kernel_rfl) rfl rfl ⟨hx177_0, hx178_0, hx179_0, hx180_0, hx181_0, hx182_0⟩ (fun hHeld => ?_); refine with_tabW Zbl.tab18 Zbl.bits18 (fun HT_ HW_ => ?_)
       generalize wr.drew = w96 at HO_12 HO_145000 HO_145001 BK143 BK144 BK154 HB hx177_0 hx178_0 hx179_0 hx180_0 hx181_0 hx182_0 hHeld ⊢
       refine pure_ (i := 0) (N := some 73) (v := ?_) (a' := ?_) #[true, false, false, false, false, false, false, false, false, false, false, false, false, false, false, false, false, false, false, false, false, false, false, false, false, false, false, false, false, false, false, false, false, false, false, false] rfl rfl (any_of HT_.out (by kernel_rfl)) (fun _ _ _ h => h) (Or.inl ⟨by rfl, ?_⟩) ?_ ?_
       rotate_left
       ·intro w'
        go_simp
        with_reducible rfl
       rotate_left
       ·simp only [Act.put, List.setIfInBounds_toArray, List.set_cons_zero, List.set_cons_succ, i64_w]
        rfl
       refine pure_ (i := 1) (N := some 74) (v := ?_) (a' := ?_) #[true, true, false, false, false, false, false, false, false, false, false, false, false, false, false, false, false, false, false, false, false, false, false, false, false, false, false, false, false, false, false, false, false, false, false, false] rfl rfl (any_of HT_.out (by kernel_rfl)) (fun _ _ _ h => h) (Or.inl ⟨by rfl, ?_⟩) ?_ ?_
       rotate_left
       ·intro w'
        go_simp
        with_reducible rfl
       rotate_left
       ·simp only [Act.put, List.setIfInBounds_toArray, List.set_cons_zero, List.set_cons_succ, i64_w]
        rfl
       refine pure_ (i := 2) (N := some 75) (v := ?_) (a' := ?_) #[true, true, true, false, false, false, false, false, false, false, false, false, false, false, false, false, false, false, false, false, false, false, false, false, false, false, false, false, false, false, false, false, false, false, false, false] rfl rfl (any_of HT_.out (by kernel_rfl)) (fun _ _ _ h => h) (Or.inl ⟨by rfl, ?_⟩) ?_ ?_
       rotate_left
       ·intro w'
        go_simp
        with_reducible rfl
       rotate_left
       ·simp only [Act.put, List.setIfInBounds_toArray, List.set_cons_zero, List.set_cons_succ, i64_w]
        rfl
       refine pure_ (i := 3) (N := some 76) (v := ?_) (a' := ?_) #[true, true, true, true, false, false, false, false, false, false, false, false, false, false, false, false, false, false, false, false, false, false, false, false, false, false, false, false, false, false, false, false, false, false, false, false] rfl rfl (any_of HT_.out (by kernel_rfl)) (fun _ _ _ h => h) (Or.inl ⟨by rfl, ?_⟩) ?_ ?_
       rotate_left
       ·intro w'
        go_simp
        with_reducible rfl
       rotate_left
       ·simp only [Act.put, List.setIfInBounds_toArray, List.set_cons_zero, List.set_cons_succ, i64_w]
        rfl
       refine pure_ (i := 5) (N := some 78) (v := ?_) (a' := ?_) #[true, true, true, true, false, true, false, false, false, false, false, false, false, false, false, false, false, false, false, false, false, false, false, false, false, false, false, false, false, false, false, false, false, false, false, false] rfl rfl (any_of HT_.out (by kernel_rfl)) (fun _ _ _ h => h) (Or.inl ⟨by rfl, ?_⟩) ?_ ?_
       rotate_left
       ·intro w'
        go_simp
        with_reducible rfl
       rotate_left
       ·simp only [Act.put, List.setIfInBounds_toArray, List.set_cons_zero, List.set_cons_succ, i64_w]
        rfl
       refine pure_ (i := 6) (N := some 79) (v := ?_) (a' := ?_) #[true, true, true, true, false, true, true, false, false, false, false, false, false, false, false, false, false, false, false, false, false, false, false, false, false, false, false, false, false, false, false, false, false, false, false, false] rfl rfl (any_of HT_.out (by kernel_rfl)) (fun _ _ _ h => h) (Or.inl ⟨by rfl, ?_⟩) ?_ ?_
       rotate_left
       ·intro w'
        go_simp
        with_reducible rfl
       rotate_left
       ·simp only [Act.put, List.setIfInBounds_toArray, List.set_cons_zero, List.set_cons_succ, i64_w]
        rfl
       refine pure_ (i := 7) (N := some 80) (v := ?_) (a' := ?_) #[true, true, true, true, false, true, true, true, false, false, false, false, false, false, false, false, false, false, false, false, false, false, false, false, false, false, false, false, false, false, false, false, false, false, false, false] rfl rfl (any_of HT_.out (by kernel_rfl)) (fun _ _ _ h => h) (Or.inl ⟨by rfl, ?_⟩) ?_ ?_
       rotate_left
       ·intro w'
        go_simp
        with_reducible rfl
       rotate_left
       ·simp only [Act.put, List.setIfInBounds_toArray, List.set_cons_zero, List.set_cons_succ, i64_w]
        rfl
       refine pure_ (i := 8) (N := some 81) (v := ?_) (a' := ?_) #[true, true, true, true, false, true, true, true, true, false, false, false, false, false, false, false, false, false, false, false, false, false, false, false, false, false, false, false, false, false, false, false, false, false, false, false] rfl rfl (any_of HT_.out (by kernel_rfl)) (fun _ _ _ h => h) (Or.inl ⟨by rfl, ?_⟩) ?_ ?_
       rotate_left
       ·intro w'
        go_simp
        with_reducible rfl
       rotate_left
       ·simp only [Act.put, List.setIfInBounds_toArray, List.set_cons_zero, List.set_cons_succ, i64_w]
        rfl
       refine pure_ (i := 11) (N := some 84) (v := ?_) (a' := ?_) #[true, true, true, true, false, true, true, true, true, false, false, true, false, false, false, false, false, false, false, false, false, false, false, false, false, false, false, false, false, false, false, false, false, false, false, false] rfl rfl (any_of HT_.out (by kernel_rfl)) (fun _ _ _ h => h) (Or.inl ⟨by rfl, ?_⟩) ?_ ?_
       rotate_left
       ·intro w'
        go_simp
        with_reducible rfl
       rotate_left
       ·simp only [Act.put, List.setIfInBounds_toArray, List.set_cons_zero, List.set_cons_succ, i64_w]
        rfl
       refine pure_ (i := 12) (N := some 85) (v := ?_) (a' := ?_) #[true, true, true, true, false, true, true, true, true, false, false, true, true, false, false, false, false, false, false, false, false, false, false, false, false, false, false, false, false, false, false, false, false, false, false, false] rfl rfl (any_of HT_.out (by kernel_rfl)) (fun _ _ _ h => h) (Or.inl ⟨by rfl, ?_⟩) ?_ ?_
       rotate_left
       ·intro w'
        go_simp
        with_reducible rfl
       rotate_left
       ·simp only [Act.put, List.setIfInBounds_toArray, List.set_cons_zero, List.set_cons_succ, i64_w]
        rfl
       refine pure_ (i := 13) (N := some 86) (v := ?_) (a' := ?_) #[true, true, true, true, false, true, true, true, true, false, false, true, true, true, false, false, false, false, false, false, false, false, false, false, false, false, false, false, false, false, false, false, false, false, false, false] rfl rfl (any_of HT_.out (by kernel_rfl)) (fun _ _ _ h => h) (Or.inl ⟨by rfl, ?_⟩) ?_ ?_
       rotate_left
       ·intro w'
        go_simp
        with_reducible rfl
       rotate_left
       ·simp only [Act.put, List.setIfInBounds_toArray, List.set_cons_zero, List.set_cons_succ, i64_w]
        rfl
       refine pure_ (i := 14) (N := some 87) (v := ?_) (a' := ?_) #[true, true, true, true, false, true, true, true, true, false, false, true, true, true, true, false, false, false, false, false, false, false, false, false, false, false, false, false, false, false, false, false, false, false, false, false] rfl rfl (any_of HT_.out (by kernel_rfl)) (fun _ _ _ h => h) (Or.inl ⟨by rfl, ?_⟩) ?_ ?_
       rotate_left
       ·intro w'
        go_simp
        with_reducible rfl
       rotate_left
       ·simp only [Act.put, List.setIfInBounds_toArray, List.set_cons_zero, List.set_cons_succ, i64_w]
        rfl
       refine pure_ (i := 16) (N := some 89) (v := ?_) (a' := ?_) #[true, true, true, true, false, true, true, true, true, false, false, true, true, true, true, false, true, false, false, false, false, false, false, false, false, false, false, false, false, false, false, false, false, false, false, false] rfl rfl (any_of HT_.out (by kernel_rfl)) (fun _ _ _ h => h) (Or.inl ⟨by rfl, ?_⟩) ?_ ?_
       rotate_left
       ·intro w'
        go_simp
        with_reducible rfl
       rotate_left
       ·simp only [Act.put, List.setIfInBounds_toArray, List.set_cons_zero, List.set_cons_succ, i64_w]
        rfl
       refine pure_ (i := 17) (N := some 90) (v := ?_) (a' := ?_) #[true, true, true, true, false, true, true, true, true, false, false, true, true, true, true, false, true, true, false, false, false, false, false, false, false, false, false, false, false, false, false, false, false, false, false, false] rfl rfl (any_of HT_.out (by kernel_rfl)) (fun _ _ _ h => h) (Or.inl ⟨by rfl, ?_⟩) ?_ ?_
       rotate_left
       ·intro w'
        go_simp
        with_reducible rfl
       rotate_left
       ·simp only [Act.put, List.setIfInBounds_toArray, List.set_cons_zero, List.set_cons_succ, i64_w]
        rfl
       refine pure_ (i := 18) (N := some 91) (v := ?_) (a' := ?_) #[true, true, true, true, false, true, true, true, true, false, false, true, true, true, true, false, true, true, true, false, false, false, false, false, false, false, false, false, false, false, false, false, false, false, false, false] rfl rfl (any_of HT_.out (by kernel_rfl)) (fun _ _ _ h => h) (Or.inl ⟨by rfl, ?_⟩) ?_ ?_
       rotate_left
       ·intro w'
        go_simp
        with_reducible rfl
       rotate_left
       ·simp only [Act.put, List.setIfInBounds_toArray, List.set_cons_zero, List.set_cons_succ, i64_w]
        rfl
       refine pure_ (i := 19) (N := some 92) (v := ?_) (a' := ?_) #[true, true, true, true, false, true, true, true, true, false, false, true, true, true, true, false, true, true, true, true, false, false, false, false, false, false, false, false, false, false, false, false, false, false, false, false] rfl rfl (any_of HT_.out (by kernel_rfl)) (fun _ _ _ h => h) (Or.inl ⟨by rfl, ?_⟩) ?_ ?_
       rotate_left
       ·intro w'
        go_simp
        with_reducible rfl
       rotate_left
       ·simp only [Act.put, List.setIfInBounds_toArray, List.set_cons_zero, List.set_cons_succ, i64_w]
        rfl
       refine pure_ (i := 22) (N := some 95) (v := ?_) (a' := ?_) #[true, true, true, true, false, true, true, true, true, false, false, true, true, true, true, false, true, true, true, true, false, false, true, false, false, false, false, false, false, false, false, false, false, false, false, false] rfl rfl (any_of HT_.out (by kernel_rfl)) (fun _ _ _ h => h) (Or.inl ⟨by rfl, ?_⟩) ?_ ?_
       rotate_left
       ·intro w'
        go_simp
        with_reducible rfl
       rotate_left
       ·simp only [Act.put, List.setIfInBounds_toArray, List.set_cons_zero, List.set_cons_succ, i64_w]
        rfl
       refine pure_ (i := 23) (N := some 96) (v := ?_) (a' := ?_) #[true, true, true, true, false, true, true, true, true, false, false, true, true, true, true, false, true, true, true, true, false, false, true, true, false, false, false, false, false, false, false, false, false, false, false, false] rfl rfl (any_of HT_.out (by kernel_rfl)) (fun _ _ _ h => h) (Or.inl ⟨by rfl, ?_⟩) ?_ ?_
       rotate_left
       ·intro w'
        go_simp
        with_reducible rfl
       rotate_left
       ·simp only [Act.put, List.setIfInBounds_toArray, List.set_cons_zero, List.set_cons_succ, i64_w]
        rfl
       refine pure_ (i := 24) (N := some 97) (v := ?_) (a' := ?_) #[true, true, true, true, false, true, true, true, true, false, false, true, true, true, true, false, true, true, true, true, false, false, true, true, true, false, false, false, false, false, false, false, false, false, false, false] rfl rfl (any_of HT_.out (by kernel_rfl)) (fun _ _ _ h => h) (Or.inl ⟨by rfl, ?_⟩) ?_ ?_
       rotate_left
       ·intro w'
        go_simp
        with_reducible rfl
       rotate_left
       ·simp only [Act.put, List.setIfInBounds_toArray, List.set_cons_zero, List.set_cons_succ, i64_w]
        rfl
       refine pure_ (i := 25) (N := some 98) (v := ?_) (a' := ?_) #[true, true, true, true, false, true, true, true, true, false, false, true, true, true, true, false, true, true, true, true, false, false, true, true, true, true, false, false, false, false, false, false, false, false, false, false] rfl rfl (any_of HT_.out (by kernel_rfl)) (fun _ _ _ h => h) (Or.inl ⟨by rfl, ?_⟩) ?_ ?_
       rotate_left
       ·intro w'
        go_simp
        with_reducible rfl
       rotate_left
       ·simp only [Act.put, List.setIfInBounds_toArray, List.set_cons_zero, List.set_cons_succ, i64_w]
        rfl
       refine pure_ (i := 27) (N := some 100) (v := ?_) (a' := ?_) #[true, true, true, true, false, true, true, true, true, false, false, true, true, true, true, false, true, true, true, true, false, false, true, true, true, true, false, true, false, false, false, false, false, false, false, false] rfl rfl (any_of HT_.out (by kernel_rfl)) (fun _ _ _ h => h) (Or.inl ⟨by rfl, ?_⟩) ?_ ?_
       rotate_left
       ·intro w'
        go_simp
        with_reducible rfl
       rotate_left
       ·simp only [Act.put, List.setIfInBounds_toArray, List.set_cons_zero, List.set_cons_succ, i64_w]
        rfl
       refine pure_ (i := 28) (N := some 101) (v := ?_) (a' := ?_) #[true, true, true, true, false, true, true, true, true, false, false, true, true, true, true, false, true, true, true, true, false, false, true, true, true, true, false, true, true, false, false, false, false, false, false, false] rfl rfl (any_of HT_.out (by kernel_rfl)) (fun _ _ _ h => h) (Or.inl ⟨by rfl, ?_⟩) ?_ ?_
       rotate_left
       ·intro w'
        go_simp
        with_reducible rfl
       rotate_left
       ·simp only [Act.put, List.setIfInBounds_toArray, List.set_cons_zero, List.set_cons_succ, i64_w]
        rfl
       refine pure_ (i := 29) (N := some 102) (v := ?_) (a' := ?_) #[true, true, true, true, false, true, true, true, true, false, false, true, true, true, true, false, true, true, true, true, false, false, true, true, true, true, false, true, true, true, false, false, false, false, false, false] rfl rfl (any_of HT_.out (by kernel_rfl)) (fun _ _ _ h => h) (Or.inl ⟨by rfl, ?_⟩) ?_ ?_
       rotate_left
       ·intro w'
        go_simp
        with_reducible rfl
       rotate_left
       ·simp only [Act.put, List.setIfInBounds_toArray, List.set_cons_zero, List.set_cons_succ, i64_w]
        rfl
       refine pure_ (i := 30) (N := some 103) (v := ?_) (a' := ?_) #[true, true, true, true, false, true, true, true, true, false, false, true, true, true, true, false, true, true, true, true, false, false, true, true, true, true, false, true, true, true, true, false, false, false, false, false] rfl rfl (any_of HT_.out (by kernel_rfl)) (fun _ _ _ h => h) (Or.inl ⟨by rfl, ?_⟩) ?_ ?_
       rotate_left
       ·intro w'
        go_simp
        with_reducible rfl
       rotate_left
       ·simp only [Act.put, List.setIfInBounds_toArray, List.set_cons_zero, List.set_cons_succ, i64_w]
        rfl
       refine take_ (i := 4) (N := some 77) (v := ?_) (a' := ?_) #[true, true, true, true, true, true, true, true, true, false, false, true, true, true, true, false, true, true, true, true, false, false, true, true, true, true, false, true, true, true, true, false, false, false, false, false] rfl rfl (take_ofW HT_.out HW_.out (by kernel_rfl)) (fun _ _ _ h => h) (Or.inl ⟨by rfl, ?_⟩) hHeld ?_ ?_
       rotate_left
       ·rintro w' ⟨s0, s1, s2, s3, s4, s5⟩
        go_simp
        with_reducible rfl
       rotate_left
       ·simp only [Act.put, List.setIfInBounds_toArray, List.set_cons_zero, List.set_cons_succ, i64_w]
        rfl
       refine take_ (i := 9) (N := some 82) (v := ?_) (a' := ?_) #[true, true, true, true, true, true, true, true, true, true, false, true, true, true, true, false, true, true, true, true, false, false, true, true, true, true, false, true, true, true, true, false, false, false, false, false] rfl rfl (take_ofW HT_.out HW_.out (by kernel_rfl)) (fun _ _ _ h => h) (Or.inl ⟨by rfl, ?_⟩) hHeld ?_ ?_
       rotate_left
       ·rintro w' ⟨s0, s1, s2, s3, s4, s5⟩
        go_simp
        with_reducible rfl
       rotate_left
       ·simp only [Act.put, List.setIfInBounds_toArray, List.set_cons_zero, List.set_cons_succ, i64_w]
        rfl
       refine pure_ (i := 10) (N := some 83) (v := ?_) (a' := ?_) #[true, true, true, true, true, true, true, true, true, true, true, true, true, true, true, false, true, true, true, true, false, false, true, true, true, true, false, true, true, true, true, false, false, false, false, false] rfl rfl (any_of HT_.out (by kernel_rfl)) (fun _ _ _ h => h) (Or.inl ⟨by rfl, ?_⟩) ?_ ?_
       rotate_left
       ·intro w'
        go_simp
        with_reducible rfl
       rotate_left
       ·simp only [Act.put, List.setIfInBounds_toArray, List.set_cons_zero, List.set_cons_succ, i64_w]
        rfl
       refine take_ (i := 15) (N := some 88) (v := ?_) (a' := ?_) #[true, true, true, true, true, true, true, true, true, true, true, true, true, true, true, true, true, true, true, true, false, false, true, true, true, true, false, true, true, true, true, false, false, false, false, false] rfl rfl (take_ofW HT_.out HW_.out (by kernel_rfl)) (fun _ _ _ h => h) (Or.inl ⟨by rfl, ?_⟩) hHeld ?_ ?_
       rotate_left
       ·rintro w' ⟨s0, s1, s2, s3, s4, s5⟩
        go_simp
        with_reducible rfl
       rotate_left
       ·simp only [Act.put, List.setIfInBounds_toArray, List.set_cons_zero, List.set_cons_succ, i64_w]
        rfl
       refine take_ (i := 20) (N := some 93) (v := ?_) (a' := ?_) #[true, true, true, true, true, true, true, true, true, true, true, true, true, true, true, true, true, true, true, true, true, false, true, true, true, true, false, true, true, true, true, false, false, false, false, false] rfl rfl (take_ofW HT_.out HW_.out (by kernel_rfl)) (fun _ _ _ h => h) (Or.inl ⟨by rfl, ?_⟩) hHeld ?_ ?_
       rotate_left
       ·rintro w' ⟨s0, s1, s2, s3, s4, s5⟩
        go_simp
        with_reducible rfl
       rotate_left
       ·simp only [Act.put, List.setIfInBounds_toArray, List.set_cons_zero, List.set_cons_succ, i64_w]
        rfl
       refine pure_ (i := 21) (N := some 94) (v := ?_) (a' := ?_) #[true, true, true, true, true, true, true, true, true, true, true, true, true, true, true, true, true, true, true, true, true, true, true, true, true, true, false, true, true, true, true, false, false, false, false, false] rfl rfl (any_of HT_.out (by kernel_rfl)) (fun _ _ _ h => h) (Or.inl ⟨by rfl, ?_⟩) ?_ ?_
       rotate_left
       ·intro w'
        go_simp
        with_reducible rfl
       rotate_left
       ·simp only [Act.put, List.setIfInBounds_toArray, List.set_cons_zero, List.set_cons_succ, i64_w]
        rfl
       refine take_ (i := 26) (N := some 99) (v := ?_) (a' := ?_) #[true, true, true, true, true, true, true, true, true, true, true, true, true, true, true, true, true, true, true, true, true, true, true, true, true, true, true, true, true, true, true, false, false, false, false, false] rfl rfl (take_ofW HT_.out HW_.out (by kernel_rfl)) (fun _ _ _ h => h) (Or.inl ⟨by rfl, ?_⟩) hHeld ?_ ?_
       rotate_left
       ·rintro w' ⟨s0, s1, s2, s3, s4, s5⟩
        go_simp
        with_reducible rfl
       rotate_left
       ·simp only [Act.put, List.setIfInBounds_toArray, List.set_cons_zero, List.set_cons_succ, i64_w]
        rfl
       refine take_ (i := 31) (N := some 104) (v := ?_) (a' := ?_) #[true, true, true, true, true, true, true, true, true, true, true, true, true, true, true, true, true, true, true, true, true, true, true, true, true, true, true, true, true, true, true, true, false, false, false, false] rfl rfl (take_ofW HT_.out HW_.out (by kernel_rfl)) (fun _ _ _ h => h) (Or.inl ⟨by rfl, ?_⟩) hHeld ?_ ?_
       rotate_left
       ·rintro w' ⟨s0, s1, s2, s3, s4, s5⟩
        go_simp
        with_reducible rfl
       rotate_left
       ·simp only [Act.put, List.setIfInBounds_toArray, List.set_cons_zero, List.set_cons_succ, i64_w]
        rfl
       refine pure_ (i := 32) (N := some 105) (v := ?_) (a' := ?_) #[true, true, true, true, true, true, true, true, true, true, true, true, true, true, true, true, true, true, true, true, true, true, true, true, true, true, true, true, true, true, true, true, true, false, false, false] rfl rfl (any_of HT_.out (by kernel_rfl)) (fun _ _ _ h => h) (Or.inl ⟨by rfl, ?_⟩) ?_ ?_
       rotate_left
       ·intro w'
        go_simp
        with_reducible rfl
       rotate_left
       ·simp only [Act.put, List.setIfInBounds_toArray, List.set_cons_zero, List.set_cons_succ, i64_w]
        rfl
       refine pure_ (i := 33) (N := some 106) (v := ?_) (a' := ?_) #[true, true, true, true, true, true, true, true, true, true, true, true, true, true, true, true, true, true, true, true, true, true, true, true, true, true, true, true, true, true, true, true, true, true, false, false] rfl rfl (any_of HT_.out (by kernel_rfl)) (fun _ _ _ h => h) (Or.inl ⟨by rfl, ?_⟩) ?_ ?_
       rotate_left
       ·intro w'
        go_simp
        with_reducible rfl
       rotate_left
       ·simp only [Act.put, List.setIfInBounds_toArray, List.set_cons_zero, List.set_cons_succ, i64_w]
        rfl
       refine one_ (i := 34) (N := some 14) #[true, true, true, true, true, true, true, true, true, true, true, true, true, true, true, true, true, true, true, true, true, true, true, true, true, true, true, true, true, true, true, true, true, true, true, false] rfl rfl (one_of HT_.out (by kernel_rfl)) (by decide) (fun K hK => ?_)
       refine box_step ?hg (N := 14) ?hd (cs := #[.int .i64 0, .int .i64 0, .int .i64 0, .int .i64 0, .int .i64 0, .int .i64 0]) (t := 163) ?hr ?_; (case hd => rfl); (case hg => rfl); (case hr => go_simp <;> rfl)
       intro gb183 hg w97 hbox hb
       have HS0_ := (hb.cell (World.block_lt_of_cell? _ _ (hHeld.1))).trans (hHeld.1)
       have HS1_ := (hb.cell (World.block_lt_of_cell? _ _ (hHeld.2.1))).trans (hHeld.2.1)
       have HS2_ := (hb.cell (World.block_lt_of_cell? _ _ (hHeld.2.2.1))).trans (hHeld.2.2.1)
       have HS3_ := (hb.cell (World.block_lt_of_cell? _ _ (hHeld.2.2.2.1))).trans (hHeld.2.2.2.1)
       have HS4_ := (hb.cell (World.block_lt_of_cell? _ _ (hHeld.2.2.2.2.1))).trans (hHeld.2.2.2.2.1)
       have HS5_ := (hb.cell (World.block_lt_of_cell? _ _ (hHeld.2.2.2.2.2))).trans (hHeld.2.2.2.2.2)
       replace HO_12 := kR HO_12.out hb
       replace HO_145000 := kS HO_145000.out hb
       replace HO_145001 := kR HO_145001.out hb
       have BK183 := am hbox
       have GW183 := gef hg HB.out
       have GE183 := gef hg HB.out
       replace HB := bs HB.out hb
       have NB143_183 := nl hg BK143.out
       have NB183_143 := ng hg BK143.out
       replace BK143 := kb BK143.out hb
       have NB144_183 := nl hg BK144.out
       have NB183_144 := ng hg BK144.out
       replace BK144 := kb BK144.out hb
       have NB154_183 := nl hg BK154.out
       have NB183_154 := ng hg BK154.out
       replace BK154 := kb BK154.out hb
       clear hb hbox hg
       refine hK.out _ _ ⟨HS0_, HS1_, HS2_, HS3_, HS4_, HS5_⟩ (fun hHeld => ?_)
       clear hK K
       refine norm_ (a' := ?_) ?_ ?_
       rotate_left
       ·show Act.put _ (some 14) _ = _
        simp only [Act.put, List.setIfInBounds_toArray, List.set_cons_zero, List.set_cons_succ, i64_w]
        rfl
       refine one_ (i := 35) (N := none) #[true, true, true, true, true, true, true, true, true, true, true, true, true, true, true, true, true, true, true, true, true, true, true, true, true, true, true, true, true, true, true, true, true, true, true, true] rfl rfl (one_of HT_.out (by kernel_rfl)) (by decide) (fun K hK => ?_)
       have hs98 : w97.cell? ⟨gb183, 0, none⟩ = some (.int .i64 0) := (blk_cell BK183.out 0).trans rfl
       have hfs98 := blk_frozen BK183.out 0
       have hns98_0 := NB143_183.out
       have hns98_1 := NB144_183.out
       have hns98_2 := NB154_183.out
       have hms98_0 := NB183_143.out
       have hms98_1 := NB183_144.out
       have hms98_2 := NB183_154.out
       have hs99 : w97.cell? ⟨gb183, 1, none⟩ = some (.int .i64 0) := (blk_cell BK183.out 1).trans rfl
       have hfs99 := blk_frozen BK183.out 1
       have hns99_0 := NB143_183.out
       have hns99_1 := NB144_183.out
       have hns99_2 := NB154_183.out
       have hms99_0 := NB183_143.out
       have hms99_1 := NB183_144.out
       have hms99_2 := NB183_154.out
       have hs100 : w97.cell? ⟨gb183, 2, none⟩ = some (.int .i64 0) := (blk_cell BK183.out 2).trans rfl
       have hfs100 := blk_frozen BK183.out 2
       have hns100_0 := NB143_183.out
       have hns100_1 := NB144_183.out
       have hns100_2 := NB154_183.out
       have hms100_0 := NB183_143.out
       have hms100_1 := NB183_144.out
       have hms100_2 := NB183_154.out
       have hs101 : w97.cell? ⟨gb183, 3, none⟩ = some (.int .i64 0) := (blk_cell BK183.out 3).trans rfl
       have hfs101 := blk_frozen BK183.out 3
       have hns101_0 := NB143_183.out
       have hns101_1 := NB144_183.out
       have hns101_2 := NB154_183.out
       have hms101_0 := NB183_143.out
       have hms101_1 := NB183_144.out
       have hms101_2 := NB183_154.out
       have hs102 : w97.cell? ⟨gb183, 4, none⟩ = some (.int .i64 0) := (blk_cell BK183.out 4).trans rfl
       have hfs102 := blk_frozen BK183.out 4
       have hns102_0 := NB143_183.out
       have hns102_1 := NB144_183.out
       have hns102_2 := NB154_183.out
       have hms102_0 := NB183_143.out
       have hms102_1 := NB183_144.out
       have hms102_2 := NB183_154.out
       have hs103 : w97.cell? ⟨gb183, 5, none⟩ = some (.int .i64 0) := (blk_cell BK183.out 5).trans rfl
       have hfs103 := blk_frozen BK183.out 5
       have hns103_0 := NB143_183.out
       have hns103_1 := NB144_183.out
       have hns103_2 := NB154_183.out
       have hms103_0 := NB183_143.out
       have hms103_1 := NB183_144.out
       have hms103_2 := NB183_154.out
       refine skip_ (w1 := ?_) (by rfl) rfl ?_ ?_
       rotate_left
       ·go_simp
        rfl
       refine hK.out _ _ ⟨(ct (Kd.own_blk (Kd.R_ne HO_12.out BK183.out (by decide))) ((ct (Kd.own_blk (Kd.R_ne HO_12.out BK183.out (by decide))) ((ct (Kd.own_blk (Kd.R_ne HO_12.out BK183.out (by decide))) ((ct (Kd.own_blk (Kd.R_ne HO_12.out BK183.out (by decide))) ((ct (Kd.own_blk (Kd.R_ne HO_12.out BK183.out (by decide))) ((ct (Kd.own_blk (Kd.R_ne HO_12.out BK183.out (by decide))) (hHeld.1)))))))))))), (ct (Kd.own_blk (Kd.R_ne HO_12.out BK183.out (by decide))) ((ct (Kd.own_blk (Kd.R_ne HO_12.out BK183.out (by decide))) ((ct (Kd.own_blk (Kd.R_ne HO_12.out BK183.out (by decide))) ((ct (Kd.own_blk (Kd.R_ne HO_12.out BK183.out (by decide))) ((ct (Kd.own_blk (Kd.R_ne HO_12.out BK183.out (by decide))) ((ct (Kd.own_blk (Kd.R_ne HO_12.out BK183.out (by decide))) (hHeld.2.1)))))))))))), (ct (Kd.own_blk (Kd.R_ne HO_12.out BK183.out (by decide))) ((ct (Kd.own_blk (Kd.R_ne HO_12.out BK183.out (by decide))) ((ct (Kd.own_blk (Kd.R_ne HO_12.out BK183.out (by decide))) ((ct (Kd.own_blk (Kd.R_ne HO_12.out BK183.out (by decide))) ((ct (Kd.own_blk (Kd.R_ne HO_12.out BK183.out (by decide))) ((ct (Kd.own_blk (Kd.R_ne HO_12.out BK183.out (by decide))) (hHeld.2.2.1)))))))))))), (ct (Kd.own_blk (Kd.R_ne HO_12.out BK183.out (by decide))) ((ct (Kd.own_blk (Kd.R_ne HO_12.out BK183.out (by decide))) ((ct (Kd.own_blk (Kd.R_ne HO_12.out BK183.out (by decide))) ((ct (Kd.own_blk (Kd.R_ne HO_12.out BK183.out (by decide))) ((ct (Kd.own_blk (Kd.R_ne HO_12.out BK183.out (by decide))) ((ct (Kd.own_blk (Kd.R_ne HO_12.out BK183.out (by decide))) (hHeld.2.2.2.1)))))))))))), (ct (Kd.own_blk (Kd.R_ne HO_12.out BK183.out (by decide))) ((ct (Kd.own_blk (Kd.R_ne HO_12.out BK183.out (by decide))) ((ct (Kd.own_blk (Kd.R_ne HO_12.out BK183.out (by decide))) ((ct (Kd.own_blk (Kd.R_ne HO_12.out BK183.out (by decide))) ((ct (Kd.own_blk (Kd.R_ne HO_12.out BK183.out (by decide))) ((ct (Kd.own_blk (Kd.R_ne HO_12.out BK183.out (by decide))) (hHeld.2.2.2.2.1)))))))))))), (ct (Kd.own_blk (Kd.R_ne HO_12.out BK183.out (by decide))) ((ct (Kd.own_blk (Kd.R_ne HO_12.out BK183.out (by decide))) ((ct (Kd.own_blk (Kd.R_ne HO_12.out BK183.out (by decide))) ((ct (Kd.own_blk (Kd.R_ne HO_12.out BK183.out (by decide))) ((ct (Kd.own_blk (Kd.R_ne HO_12.out BK183.out (by decide))) ((ct (Kd.own_blk (Kd.R_ne HO_12.out BK183.out (by decide))) (hHeld.2.2.2.2.2))))))))))))⟩ (fun hHeld => ?_)
       clear hK K
       refine done_ (done_of HT_.out (by kernel_rfl)) ?_
       try go_wp2
       have n0_ : Aside0 (Kd.R (Kd.int .i64) 3 ((((((w97.setCell ⟨gb183, 0, none⟩ (.int .i64 (rd t173 (ji75)))).setCell ⟨gb183, 1, none⟩ (.int .i64 (rd t173 (ji78)))).setCell ⟨gb183, 2, none⟩ (.int .i64 (rd t173 (ji81)))).setCell ⟨gb183, 3, none⟩ (.int .i64 (rd t173 (ji84)))).setCell ⟨gb183, 4, none⟩ (.int .i64 (rd t173 (ji87)))).setCell ⟨gb183, 5, none⟩ (.int .i64 (rd t173 (ji90)))) w.heap.size (fun _ => True) (.slice (some ad177) t173.length co95) t173) := ⟨vR (Kd.R_mono (fR6 gb183 (Kd.R_types HO_12.out BK183.out (by decide)) (.int .i64 (rd t173 (ji75))) (.int .i64 (rd t173 (ji78))) (.int .i64 (rd t173 (ji81))) (.int .i64 (rd t173 (ji84))) (.int .i64 (rd t173 (ji87))) (.int .i64 (rd t173 (ji90)))) (fun _ hk => trivial))⟩
       have n1_ : Aside0 (Kd.S k106 106 ((((((w97.setCell ⟨gb183, 0, none⟩ (.int .i64 (rd t173 (ji75)))).setCell ⟨gb183, 1, none⟩ (.int .i64 (rd t173 (ji78)))).setCell ⟨gb183, 2, none⟩ (.int .i64 (rd t173 (ji81)))).setCell ⟨gb183, 3, none⟩ (.int .i64 (rd t173 (ji84)))).setCell ⟨gb183, 4, none⟩ (.int .i64 (rd t173 (ji87)))).setCell ⟨gb183, 5, none⟩ (.int .i64 (rd t173 (ji90)))) w.heap.size (fun _ => True) u145000 x145000_1) := ⟨vS (Kd.S_mono (fS6 gb183 (Kd.S_types HO_145000.out BK183.out (by decide)) (.int .i64 (rd t173 (ji75))) (.int .i64 (rd t173 (ji78))) (.int .i64 (rd t173 (ji81))) (.int .i64 (rd t173 (ji84))) (.int .i64 (rd t173 (ji87))) (.int .i64 (rd t173 (ji90)))) (fun _ hk => trivial))⟩
       have n2_ : Aside0 (Kd.R k165 165 ((((((w97.setCell ⟨gb183, 0, none⟩ (.int .i64 (rd t173 (ji75)))).setCell ⟨gb183, 1, none⟩ (.int .i64 (rd t173 (ji78)))).setCell ⟨gb183, 2, none⟩ (.int .i64 (rd t173 (ji81)))).setCell ⟨gb183, 3, none⟩ (.int .i64 (rd t173 (ji84)))).setCell ⟨gb183, 4, none⟩ (.int .i64 (rd t173 (ji87)))).setCell ⟨gb183, 5, none⟩ (.int .i64 (rd t173 (ji90)))) w.heap.size (fun _ => True) u145001 x145001_3) := ⟨vR (Kd.R_mono (fR6 gb183 (Kd.R_types HO_145001.out BK183.out (by decide)) (.int .i64 (rd t173 (ji75))) (.int .i64 (rd t173 (ji78))) (.int .i64 (rd t173 (ji81))) (.int .i64 (rd t173 (ji84))) (.int .i64 (rd t173 (ji87))) (.int .i64 (rd t173 (ji90)))) (fun _ hk => trivial))⟩
       have n3_ : Aside0 (((((((w97.setCell ⟨gb183, 0, none⟩ (.int .i64 (rd t173 (ji75)))).setCell ⟨gb183, 1, none⟩ (.int .i64 (rd t173 (ji78)))).setCell ⟨gb183, 2, none⟩ (.int .i64 (rd t173 (ji81)))).setCell ⟨gb183, 3, none⟩ (.int .i64 (rd t173 (ji84)))).setCell ⟨gb183, 4, none⟩ (.int .i64 (rd t173 (ji87)))).setCell ⟨gb183, 5, none⟩ (.int .i64 (rd t173 (ji90)))).heap[gb143]? = some (.cells #[.slice none 0 0, .slice none 0 0] 101 (0, 0))) := ⟨by exact vt (bf (vt (bf (vt (bf (vt (bf (vt (bf (vt (bf (vt BK143.out) NB143_183.out)) NB143_183.out)) NB143_183.out)) NB143_183.out)) NB143_183.out)) NB143_183.out)⟩
       have n4_ : Aside0 (((((((w97.setCell ⟨gb183, 0, none⟩ (.int .i64 (rd t173 (ji75)))).setCell ⟨gb183, 1, none⟩ (.int .i64 (rd t173 (ji78)))).setCell ⟨gb183, 2, none⟩ (.int .i64 (rd t173 (ji81)))).setCell ⟨gb183, 3, none⟩ (.int .i64 (rd t173 (ji84)))).setCell ⟨gb183, 4, none⟩ (.int .i64 (rd t173 (ji87)))).setCell ⟨gb183, 5, none⟩ (.int .i64 (rd t173 (ji90)))).heap[gb144]? = some (.cells #[u145000, u145001] 101 (0, 0))) := ⟨by exact vt (bf (vt (bf (vt (bf (vt (bf (vt (bf (vt (bf (vt BK144.out) NB144_183.out)) NB144_183.out)) NB144_183.out)) NB144_183.out)) NB144_183.out)) NB144_183.out)⟩
       have n5_ : Aside0 (((((((w97.setCell ⟨gb183, 0, none⟩ (.int .i64 (rd t173 (ji75)))).setCell ⟨gb183, 1, none⟩ (.int .i64 (rd t173 (ji78)))).setCell ⟨gb183, 2, none⟩ (.int .i64 (rd t173 (ji81)))).setCell ⟨gb183, 3, none⟩ (.int .i64 (rd t173 (ji84)))).setCell ⟨gb183, 4, none⟩ (.int .i64 (rd t173 (ji87)))).setCell ⟨gb183, 5, none⟩ (.int .i64 (rd t173 (ji90)))).heap[gb154]? = some (.cells #[.string t170, .int .i64 t171, .int .i64 t172] 153 (0, 0))) := ⟨by exact vt (bf (vt (bf (vt (bf (vt (bf (vt (bf (vt (bf (vt BK154.out) NB154_183.out)) NB154_183.out)) NB154_183.out)) NB154_183.out)) NB154_183.out)) NB154_183.out)⟩
       have n6_ : Aside0 (((((((w97.setCell ⟨gb183, 0, none⟩ (.int .i64 (rd t173 (ji75)))).setCell ⟨gb183, 1, none⟩ (.int .i64 (rd t173 (ji78)))).setCell ⟨gb183, 2, none⟩ (.int .i64 (rd t173 (ji81)))).setCell ⟨gb183, 3, none⟩ (.int .i64 (rd t173 (ji84)))).setCell ⟨gb183, 4, none⟩ (.int .i64 (rd t173 (ji87)))).setCell ⟨gb183, 5, none⟩ (.int .i64 (rd t173 (ji90)))).heap[gb183]? = some (.cells #[.int .i64 (rd t173 (ji75)), .int .i64 (rd t173 (ji78)), .int .i64 (rd t173 (ji81)), .int .i64 (rd t173 (ji84)), .int .i64 (rd t173 (ji87)), .int .i64 (rd t173 (ji90))] 163 (0, 0))) := ⟨by exact (vt (bp (vt (bp (vt (bp (vt (bp (vt (bp (vt (bp (vt BK183.out) 0)) 1)) 2)) 3)) 4)) 5)).trans rfl⟩
       have n7_ : Aside0 (Below w.heap.size w ((((((w97.setCell ⟨gb183, 0, none⟩ (.int .i64 (rd t173 (ji75)))).setCell ⟨gb183, 1, none⟩ (.int .i64 (rd t173 (ji78)))).setCell ⟨gb183, 2, none⟩ (.int .i64 (rd t173 (ji81)))).setCell ⟨gb183, 3, none⟩ (.int .i64 (rd t173 (ji84)))).setCell ⟨gb183, 4, none⟩ (.int .i64 (rd t173 (ji87)))).setCell ⟨gb183, 5, none⟩ (.int .i64 (rd t173 (ji90))))) := ⟨vb HB.out⟩
       (try clear HO_12)
       (try clear HO_145000)
       (try clear HO_145001)
       (try clear BK143)
       (try clear BK144)
       (try clear BK154)
       (try clear BK183)
       (try clear HB)
       generalize ((((((w97.setCell ⟨gb183, 0, none⟩ (.int .i64 (rd t173 (ji75)))).setCell ⟨gb183, 1, none⟩ (.int .i64 (rd t173 (ji78)))).setCell ⟨gb183, 2, none⟩ (.int .i64 (rd t173 (ji81)))).setCell ⟨gb183, 3, none⟩ (.int .i64 (rd t173 (ji84)))).setCell ⟨gb183, 4, none⟩ (.int .i64 (rd t173 (ji87)))).setCell ⟨gb183, 5, none⟩ (.int .i64 (rd t173 (ji90)))) = w104 at n0_ n1_ n2_ n3_ n4_ n5_ n6_ n7_ ⊢
       have HO_12 := n0_
       have HO_145000 := n1_
       have HO_145001 := n2_
       have BK143 := n3_
       have BK144 := n4_
       have BK154 := n5_
       have BK183 := n6_
       have HB := n7_
       clear n0_ n1_ n2_ n3_ n4_ n5_ n6_ n7_
       replace HO_12 := am (Kd.R_drew HO_12.out)
       replace HO_145000 := am (Kd.S_drew HO_145000.out)
       replace HO_145001 := am (Kd.R_drew HO_145001.out)
       replace BK143 := am (blk_drew BK143.out)
       replace BK144 := am (blk_drew BK144.out)
       replace BK154 := am (blk_drew BK154.out)
       replace BK183 := am (blk_drew BK183.out)
       replace HB := am (below_drew1 HB.out)
       have p184 : 0 ≤ (x13_3 : Int) := od (by with_reducible assumption)
       have q184 : x13_3 < (t173.length : Int) := od (by with_reducible assumption)
       obtain ⟨ad184, e184, hx184_0⟩ := Kd.at_int (Kd.R_reads' HO_12.out).2.2 x13_3 p184 q184
       obtain rfl : ad177 = ad184 := (by injection e184)
       replace p184 := eq_true p184
       replace q184 := eq_true q184
       refine start_ (n := 12) (S := fun w' => w'.cell? ⟨gb144, 0, none⟩ = some (u145000) ∧ w'.cell? ⟨gb144, 1, none⟩ = some (u145001) ∧ w'.cell? ⟨gb183, 0, none⟩ = some (.int .i64 (rd t173 (ji75))) ∧ w'.cell? ⟨gb183, 1, none⟩ = some (.int .i64 (rd t173 (ji78))) ∧ w'.cell? ⟨gb183, 2, none⟩ = some (.int .i64 (rd t173 (ji81))) ∧ w'.cell? ⟨gb183, 3, none⟩ = some (.int .i64 (rd t173 (ji84))) ∧ w'.cell? ⟨gb183, 4, none⟩ = some (.int .i64 (rd t173 (ji87))) ∧ w'.cell? ⟨gb183, 5, none⟩ = some (.int .i64 (rd t173 (ji90))) ∧ w'.cell? (ad177.add (x13_3).toNat) = some (.int .i64 (rd t173 x13_3))) (ds := [9, 11]) #[false, false, false, false, false, false, false, false, false, false, false, false] (by kernel_rfl) rfl rfl ⟨(blk_cell BK144.out 0).trans rfl, (blk_cell BK144.out 1).trans rfl, (blk_cell BK183.out 0).trans rfl, (blk_cell BK183.out 1).trans rfl, (blk_cell BK183.out 2).trans rfl, (blk_cell BK183.out 3).trans rfl, (blk_cell BK183.out 4).trans rfl, (blk_cell BK183.out 5).trans rfl, hx184_0⟩ (fun hHeld => ?_); refine with_tabW Zbl.tab19 Zbl.bits19 (fun HT_ HW_ => ?_)
       generalize w104.drew = w105 at HO_12 HO_145000 HO_145001 BK143 BK144 BK154 BK183 HB hx184_0 hHeld ⊢
       refine pure_ (i := 0) (N := some 107) (v := ?_) (a' := ?_) #[true, false, false, false, false, false, false, false, false, false, false, false] rfl rfl (any_of HT_.out (by kernel_rfl)) (fun _ _ _ h => h) (Or.inl ⟨by rfl, ?_⟩) ?_ ?_
       rotate_left
       ·intro w'
        go_simp
        with_reducible rfl
       rotate_left
       ·simp only [Act.put, List.setIfInBounds_toArray, List.set_cons_zero, List.set_cons_succ, i64_w]
        rfl
       refine pure_ (i := 2) (N := some 109) (v := ?_) (a' := ?_) #[true, false, true, false, false, false, false, false, false, false, false, false] rfl rfl (any_of HT_.out (by kernel_rfl)) (fun _ _ _ h => h) (Or.inl ⟨by rfl, ?_⟩) ?_ ?_
       rotate_left
       ·intro w'
        go_simp
        with_reducible rfl
       rotate_left
       ·simp only [Act.put, List.setIfInBounds_toArray, List.set_cons_zero, List.set_cons_succ, i64_w]
        rfl
       refine pure_ (i := 3) (N := some 110) (v := ?_) (a' := ?_) #[true, false, true, true, false, false, false, false, false, false, false, false] rfl rfl (any_of HT_.out (by kernel_rfl)) (fun _ _ _ h => h) (Or.inl ⟨by rfl, ?_⟩) ?_ ?_
       rotate_left
       ·intro w'
        go_simp
        with_reducible rfl
       rotate_left
       ·simp only [Act.put, List.setIfInBounds_toArray, List.set_cons_zero, List.set_cons_succ, i64_w]
        rfl
       refine pure_ (i := 4) (N := some 111) (v := ?_) (a' := ?_) #[true, false, true, true, true, false, false, false, false, false, false, false] rfl rfl (any_of HT_.out (by kernel_rfl)) (fun _ _ _ h => h) (Or.inl ⟨by rfl, ?_⟩) ?_ ?_
       rotate_left
       ·intro w'
        go_simp
        with_reducible rfl
       rotate_left
       ·simp only [Act.put, List.setIfInBounds_toArray, List.set_cons_zero, List.set_cons_succ, i64_w]
        rfl
       refine take_ (i := 1) (N := some 108) (v := ?_) (a' := ?_) #[true, true, true, true, true, false, false, false, false, false, false, false] rfl rfl (take_ofW HT_.out HW_.out (by kernel_rfl)) (fun _ _ _ h => h) (Or.inl ⟨by rfl, ?_⟩) hHeld ?_ ?_
       rotate_left
       ·rintro w' ⟨s0, s1, s2, s3, s4, s5, s6, s7, s8⟩
        go_simp
        with_reducible rfl
       rotate_left
       ·simp only [Act.put, List.setIfInBounds_toArray, List.set_cons_zero, List.set_cons_succ, i64_w]
        rfl
       refine take_ (i := 5) (N := some 112) (v := ?_) (a' := ?_) #[true, true, true, true, true, true, false, false, false, false, false, false] rfl rfl (take_ofW HT_.out HW_.out (by kernel_rfl)) (fun _ _ _ h => h) (Or.inl ⟨by rfl, ?_⟩) hHeld ?_ ?_
       rotate_left
       ·rintro w' ⟨s0, s1, s2, s3, s4, s5, s6, s7, s8⟩
        go_simp
        with_reducible rfl
       rotate_left
       ·simp only [Act.put, List.setIfInBounds_toArray, List.set_cons_zero, List.set_cons_succ, i64_w]
        rfl
       refine take_ (i := 6) (N := some 113) (v := ?_) (a' := ?_) #[true, true, true, true, true, true, true, false, false, false, false, false] rfl rfl (take_ofW HT_.out HW_.out (by kernel_rfl)) (fun _ _ _ h => h) (Or.inl ⟨by rfl, ?_⟩) hHeld ?_ ?_
       rotate_left
       ·rintro w' ⟨s0, s1, s2, s3, s4, s5, s6, s7, s8⟩
        go_simp
        with_reducible rfl
       rotate_left
       ·simp only [Act.put, List.setIfInBounds_toArray, List.set_cons_zero, List.set_cons_succ, i64_w]
        rfl
       refine pure_ (i := 7) (N := some 114) (v := ?_) (a' := ?_) #[true, true, true, true, true, true, true, true, false, false, false, false] rfl rfl (any_of HT_.out (by kernel_rfl)) (fun _ _ _ h => h) (Or.inl ⟨by rfl, ?_⟩) ?_ ?_
       rotate_left
       ·intro w'
        go_simp
        with_reducible rfl
       rotate_left
       ·simp only [Act.put, List.setIfInBounds_toArray, List.set_cons_zero, List.set_cons_succ, i64_w]
        rfl
       refine one_ (i := 8) (N := some 115) #[true, true, true, true, true, true, true, true, true, false, false, false] rfl rfl (one_of HT_.out (by kernel_rfl)) (by decide) (fun K hK => ?_)
       refine value_ (w1 := ?_) (v := ?_) (by rfl) rfl ?_ ?_
       rotate_left 2
       ·go_simp
        constructor
        ·rfl
        rfl
       refine hK.out _ _ ⟨(blk_cell (blk_alloc BK144.out _) 0).trans rfl, (blk_cell (blk_alloc BK144.out _) 1).trans rfl, (blk_cell (blk_alloc BK183.out _) 0).trans rfl, (blk_cell (blk_alloc BK183.out _) 1).trans rfl, (blk_cell (blk_alloc BK183.out _) 2).trans rfl, (blk_cell (blk_alloc BK183.out _) 3).trans rfl, (blk_cell (blk_alloc BK183.out _) 4).trans rfl, (blk_cell (blk_alloc BK183.out _) 5).trans rfl, (World.cell?_alloc_lt _ _ _ (World.block_lt_of_cell? _ _ (hHeld.2.2.2.2.2.2.2.2))).trans (hHeld.2.2.2.2.2.2.2.2)⟩ (fun hHeld => ?_)
       clear hK K
       refine norm_ (a' := ?_) ?_ ?_
       rotate_left
       ·show Act.put _ (some 115) _ = _
        simp only [Act.put, List.setIfInBounds_toArray, List.set_cons_zero, List.set_cons_succ, i64_w]
        rfl
       refine last_ (i := 9) (N := some 116) #[true, true, true, true, true, true, true, true, true, true, false, false] rfl rfl (one_of HT_.out (by kernel_rfl)) (by decide) (fun K hK => ?_)
       refine Kd.R_append_step k165 (w0 := w) w.heap.size (by rfl) (.tmp 108) (.tmp 115) 99 165 (.agg #[(.int .i64 0), (.int .i64 0), (.int .i64 0), (.int .i64 0), (.int .i64 0), (.int .i64 0), (.int .i64 0)]) 56 rfl Tryz.underlying99 info165 rfl (by decide) (by omega) u145001 x145001_3 (⟨rd t173 x13_3, (⟨(⟨rd t173 (ji75), rd t173 (ji78)⟩ : S161), (⟨rd t173 (ji81), rd t173 (ji84)⟩ : S161), (⟨rd t173 (ji87), rd t173 (ji90)⟩ : S161)⟩ : S163)⟩ : S165) [.int .i64 (rd t173 x13_3), .int .i64 (rd t173 (ji75)), .int .i64 (rd t173 (ji78)), .int .i64 (rd t173 (ji81)), .int .i64 (rd t173 (ji84)), .int .i64 (rd t173 (ji87)), .int .i64 (rd t173 (ji90))] (fun _ => True) (fun _ => False) rfl rfl ?aP (fun _ hk => hk.elim) ?aF ?aO ?aB ?aS ?aL ?_
       (case aP => exact k165_mkM _ _ _ (⟨rd t173 x13_3, (⟨(⟨rd t173 (ji75), rd t173 (ji78)⟩ : S161), (⟨rd t173 (ji81), rd t173 (ji84)⟩ : S161), (⟨rd t173 (ji87), rd t173 (ji90)⟩ : S161)⟩ : S163)⟩ : S165))
       (case aB => exact (vb HB.out))
       (case aF => exact (fun _ _ => trivial))
       (case aO => exact (vR HO_145001.out))
       (case aS => exact (below_size (vb HB.out)))
       (case aL => have := LMc94.out; omega)
       intro v186 w106 ho hb hg hat
       rw [← Ny185.out] at ho
       replace HO_12 := am (Kd.R_over' (vR HO_12.out) (Kd.R_typed (vR HO_145001.out)) (by decide) hg)
       replace HO_145000 := am (Kd.S_over' (vS HO_145000.out) (Kd.R_typed (vR HO_145001.out)) (by decide) hg)
       replace BK143 := am (blk_grown (g := gb143) (o := .cells #[.slice none 0 0, .slice none 0 0] 101 (0, 0)) (vk BK143.out) hg (Kd.R_ne HO_145001.out BK143.out (by decide)))
       replace BK144 := am (blk_grown (g := gb144) (o := .cells #[u145000, u145001] 101 (0, 0)) (vk BK144.out) hg (Kd.R_ne HO_145001.out BK144.out (by decide)))
       replace BK154 := am (blk_grown (g := gb154) (o := .cells #[.string t170, .int .i64 t171, .int .i64 t172] 153 (0, 0)) (vk BK154.out) hg (Kd.R_ne HO_145001.out BK154.out (by decide)))
       replace BK183 := am (blk_grown (g := gb183) (o := .cells #[.int .i64 (rd t173 (ji75)), .int .i64 (rd t173 (ji78)), .int .i64 (rd t173 (ji81)), .int .i64 (rd t173 (ji84)), .int .i64 (rd t173 (ji87)), .int .i64 (rd t173 (ji90))] 163 (0, 0)) (vk BK183.out) hg (Kd.R_ne HO_145001.out BK183.out (by decide)))
       replace HB := am hb
       have HO187 := am (ho)
       clear HO_145001
       clear ho hb hg hat
       obtain ⟨Ao107, co107, eo107⟩ := Kd.R_slice HO187.out
       (first | subst eo107 | (injection eo107 with f1_ f2_ f3_; have f4_ := f1_.symm; have f5_ := f3_.symm; clear f1_ f2_ f3_; subst f4_; subst f5_))
       refine hK.out _ _ ?_
       clear hK K
       refine norm_ (a' := ?_) ?_ ?_
       rotate_left
       ·show Act.put _ (some 116) _ = _
        simp only [Act.put, List.setIfInBounds_toArray, List.set_cons_zero, List.set_cons_succ, i64_w]
        rfl
       refine pure_ (i := 10) (N := some 117) (v := ?_) (a' := ?_) #[true, true, true, true, true, true, true, true, true, true, true, false] rfl rfl (any_of HT_.out (by kernel_rfl)) (fun _ _ _ h => h) (Or.inl ⟨by rfl, ?_⟩) ?_ ?_
       rotate_left
       ·intro w'
        go_simp
        with_reducible rfl
       rotate_left
       ·simp only [Act.put, List.setIfInBounds_toArray, List.set_cons_zero, List.set_cons_succ, i64_w]
        rfl
       refine last_ (i := 11) (N := none) #[true, true, true, true, true, true, true, true, true, true, true, true] rfl rfl (one_of HT_.out (by kernel_rfl)) (by decide) (fun K hK => ?_)
       have hs108 : w106.cell? ⟨gb144, 1, none⟩ = some (u145001) := (blk_cell BK144.out 1).trans rfl
       have hfs108 := blk_frozen BK144.out 1
       have hns108_0 := NB143_144.out
       have hns108_2 := NB154_144.out
       have hns108_3 := NB183_144.out
       have hms108_0 := NB144_143.out
       have hms108_2 := NB144_154.out
       have hms108_3 := NB144_183.out
       refine skip_ (w1 := ?_) (by rfl) rfl ?_ ?_
       rotate_left
       ·go_simp
        rfl
       refine hK.out _ _ ?_
       clear hK K
       refine done_ (done_of HT_.out (by kernel_rfl)) ?_
       try go_wp2
       go_roundg k3
       case measure => have := HK1.out; have := HJ51.out; have := HK3.out; omega
       case rel => exact ⟨(wrap64 (x13_3 + 7)), (y185), (.slice Ao107 y185.length co107), (by first | rfl | (simp; done) | simp [*]), H', ⟨by have := HK1.out; have := HJ51.out; have := HK3.out; omega⟩, ⟨vR (Kd.R_mono (Kd.R_far (p := ⟨gb144, 1, none⟩) (Kd.R_types HO_12.out BK144.out (by decide)) (fun _ hk => hk.2) (.slice Ao107 y185.length co107)) (fun _ hk => trivial))⟩, ⟨vS (Kd.S_mono (Kd.S_far (p := ⟨gb144, 1, none⟩) (Kd.S_types HO_145000.out BK144.out (by decide)) (fun _ hk => hk.2) (.slice Ao107 y185.length co107)) (fun _ hk => trivial))⟩, ⟨vR (Kd.R_mono (Kd.R_far (p := ⟨gb144, 1, none⟩) (Kd.R_types HO187.out BK144.out (by decide)) (fun _ hk => hk.2) (.slice Ao107 y185.length co107)) (fun _ hk => trivial))⟩, ⟨by exact vt (bf (vt BK143.out) NB143_144.out)⟩, ⟨by exact (vt (bp (vt BK144.out) 1)).trans rfl⟩, ⟨by exact vt (bf (vt BK154.out) NB154_144.out)⟩, ⟨vb HB.out⟩⟩
end Go.Proofs.YtjgifmakhnkmdaaGreatDoor.XRep
