import Derived.Test.YtjgifmakhnkmdaaGreatDoorZXRepx1
import Derived.Test.YtjgifmakhnkmdaaGreatDoorZCmp
namespace Go.Proofs.YtjgifmakhnkmdaaGreatDoor.XRep
set_option maxHeartbeats 8000000
set_option maxRecDepth 100000
open Go.RowKit Go.Proofs.YtjgifmakhnkmdaaGreatDoorW.PrintWords Go.Proofs.YtjgifmakhnkmdaaGreatDoorW.PrintLast Go.Proofs.YtjgifmakhnkmdaaGreatDoorW.PrintMore Go.Proofs.YtjgifmakhnkmdaaGreatDoor.Cmp
set_option linter.unusedVariables false
set_option linter.unusedSimpArgs false
def Zbx.f (a0 : ByteArray) : Option (Int) := (Zcl.f a0).bind fun bt299 => (some bt299.2.1)
theorem Zbx.calls (a0 : ByteArray) (r : Int) (w : World) (h : Zbx.f a0 = some r) :
  Calls Tryz.prog 44 #[.string a0] w fun e w' => e = .returned (.int .i64 r) ∧ Below w.heap.size w w' := by
 have HB := am (Below.refl w.heap.size w)
 have H : ((Zcl.f a0).bind fun bt299 => (some bt299.2.1)) = some r := h
 clear h
 replace H := be H
 obtain ⟨⟨t299, t300, t301⟩, A20, H⟩ := H
 try dsimp only at H
 have A2 := am A20
 clear A20
 obtain rfl := Option.some.inj H
 go_enter Tryz.func44, Tryz.ntmps44
 go_wp2_with (first | ((with_reducible refine gate_callee (f := 76) rfl ?_); refine goesL_ (some 8) rfl rfl Tryz.func76 (by kernel_rfl) rfl #[.string a0] rfl (by (try simp only [mT, mC, mN]); first | done | rfl) ?_; (with_reducible refine (Zcl.calls a0 t299 t300 t301 _ A2.out).mono ?_); rintro e w3 ⟨rfl, hb⟩; refine ⟨_, rfl, ?_⟩; replace HB := bs HB.out hb; (try clear hb)))
 go_ret
 exact ⟨by rfl, vb HB.out⟩
def Zcp.l0 : Nat → List (S34) → Int → Int → List (S34) → Option ((List (S34)))
 | 0, _, _, _, _ => none
 | k + 1, x6, x7, x8, x290000 => if x8 < x7 then (if 0 ≤ x8 then (if x8 < (x6.length : Int) then ((Zcj.f ((rd_T34 x6 x8).f0) ((rd_T34 x6 x8).f1) ((rd_T34 x6 x8).f2) ((rd_T34 x6 x8).f3) ((rd_T34 x6 x8).f4) ((rd_T34 x6 x8).f5)).bind fun t292 => (if t292 = 0 then ((Zai.f ((rd_T34 x6 x8).f4)).bind fun t293 => (if x290000.length < 1599289640401 then (Zcp.l0 k x6 x7 (wrap64 (x8 + 1)) (x290000 ++ [(⟨(rd_T34 x6 x8).f0, (rd_T34 x6 x8).f1, (rd_T34 x6 x8).f2, (rd_T34 x6 x8).f3, t293, (rd_T34 x6 x8).f5⟩ : S34)])) else (none))) else (Zcp.l0 k x6 x7 (wrap64 (x8 + 1)) x290000))) else (none)) else (none)) else (some x290000)
def Zcp.f (k : Nat) (l0 : List (S34)) : Option ((List (S34))) := Zcp.l0 k l0 (l0.length : Int) 0 ([] : List (S34))
theorem Zcp.calls (k : Nat) (A0 : Option Addr) (c0 : Nat) (l0 : List (S34)) (r : List (S34)) (w : World) (hr0 : Kd.C k34 w A0 l0.length l0) (hc0 : l0.length ≤ c0) (h : Zcp.f k l0 = some r) :
  Calls Tryz.prog 43 #[.slice A0 l0.length c0] w fun e w' => ∃ v0_ : Value, e = .returned (.agg #[v0_]) ∧ Kd.S k34 34 w' w.heap.size (fun _ => True) v0_ r ∧ Below w.heap.size w w' := by
 have hu40 := Tryz.underlying40
 have hu34 := Tryz.underlying34
 have HR0 := am hr0
 have HC0 := am hc0
 clear hr0 hc0
 have HB := am (Below.refl w.heap.size w)
 have H : (Zcp.l0 k l0 (l0.length : Int) 0 ([] : List (S34))) = some r := h
 clear h
 have H' := am H
 clear H
 go_enter Tryz.func43, Tryz.ntmps43
 go_wp2_with (first | ((with_reducible refine gate_dst (N := 2) rfl ?_); refine box_event ?hg (N := 2) ?hd (cs := #[.slice none 0 0]) (t := 40) ?hr ?_; (case hd => rfl); (case hg => rfl); (case hr => go_simp <;> rfl); intro gb288 hg w2 hbox hb; have BK288 := am hbox; have GW288 := gef hg HB.out; have GE288 := gef hg HB.out; replace HB := bs HB.out hb; clear hb hbox hg) | ((with_reducible refine gate_dst (N := 3) rfl ?_); refine box_event ?hg (N := 3) ?hd (cs := #[.slice none 0 0]) (t := 40) ?hr ?_; (case hd => rfl); (case hg => rfl); (case hr => go_simp <;> rfl); intro gb289 hg w3 hbox hb; have BK289 := am hbox; have GW289 := gef hg HB.out; have GE289 := gef hg HB.out; replace HB := bs HB.out hb; have NB288_289 := nl hg BK288.out; have NB289_288 := ng hg BK288.out; replace BK288 := kb BK288.out hb; clear hb hbox hg))
 go_loopg [8] k (fun kq v8 w' => ∃ (x8_1 : Int) (x290000_1 : List (S34)) (u290000 : Value), v8 = .int .i64 x8_1 ∧ Aside0 (Zcp.l0 kq l0 (l0.length : Int) x8_1 x290000_1 = some r) ∧ Aside0 (kq ≤ k) ∧ Aside0 (Kd.S k34 34 w' w.heap.size (fun _ => True) u290000 x290000_1) ∧ Aside0 (w'.heap[gb288]? = some (.cells #[(.slice none 0 0)] 40 (0, 0))) ∧ Aside0 (w'.heap[gb289]? = some (.cells #[u290000] 40 (0, 0))) ∧ Aside0 (Below w.heap.size w w'))
 case atStart => exact ⟨(0), (([] : List (S34))), (.slice none 0 0), (by first | rfl | (simp; done) | simp [*]), H', ⟨Nat.le_refl _⟩, ⟨by first | exact Kd.S_nil _ _ _ _ _ | exact Kd.N_nil _ _ _ _ _ | exact Kd.V_nil _ _ _ _ _ | exact Kd.Q_nil _ _ _ _ _ | exact Kd.R_nil _ _ _ _ _⟩, ⟨vk BK288.out⟩, ⟨vk BK289.out⟩, ⟨vb HB.out⟩⟩
 case round =>
  clear H'
  try clear p2
  obtain ⟨x8_1, x290000_1, u290000, rfl, HA, HK1, HO_290000, BK288, BK289, HB⟩ := hrel
  cases gk with
  | zero => exact absurd HA.out (by simp [Zcp.l0])
  | succ k1 =>
   have H := HA.out
   clear HA
   simp only [Zcp.l0] at H
   by_cases c4 : x8_1 < (l0.length : Int)
   rotate_left
   ·rw [if_neg c4] at H
    have c4b0 : decide (x8_1 < (l0.length : Int)) = false := df c4
    clear c4
    obtain rfl := Option.some.inj H
    have hnb32 := NB289_288.out
    have hnc32 := NB288_289.out
    obtain ⟨hcz33_0, hfz33_0⟩ := bk1 BK289.out
    obtain ⟨Ao34, co34, eo34⟩ := Kd.S_slice HO_290000.out
    subst eo34
    obtain ⟨hcz35_0, hfz35_0⟩ := bk1 BK288.out
    go_wp2
    refine bodyPost_ret (results_cell_row rfl _ _ gb288 40 #[.slice Ao34 x290000_1.length co34] (0, 0) _ rfl (by exact (vt (bp (vt BK288.out) 0)).trans rfl) Tryz.underlying40 rfl (by kernel_rfl)) rfl ?_
    exact ⟨_, by rfl, vS (Kd.S_mono (Kd.S_far (p := ⟨gb288, 0, none⟩) (Kd.S_types HO_290000.out BK288.out (by decide)) (fun _ hk => hk.2) (.slice Ao34 x290000_1.length co34)) (fun _ hk => trivial)), vb HB.out⟩
   rw [if_pos c4] at H
   have c4b0 : decide (x8_1 < (l0.length : Int)) = true := de c4
   clear c4
   by_cases c5 : 0 ≤ x8_1
   rotate_left
   ·rw [if_neg c5] at H
    exact absurd H (by simp)
   rw [if_pos c5] at H
   have c5b0 : decide (0 ≤ x8_1) = true := de c5
   clear c5
   by_cases c6 : x8_1 < (l0.length : Int)
   rotate_left
   ·rw [if_neg c6] at H
    exact absurd H (by simp)
   rw [if_pos c6] at H
   have c6b0 : decide (x8_1 < (l0.length : Int)) = true := de c6
   clear c6
   replace H := be H
   obtain ⟨t292, A70, H⟩ := H
   try dsimp only at H
   have A7 := am A70
   clear A70
   by_cases c8 : t292 = 0
   rotate_left
   ·rw [if_neg c8] at H
    have c8b0 : (t292 == 0) = false := beq_eq_false_iff_ne.mpr c8
    have c8b1 : (t292 != 0) = true := bne_iff_ne.mpr c8
    have H' := am H
    clear H
    have p290 : 0 ≤ (x8_1 : Int) := od (by with_reducible assumption)
    have q290 : x8_1 < (l0.length : Int) := od (by with_reducible assumption)
    obtain ⟨ad290, A290_4, c290_4, e290, hx290_0, hx290_1, hx290_2, hx290_3, hx290_4, hx290_5, hl290_4, hi290_4⟩ := at_T34 HR0.out x8_1 p290 q290
    cases e290
    replace hx290_0 := cb HB.out hx290_0
    replace hx290_1 := cb HB.out hx290_1
    replace hx290_2 := cb HB.out hx290_2
    replace hx290_3 := cb HB.out hx290_3
    replace hx290_4 := cb HB.out hx290_4
    replace hx290_5 := cb HB.out hx290_5
    have HR290_4 := am hi290_4
    have HC290_4 := am hl290_4
    clear hi290_4 hl290_4
    replace p290 := eq_true p290
    replace q290 := eq_true q290
    go_wp2_with (first | ((with_reducible refine gate_dst (N := 5) rfl ?_); refine box_event ?hg (N := 5) ?hd (cs := #[.int .i64 0, .int .i64 0, .string (⟨#[]⟩ : ByteArray), .string (⟨#[]⟩ : ByteArray), .slice none 0 0, .string (⟨#[]⟩ : ByteArray)]) (t := 34) ?hr ?_; (case hd => rfl); (case hg => rfl); (case hr => go_simp <;> rfl); intro gb291 hg w27 hbox hb; replace HO_290000 := eS HO_290000.out hg hb; have BK291 := am hbox; have GW291 := gef hg HB.out; have GE291 := gef hg HB.out; replace HB := bs HB.out hb; have NB288_291 := nl hg BK288.out; have NB291_288 := ng hg BK288.out; replace BK288 := kb BK288.out hb; have NB289_291 := nl hg BK289.out; have NB291_289 := ng hg BK289.out; replace BK289 := kb BK289.out hb; clear hb hbox hg; have hnb28 := NB291_288.out; have hnc28 := NB288_291.out; have hnb29 := NB291_289.out; have hnc29 := NB289_291.out; obtain ⟨hcz30_0, hcz30_1, hcz30_2, hcz30_3, hcz30_4, hcz30_5, hfz30_0, hfz30_1, hfz30_2, hfz30_3, hfz30_4, hfz30_5⟩ := bk6 BK291.out) | ((with_reducible refine gate_callee (f := 36) rfl ?_); refine goesL_ (some 13) rfl rfl Tryz.func36 (by kernel_rfl) rfl #[.agg #[.int .i64 ((rd_T34 l0 x8_1).f0), .int .i64 ((rd_T34 l0 x8_1).f1), .string ((rd_T34 l0 x8_1).f2), .string ((rd_T34 l0 x8_1).f3), .slice A290_4 ((rd_T34 l0 x8_1).f4).length c290_4, .string ((rd_T34 l0 x8_1).f5)]] rfl (by (try simp only [mT, mC, mN]); first | done | rfl) ?_; (with_reducible refine (Zcj.calls ((rd_T34 l0 x8_1).f0) ((rd_T34 l0 x8_1).f1) ((rd_T34 l0 x8_1).f2) ((rd_T34 l0 x8_1).f3) _ _ ((rd_T34 l0 x8_1).f4) ((rd_T34 l0 x8_1).f5) t292 _ ?side1 ?side2 A7.out).mono ?_); (case side1 => exact Kd.C_below HR290_4.out (vb HB.out)); (case side2 => exact HC290_4.out); rintro e w31 ⟨rfl, hb⟩; refine ⟨_, rfl, ?_⟩; replace HO_290000 := am (Kd.S_below (vS (Kd.S_mono (fS6 gb291 (Kd.S_mono HO_290000.out (fun k_ hk => (⟨hk, hk.2⟩ : _ ∧ k_ ≠ gb291))) (.int .i64 ((rd_T34 l0 x8_1).f0)) (.int .i64 ((rd_T34 l0 x8_1).f1)) (.string ((rd_T34 l0 x8_1).f2)) (.string ((rd_T34 l0 x8_1).f3)) (.slice A290_4 ((rd_T34 l0 x8_1).f4).length c290_4) (.string ((rd_T34 l0 x8_1).f5))) (fun _ h_ => h_.1))) hb); replace BK288 := am (blk_below (g := gb288) (o := .cells #[.slice none 0 0] 40 (0, 0)) (by exact vt (bf (vt (bf (vt (bf (vt (bf (vt (bf (vt (bf (vt BK288.out) NB288_291.out)) NB288_291.out)) NB288_291.out)) NB288_291.out)) NB288_291.out)) NB288_291.out)) hb); replace BK289 := am (blk_below (g := gb289) (o := .cells #[u290000] 40 (0, 0)) (by exact vt (bf (vt (bf (vt (bf (vt (bf (vt (bf (vt (bf (vt BK289.out) NB289_291.out)) NB289_291.out)) NB289_291.out)) NB289_291.out)) NB289_291.out)) NB289_291.out)) hb); replace BK291 := am (blk_below (g := gb291) (o := .cells #[.int .i64 ((rd_T34 l0 x8_1).f0), .int .i64 ((rd_T34 l0 x8_1).f1), .string ((rd_T34 l0 x8_1).f2), .string ((rd_T34 l0 x8_1).f3), .slice A290_4 ((rd_T34 l0 x8_1).f4).length c290_4, .string ((rd_T34 l0 x8_1).f5)] 34 (0, 0)) (by exact (vt (bp (vt (bp (vt (bp (vt (bp (vt (bp (vt (bp (vt BK291.out) 0)) 1)) 2)) 3)) 4)) 5)).trans rfl) hb); replace HB := bs HB.out hb; (try clear hb)))
    go_roundg k1
    case measure => have := HK1.out; omega
    case rel => exact ⟨(wrap64 (x8_1 + 1)), (x290000_1), (u290000), (by first | rfl | (simp; done) | simp [*]), H', ⟨by have := HK1.out; omega⟩, ⟨vS (Kd.S_mono HO_290000.out (fun _ hk => trivial))⟩, ⟨vk BK288.out⟩, ⟨vk BK289.out⟩, ⟨vb HB.out⟩⟩
   rw [if_pos c8] at H
   have c8b0 : (t292 == 0) = true := beq_iff_eq.mpr c8
   have c8b1 : (t292 != 0) = false := bne_eq_false_iff_eq.mpr c8
   clear c8
   replace H := be H
   obtain ⟨t293, A90, H⟩ := H
   try dsimp only at H
   have A9 := am A90
   clear A90
   by_cases c10 : x290000_1.length < 1599289640401
   rotate_left
   ·rw [if_neg c10] at H
    exact absurd H (by simp)
   rw [if_pos c10] at H
   have LMc10 := am c10
   clear c10
   obtain ⟨y296, hy296⟩ : ∃ y_ : List (S34), y_ = (x290000_1 ++ [(⟨(rd_T34 l0 x8_1).f0, (rd_T34 l0 x8_1).f1, (rd_T34 l0 x8_1).f2, (rd_T34 l0 x8_1).f3, t293, (rd_T34 l0 x8_1).f5⟩ : S34)]) := ⟨_, rfl⟩
   replace H : (Zcp.l0 k1 l0 (l0.length : Int) (wrap64 (x8_1 + 1)) y296) = some r := by first | (rw [hy296]; with_reducible exact H) | (have H2_ := (Option.bind_some _ _).symm.trans H; rw [hy296]; with_reducible exact H2_) | (have H2_ := (Option.bind_some _ _).symm.trans H; with_reducible exact H2_) | with_reducible exact H | (rw [hy296]; exact H) | exact H
   have Ny296 := am hy296
   clear hy296
   have H' := am H
   clear H
   have p290 : 0 ≤ (x8_1 : Int) := od (by with_reducible assumption)
   have q290 : x8_1 < (l0.length : Int) := od (by with_reducible assumption)
   obtain ⟨ad290, A290_4, c290_4, e290, hx290_0, hx290_1, hx290_2, hx290_3, hx290_4, hx290_5, hl290_4, hi290_4⟩ := at_T34 HR0.out x8_1 p290 q290
   cases e290
   replace hx290_0 := cb HB.out hx290_0
   replace hx290_1 := cb HB.out hx290_1
   replace hx290_2 := cb HB.out hx290_2
   replace hx290_3 := cb HB.out hx290_3
   replace hx290_4 := cb HB.out hx290_4
   replace hx290_5 := cb HB.out hx290_5
   have HR290_4 := am hi290_4
   have HC290_4 := am hl290_4
   clear hi290_4 hl290_4
   replace p290 := eq_true p290
   replace q290 := eq_true q290
   go_wp2_with (first | ((with_reducible refine gate_dst (N := 5) rfl ?_); refine box_event ?hg (N := 5) ?hd (cs := #[.int .i64 0, .int .i64 0, .string (⟨#[]⟩ : ByteArray), .string (⟨#[]⟩ : ByteArray), .slice none 0 0, .string (⟨#[]⟩ : ByteArray)]) (t := 34) ?hr ?_; (case hd => rfl); (case hg => rfl); (case hr => go_simp <;> rfl); intro gb291 hg w11 hbox hb; replace HO_290000 := eS HO_290000.out hg hb; have BK291 := am hbox; have GW291 := gef hg HB.out; have GE291 := gef hg HB.out; replace HB := bs HB.out hb; have NB288_291 := nl hg BK288.out; have NB291_288 := ng hg BK288.out; replace BK288 := kb BK288.out hb; have NB289_291 := nl hg BK289.out; have NB291_289 := ng hg BK289.out; replace BK289 := kb BK289.out hb; clear hb hbox hg; have hnb12 := NB291_288.out; have hnc12 := NB288_291.out; have hnb13 := NB291_289.out; have hnc13 := NB289_291.out; obtain ⟨hcz14_0, hcz14_1, hcz14_2, hcz14_3, hcz14_4, hcz14_5, hfz14_0, hfz14_1, hfz14_2, hfz14_3, hfz14_4, hfz14_5⟩ := bk6 BK291.out) | ((with_reducible refine gate_callee (f := 36) rfl ?_); refine goesL_ (some 13) rfl rfl Tryz.func36 (by kernel_rfl) rfl #[.agg #[.int .i64 ((rd_T34 l0 x8_1).f0), .int .i64 ((rd_T34 l0 x8_1).f1), .string ((rd_T34 l0 x8_1).f2), .string ((rd_T34 l0 x8_1).f3), .slice A290_4 ((rd_T34 l0 x8_1).f4).length c290_4, .string ((rd_T34 l0 x8_1).f5)]] rfl (by (try simp only [mT, mC, mN]); first | done | rfl) ?_; (with_reducible refine (Zcj.calls ((rd_T34 l0 x8_1).f0) ((rd_T34 l0 x8_1).f1) ((rd_T34 l0 x8_1).f2) ((rd_T34 l0 x8_1).f3) _ _ ((rd_T34 l0 x8_1).f4) ((rd_T34 l0 x8_1).f5) t292 _ ?side1 ?side2 A7.out).mono ?_); (case side1 => exact Kd.C_below HR290_4.out (vb HB.out)); (case side2 => exact HC290_4.out); rintro e w15 ⟨rfl, hb⟩; refine ⟨_, rfl, ?_⟩; replace HO_290000 := am (Kd.S_below (vS (Kd.S_mono (fS6 gb291 (Kd.S_mono HO_290000.out (fun k_ hk => (⟨hk, hk.2⟩ : _ ∧ k_ ≠ gb291))) (.int .i64 ((rd_T34 l0 x8_1).f0)) (.int .i64 ((rd_T34 l0 x8_1).f1)) (.string ((rd_T34 l0 x8_1).f2)) (.string ((rd_T34 l0 x8_1).f3)) (.slice A290_4 ((rd_T34 l0 x8_1).f4).length c290_4) (.string ((rd_T34 l0 x8_1).f5))) (fun _ h_ => h_.1))) hb); replace BK288 := am (blk_below (g := gb288) (o := .cells #[.slice none 0 0] 40 (0, 0)) (by exact vt (bf (vt (bf (vt (bf (vt (bf (vt (bf (vt (bf (vt BK288.out) NB288_291.out)) NB288_291.out)) NB288_291.out)) NB288_291.out)) NB288_291.out)) NB288_291.out)) hb); replace BK289 := am (blk_below (g := gb289) (o := .cells #[u290000] 40 (0, 0)) (by exact vt (bf (vt (bf (vt (bf (vt (bf (vt (bf (vt (bf (vt BK289.out) NB289_291.out)) NB289_291.out)) NB289_291.out)) NB289_291.out)) NB289_291.out)) NB289_291.out)) hb); replace BK291 := am (blk_below (g := gb291) (o := .cells #[.int .i64 ((rd_T34 l0 x8_1).f0), .int .i64 ((rd_T34 l0 x8_1).f1), .string ((rd_T34 l0 x8_1).f2), .string ((rd_T34 l0 x8_1).f3), .slice A290_4 ((rd_T34 l0 x8_1).f4).length c290_4, .string ((rd_T34 l0 x8_1).f5)] 34 (0, 0)) (by exact (vt (bp (vt (bp (vt (bp (vt (bp (vt (bp (vt (bp (vt BK291.out) 0)) 1)) 2)) 3)) 4)) 5)).trans rfl) hb); replace HB := bs HB.out hb; (try clear hb); (try clear hb2); (try clear hk); (try clear hi); obtain ⟨hcz16_0, hcz16_1, hcz16_2, hcz16_3, hcz16_4, hcz16_5, hfz16_0, hfz16_1, hfz16_2, hfz16_3, hfz16_4, hfz16_5⟩ := bk6 BK291.out) | ((with_reducible refine gate_callee (f := 77) rfl ?_); refine goesL_ (some 17) rfl rfl Tryz.func77 (by kernel_rfl) rfl #[.slice A290_4 ((rd_T34 l0 x8_1).f4).length c290_4] rfl (by (try simp only [mT, mC, mN]); first | done | rfl) ?_; (with_reducible refine (Zai.calls _ _ ((rd_T34 l0 x8_1).f4) t293 _ ?side1 ?side2 A9.out).mono ?_); (case side1 => exact vC (Kd.C_below HR290_4.out HB.out)); (case side2 => exact HC290_4.out); rintro e w17 ⟨v294, rfl, ho0, hb⟩; refine ⟨_, rfl, ?_⟩; replace HO_290000 := am (Kd.S_elder' (vS HO_290000.out) (Kd.R_base ho0) hb); have HO295 := am (Kd.R_lower ho0 (below_size (vb HB.out))); replace BK288 := kb BK288.out hb; replace BK289 := kb BK289.out hb; replace BK291 := kb BK291.out hb; replace HB := bs HB.out hb; (try clear hb); (try clear hb2); (try clear hk); (try clear hi); (try clear ho0); obtain ⟨Ao18, co18, eo18⟩ := Kd.R_slice HO295.out; subst eo18; obtain ⟨hcz19_0, hcz19_1, hcz19_2, hcz19_3, hcz19_4, hcz19_5, hfz19_0, hfz19_1, hfz19_2, hfz19_3, hfz19_4, hfz19_5⟩ := bk6 BK291.out) | ((with_reducible refine gate_store (t := 32) (p := 18) rfl ?_); refine store_event (t := 32) (p := 18) (v := ?vo_w20) (w1 := (w17.setCell ⟨gb291, 4, none⟩ (.slice Ao18 t293.length co18))) ?hg ?ho ?hn ?hr ?_; (case ho => rfl); (case hg => rfl); (case hn => rfl); (case hr => go_simp <;> rfl); intro w20 hw; replace HO_290000 : Aside0 (Kd.S k34 34 w20 w.heap.size (fun k_ => some k_ ≠ (.slice Ao18 t293.length co18 : Value).ownBlock ∧ k_ ≠ gb291) u290000 x290000_1) := ⟨(by rw [hw]; exact (vS (Kd.S_mono (Kd.S_far (p := ⟨gb291, 4, none⟩) (Kd.S_mono HO_290000.out (fun k_ hk => (⟨hk, hk.1.2⟩ : _ ∧ k_ ≠ gb291))) (fun _ hk => hk.2) (.slice Ao18 t293.length co18)) (fun _ hk => ⟨hk.1.2, hk.1.1.2⟩))))⟩; replace HO295 : Aside0 (Kd.R (Kd.int .i64) 3 w20 w.heap.size (fun _ => True) (.slice Ao18 t293.length co18) t293) := ⟨(by rw [hw]; exact (vR (Kd.R_mono (Kd.R_far (p := ⟨gb291, 4, none⟩) (Kd.R_types HO295.out BK291.out (by decide)) (fun _ hk => hk.2) (.slice Ao18 t293.length co18)) (fun _ hk => trivial))))⟩; replace BK288 : Aside0 (w20.heap[gb288]? = some (.cells #[.slice none 0 0] 40 (0, 0))) := ⟨(by rw [hw]; exact (by exact vt (bf (vt BK288.out) NB288_291.out)))⟩; replace BK289 : Aside0 (w20.heap[gb289]? = some (.cells #[u290000] 40 (0, 0))) := ⟨(by rw [hw]; exact (by exact vt (bf (vt BK289.out) NB289_291.out)))⟩; replace BK291 : Aside0 (w20.heap[gb291]? = some (.cells #[.int .i64 ((rd_T34 l0 x8_1).f0), .int .i64 ((rd_T34 l0 x8_1).f1), .string ((rd_T34 l0 x8_1).f2), .string ((rd_T34 l0 x8_1).f3), .slice Ao18 t293.length co18, .string ((rd_T34 l0 x8_1).f5)] 34 (0, 0))) := ⟨(by rw [hw]; exact (by exact (vt (bp (vt BK291.out) 4)).trans rfl))⟩; replace HB : Aside0 (Below w.heap.size w w20) := ⟨(by rw [hw]; exact (vb HB.out))⟩; clear hw; have hnb21 := NB289_288.out; have hnc21 := NB288_289.out; have hcz22_0 : w20.cell? ⟨gb289, 0, none⟩ = some (u290000) := (blk_cell BK289.out 0).trans rfl; have hfz22_0 := blk_frozen BK289.out 0; obtain ⟨hcz23_0, hcz23_1, hcz23_2, hcz23_3, hcz23_4, hcz23_5, hfz23_0, hfz23_1, hfz23_2, hfz23_3, hfz23_4, hfz23_5⟩ := bk6 BK291.out) | ((with_reducible refine gate_builtin (b := .append) (xs := #[.tmp 20, .tmp 22]) rfl ?_); at_builtin; refine Kd.S_append k34 (w0 := w) w.heap.size rfl (.tmp 20) (.tmp 22) 22 34 (.agg #[(.int .i64 0), (.int .i64 0), (.string ⟨#[]⟩), (.string ⟨#[]⟩), (.slice none 0 0), (.string ⟨#[]⟩)]) 88 rfl Tryz.underlying22 info34 rfl (by decide) (by omega) u290000 x290000_1 (⟨(rd_T34 l0 x8_1).f0, (rd_T34 l0 x8_1).f1, (rd_T34 l0 x8_1).f2, (rd_T34 l0 x8_1).f3, t293, (rd_T34 l0 x8_1).f5⟩ : S34) [.int .i64 ((rd_T34 l0 x8_1).f0), .int .i64 ((rd_T34 l0 x8_1).f1), .string ((rd_T34 l0 x8_1).f2), .string ((rd_T34 l0 x8_1).f3), .slice Ao18 t293.length co18, .string ((rd_T34 l0 x8_1).f5)] (fun k_ => k_ ≠ gb291) (fun k_ => some k_ = (.slice Ao18 t293.length co18 : Value).ownBlock) rfl rfl ?aP (fun k_ hk_ => ((Kd.R_mono (ok' := fun k_ => ((fun k_ => k_ ≠ gb291)) k_ ∧ some k_ ≠ (u290000 : Value).ownBlock) (Kd.R_types (Kd.R_apart' (HO295.out) (Kd.S_typed HO_290000.out) (by decide)) BK291.out (by decide)) (fun k_ hk => ⟨hk.2, hk.1.2⟩))).1 k_ hk_.symm) ?aF ?aO ?aB ?aS ?aL ?_; (case aP => exact k34_mkM _ _ _ (⟨(rd_T34 l0 x8_1).f0, (rd_T34 l0 x8_1).f1, (rd_T34 l0 x8_1).f2, (rd_T34 l0 x8_1).f3, t293, (rd_T34 l0 x8_1).f5⟩ : S34) (Kd.R_mono (Kd.R_tight rfl (Kd.R_mono (ok' := fun k_ => ((fun k_ => k_ ≠ gb291)) k_ ∧ some k_ ≠ (u290000 : Value).ownBlock) (Kd.R_types (Kd.R_apart' (HO295.out) (Kd.S_typed HO_290000.out) (by decide)) BK291.out (by decide)) (fun k_ hk => ⟨hk.2, hk.1.2⟩))) (fun _ h_ => h_))); (case aB => exact (vb HB.out)); (case aF => exact (fun k_ hk => Kd.freshB (g := gb291) (o := .cells #[.int .i64 ((rd_T34 l0 x8_1).f0), .int .i64 ((rd_T34 l0 x8_1).f1), .string ((rd_T34 l0 x8_1).f2), .string ((rd_T34 l0 x8_1).f3), .slice Ao18 t293.length co18, .string ((rd_T34 l0 x8_1).f5)] 34 (0, 0)) (vk BK291.out) k_ hk)); (case aO => exact (vS (Kd.S_mono HO_290000.out (fun k_ hk => ⟨hk.2, fun e_ => hk.1 e_⟩)))); (case aS => exact (below_size (vb HB.out))); (case aL => have := LMc10.out; omega); intro v297 w24 ho hb hg hat; rw [← Ny296.out] at ho; replace BK288 := am (blk_grown (g := gb288) (o := .cells #[.slice none 0 0] 40 (0, 0)) (vk BK288.out) hg (Kd.S_ne HO_290000.out BK288.out (by decide))); replace BK289 := am (blk_grown (g := gb289) (o := .cells #[u290000] 40 (0, 0)) (vk BK289.out) hg (Kd.S_ne HO_290000.out BK289.out (by decide))); replace BK291 := am (blk_grown (g := gb291) (o := .cells #[.int .i64 ((rd_T34 l0 x8_1).f0), .int .i64 ((rd_T34 l0 x8_1).f1), .string ((rd_T34 l0 x8_1).f2), .string ((rd_T34 l0 x8_1).f3), .slice Ao18 t293.length co18, .string ((rd_T34 l0 x8_1).f5)] 34 (0, 0)) (vk BK291.out) hg (Kd.S_away HO_290000.out (fun _ hk => hk.2))); replace HB := am hb; have HO298 := am (ho); clear HO_290000 HO295; clear ho hb hg hat; obtain ⟨Ao25, co25, eo25⟩ := Kd.S_slice HO298.out; subst eo25; obtain ⟨hcz26_0, hfz26_0⟩ := bk1 BK289.out))
   go_roundg k1
   case measure => have := HK1.out; omega
   case rel => exact ⟨(wrap64 (x8_1 + 1)), (y296), (.slice Ao25 y296.length co25), (by first | rfl | (simp; done) | simp [*]), H', ⟨by have := HK1.out; omega⟩, ⟨vS (Kd.S_mono (Kd.S_far (p := ⟨gb289, 0, none⟩) (Kd.S_types HO298.out BK289.out (by decide)) (fun _ hk => hk.2) (.slice Ao25 y296.length co25)) (fun _ hk => trivial))⟩, ⟨by exact vt (bf (vt BK288.out) NB288_289.out)⟩, ⟨by exact (vt (bp (vt BK289.out) 0)).trans rfl⟩, ⟨vb HB.out⟩⟩
def Zcn.f (a0_0 : Int) (a0_1 : Int) (a0_2 : ByteArray) (a0_3 : ByteArray) (l0_4 : List Int) (a0_5 : ByteArray) : Option (Int × Int × Bool) := if a0_0 = 4 then (if 1 < (l0_4.length : Int) then (some (rd l0_4 1, 1099511627776, true)) else (none)) else (if a0_0 = 13 then (if 0 < (l0_4.length : Int) then (some (rd l0_4 0, wrap64 ((l0_4.length : Int) / 2), true)) else (none)) else (if a0_0 = 14 then (if 0 < (l0_4.length : Int) then (some (rd l0_4 0, wrap64 ((l0_4.length : Int) - 1), true)) else (none)) else (some (0, 0, false))))
theorem Zcn.calls (a0_0 : Int) (a0_1 : Int) (a0_2 : ByteArray) (a0_3 : ByteArray) (A0_4 : Option Addr) (c0_4 : Nat) (l0_4 : List Int) (a0_5 : ByteArray) (r1 : Int) (r2 : Int) (r3 : Bool) (w : World) (hr0_4 : Kd.C (Kd.int .i64) w A0_4 l0_4.length l0_4) (hc0_4 : l0_4.length ≤ c0_4) (h : Zcn.f a0_0 a0_1 a0_2 a0_3 l0_4 a0_5 = some (r1, r2, r3)) :
  Calls Tryz.prog 67 #[.agg #[.int .i64 a0_0, .int .i64 a0_1, .string a0_2, .string a0_3, .slice A0_4 l0_4.length c0_4, .string a0_5]] w fun e w' => e = .returned (.tuple #[.int .i64 r1, .int .i64 r2, .bool r3]) ∧ Below w.heap.size w w' := by
 have hu34 := Tryz.underlying34
 have HR0_4 := am hr0_4
 have HC0_4 := am hc0_4
 clear hr0_4 hc0_4
 have HB := am (Below.refl w.heap.size w)
 have H : (if a0_0 = 4 then (if 1 < (l0_4.length : Int) then (some (rd l0_4 1, 1099511627776, true)) else (none)) else (if a0_0 = 13 then (if 0 < (l0_4.length : Int) then (some (rd l0_4 0, wrap64 ((l0_4.length : Int) / 2), true)) else (none)) else (if a0_0 = 14 then (if 0 < (l0_4.length : Int) then (some (rd l0_4 0, wrap64 ((l0_4.length : Int) - 1), true)) else (none)) else (some (0, 0, false))))) = some (r1, r2, r3) := h
 clear h
 by_cases c2 : a0_0 = 4
 ·rw [if_pos c2] at H
  have c2b0 : (a0_0 == 4) = true := beq_iff_eq.mpr c2
  have c2b1 : (a0_0 != 4) = false := bne_eq_false_iff_eq.mpr c2
  clear c2
  by_cases c3 : 1 < (l0_4.length : Int)
  rotate_left
  ·rw [if_neg c3] at H
   exact absurd H (by simp)
  rw [if_pos c3] at H
  have c3b0 : decide (1 < (l0_4.length : Int)) = true := de c3
  have c3b1 : decide (1 < l0_4.length) = true := decide_eq_true (by omega)
  clear c3
  simp only [Option.some.injEq, Prod.mk.injEq] at H
  obtain ⟨rfl, rfl, rfl⟩ := H
  go_enter Tryz.func67, Tryz.ntmps67
  go_wp2_with (first | ((with_reducible refine gate_dst (N := 1) rfl ?_); refine box_event ?hg (N := 1) ?hd (cs := #[.int .i64 a0_0, .int .i64 a0_1, .string a0_2, .string a0_3, .slice A0_4 l0_4.length c0_4, .string a0_5]) (t := 34) ?hr ?_; (case hd => rfl); (case hg => rfl); (case hr => go_simp <;> rfl); intro gb302 hg w4 hbox hb; have BK302 := am hbox; have GW302 := gef hg HB.out; have GE302 := gef hg HB.out; replace HB := bs HB.out hb; clear hb hbox hg; obtain ⟨hcz5_0, hcz5_1, hcz5_2, hcz5_3, hcz5_4, hcz5_5, hfz5_0, hfz5_1, hfz5_2, hfz5_3, hfz5_4, hfz5_5⟩ := bk6 BK302.out; have p303 : 0 ≤ (1 : Int) := (by omega); have q303 : 1 < (l0_4.length : Int) := od (by with_reducible assumption); obtain ⟨ad303, e303, hx303_0⟩ := Kd.at_int HR0_4.out 1 p303 q303; cases e303; (try simp only [show (1 : Int).toNat = 1 from rfl, Nat.reduceMul, Nat.reduceEqDiff, Go.Addr.add, ↓reduceIte] at hx303_0); have qi303 : (1 < l0_4.length) = True := eq_true (by omega); (try rw [show ((1 : Int)).toNat = 1 from rfl] at hx303_0); replace hx303_0 := cb HB.out hx303_0; replace p303 := eq_true p303; replace q303 := eq_true q303))
  repeat (go_quiet (first | ((with_reducible refine gate_dst (N := 1) rfl ?_); refine box_event ?hg (N := 1) ?hd (cs := #[.int .i64 a0_0, .int .i64 a0_1, .string a0_2, .string a0_3, .slice A0_4 l0_4.length c0_4, .string a0_5]) (t := 34) ?hr ?_; (case hd => rfl); (case hg => rfl); (case hr => go_simp <;> rfl); intro gb302 hg w4 hbox hb; have BK302 := am hbox; have GW302 := gef hg HB.out; have GE302 := gef hg HB.out; replace HB := bs HB.out hb; clear hb hbox hg; obtain ⟨hcz5_0, hcz5_1, hcz5_2, hcz5_3, hcz5_4, hcz5_5, hfz5_0, hfz5_1, hfz5_2, hfz5_3, hfz5_4, hfz5_5⟩ := bk6 BK302.out; have p303 : 0 ≤ (1 : Int) := (by omega); have q303 : 1 < (l0_4.length : Int) := od (by with_reducible assumption); obtain ⟨ad303, e303, hx303_0⟩ := Kd.at_int HR0_4.out 1 p303 q303; cases e303; (try simp only [show (1 : Int).toNat = 1 from rfl, Nat.reduceMul, Nat.reduceEqDiff, Go.Addr.add, ↓reduceIte] at hx303_0); have qi303 : (1 < l0_4.length) = True := eq_true (by omega); (try rw [show ((1 : Int)).toNat = 1 from rfl] at hx303_0); replace hx303_0 := cb HB.out hx303_0; replace p303 := eq_true p303; replace q303 := eq_true q303)); try go_wp2_with (first | ((with_reducible refine gate_dst (N := 1) rfl ?_); refine box_event ?hg (N := 1) ?hd (cs := #[.int .i64 a0_0, .int .i64 a0_1, .string a0_2, .string a0_3, .slice A0_4 l0_4.length c0_4, .string a0_5]) (t := 34) ?hr ?_; (case hd => rfl); (case hg => rfl); (case hr => go_simp <;> rfl); intro gb302 hg w4 hbox hb; have BK302 := am hbox; have GW302 := gef hg HB.out; have GE302 := gef hg HB.out; replace HB := bs HB.out hb; clear hb hbox hg; obtain ⟨hcz5_0, hcz5_1, hcz5_2, hcz5_3, hcz5_4, hcz5_5, hfz5_0, hfz5_1, hfz5_2, hfz5_3, hfz5_4, hfz5_5⟩ := bk6 BK302.out; have p303 : 0 ≤ (1 : Int) := (by omega); have q303 : 1 < (l0_4.length : Int) := od (by with_reducible assumption); obtain ⟨ad303, e303, hx303_0⟩ := Kd.at_int HR0_4.out 1 p303 q303; cases e303; (try simp only [show (1 : Int).toNat = 1 from rfl, Nat.reduceMul, Nat.reduceEqDiff, Go.Addr.add, ↓reduceIte] at hx303_0); have qi303 : (1 < l0_4.length) = True := eq_true (by omega); (try rw [show ((1 : Int)).toNat = 1 from rfl] at hx303_0); replace hx303_0 := cb HB.out hx303_0; replace p303 := eq_true p303; replace q303 := eq_true q303)))
  go_ret3
  exact ⟨by rfl, vb HB.out⟩
 rw [if_neg c2] at H
 have c2b0 : (a0_0 == 4) = false := beq_eq_false_iff_ne.mpr c2
 have c2b1 : (a0_0 != 4) = true := bne_iff_ne.mpr c2
 by_cases c6 : a0_0 = 13
 ·rw [if_pos c6] at H
  have c6b0 : (a0_0 == 13) = true := beq_iff_eq.mpr c6
  have c6b1 : (a0_0 != 13) = false := bne_eq_false_iff_eq.mpr c6
  clear c6
  by_cases c7 : 0 < (l0_4.length : Int)
  rotate_left
  ·rw [if_neg c7] at H
   exact absurd H (by simp)
  rw [if_pos c7] at H
  have c7b0 : decide (0 < (l0_4.length : Int)) = true := de c7
  have c7b1 : decide (0 < l0_4.length) = true := decide_eq_true (by omega)
  clear c7
  simp only [Option.some.injEq, Prod.mk.injEq] at H
  obtain ⟨rfl, rfl, rfl⟩ := H
  go_enter Tryz.func67, Tryz.ntmps67
  go_wp2_with (first | ((with_reducible refine gate_dst (N := 1) rfl ?_); refine box_event ?hg (N := 1) ?hd (cs := #[.int .i64 a0_0, .int .i64 a0_1, .string a0_2, .string a0_3, .slice A0_4 l0_4.length c0_4, .string a0_5]) (t := 34) ?hr ?_; (case hd => rfl); (case hg => rfl); (case hr => go_simp <;> rfl); intro gb302 hg w8 hbox hb; have BK302 := am hbox; have GW302 := gef hg HB.out; have GE302 := gef hg HB.out; replace HB := bs HB.out hb; clear hb hbox hg; obtain ⟨hcz9_0, hcz9_1, hcz9_2, hcz9_3, hcz9_4, hcz9_5, hfz9_0, hfz9_1, hfz9_2, hfz9_3, hfz9_4, hfz9_5⟩ := bk6 BK302.out; have p304 : 0 ≤ (0 : Int) := (by omega); have q304 : 0 < (l0_4.length : Int) := od (by with_reducible assumption); obtain ⟨ad304, e304, hx304_0⟩ := Kd.at_int HR0_4.out 0 p304 q304; cases e304; have qi304 : (0 < l0_4.length) = True := eq_true (by omega); (try rw [show ((0 : Int)).toNat = 0 from rfl] at hx304_0); (try rw [Addr.add_zero'] at hx304_0); replace hx304_0 := cb HB.out hx304_0; replace p304 := eq_true p304; replace q304 := eq_true q304))
  repeat (go_quiet (first | ((with_reducible refine gate_dst (N := 1) rfl ?_); refine box_event ?hg (N := 1) ?hd (cs := #[.int .i64 a0_0, .int .i64 a0_1, .string a0_2, .string a0_3, .slice A0_4 l0_4.length c0_4, .string a0_5]) (t := 34) ?hr ?_; (case hd => rfl); (case hg => rfl); (case hr => go_simp <;> rfl); intro gb302 hg w8 hbox hb; have BK302 := am hbox; have GW302 := gef hg HB.out; have GE302 := gef hg HB.out; replace HB := bs HB.out hb; clear hb hbox hg; obtain ⟨hcz9_0, hcz9_1, hcz9_2, hcz9_3, hcz9_4, hcz9_5, hfz9_0, hfz9_1, hfz9_2, hfz9_3, hfz9_4, hfz9_5⟩ := bk6 BK302.out; have p304 : 0 ≤ (0 : Int) := (by omega); have q304 : 0 < (l0_4.length : Int) := od (by with_reducible assumption); obtain ⟨ad304, e304, hx304_0⟩ := Kd.at_int HR0_4.out 0 p304 q304; cases e304; have qi304 : (0 < l0_4.length) = True := eq_true (by omega); (try rw [show ((0 : Int)).toNat = 0 from rfl] at hx304_0); (try rw [Addr.add_zero'] at hx304_0); replace hx304_0 := cb HB.out hx304_0; replace p304 := eq_true p304; replace q304 := eq_true q304)); try go_wp2_with (first | ((with_reducible refine gate_dst (N := 1) rfl ?_); refine box_event ?hg (N := 1) ?hd (cs := #[.int .i64 a0_0, .int .i64 a0_1, .string a0_2, .string a0_3, .slice A0_4 l0_4.length c0_4, .string a0_5]) (t := 34) ?hr ?_; (case hd => rfl); (case hg => rfl); (case hr => go_simp <;> rfl); intro gb302 hg w8 hbox hb; have BK302 := am hbox; have GW302 := gef hg HB.out; have GE302 := gef hg HB.out; replace HB := bs HB.out hb; clear hb hbox hg; obtain ⟨hcz9_0, hcz9_1, hcz9_2, hcz9_3, hcz9_4, hcz9_5, hfz9_0, hfz9_1, hfz9_2, hfz9_3, hfz9_4, hfz9_5⟩ := bk6 BK302.out; have p304 : 0 ≤ (0 : Int) := (by omega); have q304 : 0 < (l0_4.length : Int) := od (by with_reducible assumption); obtain ⟨ad304, e304, hx304_0⟩ := Kd.at_int HR0_4.out 0 p304 q304; cases e304; have qi304 : (0 < l0_4.length) = True := eq_true (by omega); (try rw [show ((0 : Int)).toNat = 0 from rfl] at hx304_0); (try rw [Addr.add_zero'] at hx304_0); replace hx304_0 := cb HB.out hx304_0; replace p304 := eq_true p304; replace q304 := eq_true q304)))
  go_ret3
  exact ⟨by rfl, vb HB.out⟩
 rw [if_neg c6] at H
 have c6b0 : (a0_0 == 13) = false := beq_eq_false_iff_ne.mpr c6
 have c6b1 : (a0_0 != 13) = true := bne_iff_ne.mpr c6
 by_cases c10 : a0_0 = 14
 rotate_left
 ·rw [if_neg c10] at H
  have c10b0 : (a0_0 == 14) = false := beq_eq_false_iff_ne.mpr c10
  have c10b1 : (a0_0 != 14) = true := bne_iff_ne.mpr c10
  simp only [Option.some.injEq, Prod.mk.injEq] at H
  obtain ⟨rfl, rfl, rfl⟩ := H
  go_enter Tryz.func67, Tryz.ntmps67
  go_wp2_with (first | ((with_reducible refine gate_dst (N := 1) rfl ?_); refine box_event ?hg (N := 1) ?hd (cs := #[.int .i64 a0_0, .int .i64 a0_1, .string a0_2, .string a0_3, .slice A0_4 l0_4.length c0_4, .string a0_5]) (t := 34) ?hr ?_; (case hd => rfl); (case hg => rfl); (case hr => go_simp <;> rfl); intro gb302 hg w14 hbox hb; have BK302 := am hbox; have GW302 := gef hg HB.out; have GE302 := gef hg HB.out; replace HB := bs HB.out hb; clear hb hbox hg; obtain ⟨hcz15_0, hcz15_1, hcz15_2, hcz15_3, hcz15_4, hcz15_5, hfz15_0, hfz15_1, hfz15_2, hfz15_3, hfz15_4, hfz15_5⟩ := bk6 BK302.out))
  repeat (go_quiet (first | ((with_reducible refine gate_dst (N := 1) rfl ?_); refine box_event ?hg (N := 1) ?hd (cs := #[.int .i64 a0_0, .int .i64 a0_1, .string a0_2, .string a0_3, .slice A0_4 l0_4.length c0_4, .string a0_5]) (t := 34) ?hr ?_; (case hd => rfl); (case hg => rfl); (case hr => go_simp <;> rfl); intro gb302 hg w14 hbox hb; have BK302 := am hbox; have GW302 := gef hg HB.out; have GE302 := gef hg HB.out; replace HB := bs HB.out hb; clear hb hbox hg; obtain ⟨hcz15_0, hcz15_1, hcz15_2, hcz15_3, hcz15_4, hcz15_5, hfz15_0, hfz15_1, hfz15_2, hfz15_3, hfz15_4, hfz15_5⟩ := bk6 BK302.out)); try go_wp2_with (first | ((with_reducible refine gate_dst (N := 1) rfl ?_); refine box_event ?hg (N := 1) ?hd (cs := #[.int .i64 a0_0, .int .i64 a0_1, .string a0_2, .string a0_3, .slice A0_4 l0_4.length c0_4, .string a0_5]) (t := 34) ?hr ?_; (case hd => rfl); (case hg => rfl); (case hr => go_simp <;> rfl); intro gb302 hg w14 hbox hb; have BK302 := am hbox; have GW302 := gef hg HB.out; have GE302 := gef hg HB.out; replace HB := bs HB.out hb; clear hb hbox hg; obtain ⟨hcz15_0, hcz15_1, hcz15_2, hcz15_3, hcz15_4, hcz15_5, hfz15_0, hfz15_1, hfz15_2, hfz15_3, hfz15_4, hfz15_5⟩ := bk6 BK302.out)))
  go_ret3
  exact ⟨by rfl, vb HB.out⟩
 rw [if_pos c10] at H
 have c10b0 : (a0_0 == 14) = true := beq_iff_eq.mpr c10
 have c10b1 : (a0_0 != 14) = false := bne_eq_false_iff_eq.mpr c10
 clear c10
 by_cases c11 : 0 < (l0_4.length : Int)
 rotate_left
 ·rw [if_neg c11] at H
  exact absurd H (by simp)
 rw [if_pos c11] at H
 have c11b0 : decide (0 < (l0_4.length : Int)) = true := de c11
 have c11b1 : decide (0 < l0_4.length) = true := decide_eq_true (by omega)
 clear c11
 simp only [Option.some.injEq, Prod.mk.injEq] at H
 obtain ⟨rfl, rfl, rfl⟩ := H
 go_enter Tryz.func67, Tryz.ntmps67
 go_wp2_with (first | ((with_reducible refine gate_dst (N := 1) rfl ?_); refine box_event ?hg (N := 1) ?hd (cs := #[.int .i64 a0_0, .int .i64 a0_1, .string a0_2, .string a0_3, .slice A0_4 l0_4.length c0_4, .string a0_5]) (t := 34) ?hr ?_; (case hd => rfl); (case hg => rfl); (case hr => go_simp <;> rfl); intro gb302 hg w12 hbox hb; have BK302 := am hbox; have GW302 := gef hg HB.out; have GE302 := gef hg HB.out; replace HB := bs HB.out hb; clear hb hbox hg; obtain ⟨hcz13_0, hcz13_1, hcz13_2, hcz13_3, hcz13_4, hcz13_5, hfz13_0, hfz13_1, hfz13_2, hfz13_3, hfz13_4, hfz13_5⟩ := bk6 BK302.out; have p305 : 0 ≤ (0 : Int) := (by omega); have q305 : 0 < (l0_4.length : Int) := od (by with_reducible assumption); obtain ⟨ad305, e305, hx305_0⟩ := Kd.at_int HR0_4.out 0 p305 q305; cases e305; have qi305 : (0 < l0_4.length) = True := eq_true (by omega); (try rw [show ((0 : Int)).toNat = 0 from rfl] at hx305_0); (try rw [Addr.add_zero'] at hx305_0); replace hx305_0 := cb HB.out hx305_0; replace p305 := eq_true p305; replace q305 := eq_true q305))
 repeat (go_quiet (first | ((with_reducible refine gate_dst (N := 1) rfl ?_); refine box_event ?hg (N := 1) ?hd (cs := #[.int .i64 a0_0, .int .i64 a0_1, .string a0_2, .string a0_3, .slice A0_4 l0_4.length c0_4, .string a0_5]) (t := 34) ?hr ?_; (case hd => rfl); (case hg => rfl); (case hr => go_simp <;> rfl); intro gb302 hg w12 hbox hb; have BK302 := am hbox; have GW302 := gef hg HB.out; have GE302 := gef hg HB.out; replace HB := bs HB.out hb; clear hb hbox hg; obtain ⟨hcz13_0, hcz13_1, hcz13_2, hcz13_3, hcz13_4, hcz13_5, hfz13_0, hfz13_1, hfz13_2, hfz13_3, hfz13_4, hfz13_5⟩ := bk6 BK302.out; have p305 : 0 ≤ (0 : Int) := (by omega); have q305 : 0 < (l0_4.length : Int) := od (by with_reducible assumption); obtain ⟨ad305, e305, hx305_0⟩ := Kd.at_int HR0_4.out 0 p305 q305; cases e305; have qi305 : (0 < l0_4.length) = True := eq_true (by omega); (try rw [show ((0 : Int)).toNat = 0 from rfl] at hx305_0); (try rw [Addr.add_zero'] at hx305_0); replace hx305_0 := cb HB.out hx305_0; replace p305 := eq_true p305; replace q305 := eq_true q305)); try go_wp2_with (first | ((with_reducible refine gate_dst (N := 1) rfl ?_); refine box_event ?hg (N := 1) ?hd (cs := #[.int .i64 a0_0, .int .i64 a0_1, .string a0_2, .string a0_3, .slice A0_4 l0_4.length c0_4, .string a0_5]) (t := 34) ?hr ?_; (case hd => rfl); (case hg => rfl); (case hr => go_simp <;> rfl); intro gb302 hg w12 hbox hb; have BK302 := am hbox; have GW302 := gef hg HB.out; have GE302 := gef hg HB.out; replace HB := bs HB.out hb; clear hb hbox hg; obtain ⟨hcz13_0, hcz13_1, hcz13_2, hcz13_3, hcz13_4, hcz13_5, hfz13_0, hfz13_1, hfz13_2, hfz13_3, hfz13_4, hfz13_5⟩ := bk6 BK302.out; have p305 : 0 ≤ (0 : Int) := (by omega); have q305 : 0 < (l0_4.length : Int) := od (by with_reducible assumption); obtain ⟨ad305, e305, hx305_0⟩ := Kd.at_int HR0_4.out 0 p305 q305; cases e305; have qi305 : (0 < l0_4.length) = True := eq_true (by omega); (try rw [show ((0 : Int)).toNat = 0 from rfl] at hx305_0); (try rw [Addr.add_zero'] at hx305_0); replace hx305_0 := cb HB.out hx305_0; replace p305 := eq_true p305; replace q305 := eq_true q305)))
 go_ret3
 exact ⟨by rfl, vb HB.out⟩
def Zax.l0 : Nat → Int → Int → List (S34) → Option (Int × Int × ByteArray × ByteArray × List Int × ByteArray × Bool)
 | 0, _, _, _ => none
 | k + 1, x1, x6, x307000 => if x6 ≥ 0 then (if 0 ≤ x6 then (if x6 < (x307000.length : Int) then ((Zcn.f ((rd_T34 x307000 x6).f0) ((rd_T34 x307000 x6).f1) ((rd_T34 x307000 x6).f2) ((rd_T34 x307000 x6).f3) ((rd_T34 x307000 x6).f4) ((rd_T34 x307000 x6).f5)).bind fun bt309 => (if bt309.2.2 = true then (if bt309.1 ≤ x1 then (some ((rd_T34 x307000 x6).f0, (rd_T34 x307000 x6).f1, (rd_T34 x307000 x6).f2, (rd_T34 x307000 x6).f3, (rd_T34 x307000 x6).f4, (rd_T34 x307000 x6).f5, true)) else (Zax.l0 k x1 (wrap64 (x6 - 1)) x307000)) else (Zax.l0 k x1 (wrap64 (x6 - 1)) x307000))) else (none)) else (none)) else (some (0, 0, (⟨#[]⟩ : ByteArray), (⟨#[]⟩ : ByteArray), ([] : List Int), (⟨#[]⟩ : ByteArray), false))
def Zax.f (k : Nat) (l0_0 : List (S34)) (a1 : Int) : Option (Int × Int × ByteArray × ByteArray × List Int × ByteArray × Bool) := Zax.l0 k a1 (wrap64 ((l0_0.length : Int) - 1)) l0_0
theorem Zax.calls (k : Nat) (P0_0_ : Nat → Prop) (A0_0 : Option Addr) (c0_0 : Nat) (l0_0 : List (S34)) (a1 : Int) (r1 : Int) (r2 : Int) (r3 : ByteArray) (r4 : ByteArray) (r5 : List Int) (r6 : ByteArray) (r7 : Bool) (w : World) (hs0_0 : Kd.V k34 34 w w.heap.size (fun k_ => P0_0_ k_) (.slice A0_0 l0_0.length c0_0) l0_0) (h : Zax.f k l0_0 a1 = some (r1, r2, r3, r4, r5, r6, r7)) :
  Calls Tryz.prog 66 #[.agg #[.slice A0_0 l0_0.length c0_0], .int .i64 a1] w fun e w' => ∃ v4_ : Value, e = .returned (.tuple #[.agg #[.int .i64 r1, .int .i64 r2, .string r3, .string r4, v4_, .string r6], .bool r7]) ∧ Kd.V (Kd.int .i64) 3 w' w.heap.size (fun k_ => (P0_0_ k_ ∨ w.heap.size ≤ k_)) v4_ r5 ∧ Below w.heap.size w w' := by
 have hu40 := Tryz.underlying40
 have hu34 := Tryz.underlying34
 have HO0_0 := am (show Kd.V k34 34 w w.heap.size (fun k_ => (P0_0_ k_ ∨ w.heap.size ≤ k_)) (.slice A0_0 l0_0.length c0_0) l0_0 from Kd.V_mono hs0_0 (fun k_ hk => .inl hk))
 have HB := am (Below.refl w.heap.size w)
 have H : (Zax.l0 k a1 (wrap64 ((l0_0.length : Int) - 1)) l0_0) = some (r1, r2, r3, r4, r5, r6, r7) := h
 clear h
 have H' := am H
 clear H
 go_enter Tryz.func66, Tryz.ntmps66
 go_wp2_with (first | ((with_reducible refine gate_dst (N := 2) rfl ?_); refine box_event ?hg (N := 2) ?hd (cs := #[.slice A0_0 l0_0.length c0_0]) (t := 40) ?hr ?_; (case hd => rfl); (case hg => rfl); (case hr => go_simp <;> rfl); intro gb306 hg w3 hbox hb; replace HO0_0 := eV HO0_0.out hg hb; have BK306 := am hbox; have GW306 := gef hg HB.out; have GE306 := gef hg HB.out; replace HB := bs HB.out hb; clear hb hbox hg) | ((with_reducible refine gate_dst (N := 4) rfl ?_); refine box_event ?hg (N := 4) ?hd (cs := #[.int .i64 0, .int .i64 0, .string (⟨#[]⟩ : ByteArray), .string (⟨#[]⟩ : ByteArray), .slice none 0 0, .string (⟨#[]⟩ : ByteArray)]) (t := 34) ?hr ?_; (case hd => rfl); (case hg => rfl); (case hr => go_simp <;> rfl); intro gb307 hg w4 hbox hb; replace HO0_0 := eV HO0_0.out hg hb; have BK307 := am hbox; have GW307 := gef hg HB.out; have GE307 := gef hg HB.out; replace HB := bs HB.out hb; have NB306_307 := nl hg BK306.out; have NB307_306 := ng hg BK306.out; replace BK306 := kb BK306.out hb; clear hb hbox hg; have hnb5 := NB306_307.out; have hnc5 := NB307_306.out; obtain ⟨hcz6_0, hfz6_0⟩ := bk1 BK306.out))
 go_loopg [6] k (fun kq v6 w' => ∃ (x6_1 : Int) (x308000_1 : Int) (x308001_1 : Int) (x308002_1 : ByteArray) (x308003_1 : ByteArray) (x308005_1 : ByteArray), v6 = .int .i64 x6_1 ∧ Aside0 (Zax.l0 kq a1 x6_1 l0_0 = some (r1, r2, r3, r4, r5, r6, r7)) ∧ Aside0 (kq ≤ k) ∧ Aside0 (Kd.V k34 34 w' w.heap.size (fun k_ => (P0_0_ k_ ∨ w.heap.size ≤ k_) ∧ k_ ≠ gb306 ∧ k_ ≠ gb307) (.slice A0_0 l0_0.length c0_0) l0_0) ∧ Aside0 (w'.heap[gb306]? = some (.cells #[(.slice A0_0 l0_0.length c0_0)] 40 (0, 0))) ∧ Aside0 (w'.heap[gb307]? = some (.cells #[.int .i64 x308000_1, .int .i64 x308001_1, .string x308002_1, .string x308003_1, (.slice none 0 0), .string x308005_1] 34 (0, 0))) ∧ Aside0 (Below w.heap.size w w'))
 case atStart => exact ⟨(wrap64 ((l0_0.length : Int) - 1)), (0), (0), ((⟨#[]⟩ : ByteArray)), ((⟨#[]⟩ : ByteArray)), ((⟨#[]⟩ : ByteArray)), (by first | rfl | (simp; done) | simp [*]), H', ⟨Nat.le_refl _⟩, ⟨vV (Kd.V_mono HO0_0.out (fun _ hk => ⟨hk.1.1, ⟨hk.1.2, hk.2⟩⟩))⟩, ⟨vk BK306.out⟩, ⟨vk BK307.out⟩, ⟨vb HB.out⟩⟩
 case round =>
  clear H'
  (try clear p2); (try clear c5); (try clear c6); (try clear p6); (try clear hcz6_0); (try clear hfz6_0)
  obtain ⟨x6_1, x308000_1, x308001_1, x308002_1, x308003_1, x308005_1, rfl, HA, HK1, HO_307000, BK306, BK307, HB⟩ := hrel
  cases gk with
  | zero => exact absurd HA.out (by simp [Zax.l0])
  | succ k1 =>
   have H := HA.out
   clear HA
   simp only [Zax.l0] at H
   by_cases c7 : x6_1 ≥ 0
   rotate_left
   ·rw [if_neg c7] at H
    have c7b0 : decide (0 ≤ x6_1) = false := df c7
    clear c7
    simp only [Option.some.injEq, Prod.mk.injEq] at H
    obtain ⟨rfl, rfl, rfl, rfl, rfl, rfl, rfl⟩ := H
    have hnb24 := NB307_306.out
    have hnc24 := NB306_307.out
    obtain ⟨hcz25_0, hcz25_1, hcz25_2, hcz25_3, hcz25_4, hcz25_5, hfz25_0, hfz25_1, hfz25_2, hfz25_3, hfz25_4, hfz25_5⟩ := bk6 BK307.out
    go_wp2
    refine bodyPost_ret (results_ct rfl _ _ gb307 34 #[.int .i64 0, .int .i64 0, .string (⟨#[]⟩ : ByteArray), .string (⟨#[]⟩ : ByteArray), .slice none 0 0, .string (⟨#[]⟩ : ByteArray)] (0, 0) _ rfl (by exact (vt (bp (vt (bp (vt (bp (vt (bp (vt (bp (vt (bp (vt BK307.out) 0)) 1)) 2)) 3)) 4)) 5)).trans rfl) Tryz.underlying34 rfl (by kernel_rfl)) rfl ?_
    exact ⟨_, by rfl, (Kd.V_nil _ _ _ _ _), vb HB.out⟩
   rw [if_pos c7] at H
   have c7b0 : decide (0 ≤ x6_1) = true := de c7
   clear c7
   by_cases c8 : 0 ≤ x6_1
   rotate_left
   ·rw [if_neg c8] at H
    exact absurd H (by simp)
   rw [if_pos c8] at H
   have c8b0 : decide (0 ≤ x6_1) = true := de c8
   clear c8
   by_cases c9 : x6_1 < (l0_0.length : Int)
   rotate_left
   ·rw [if_neg c9] at H
    exact absurd H (by simp)
   rw [if_pos c9] at H
   have c9b0 : decide (x6_1 < (l0_0.length : Int)) = true := de c9
   clear c9
   replace H := be H
   obtain ⟨⟨t309, t310, t311⟩, A100, H⟩ := H
   try dsimp only at H
   have A10 := am A100
   clear A100
   by_cases c11 : t311 = true
   rotate_left
   ·replace c11 := Bool.eq_false_iff.mpr c11
    subst c11
    rw [if_neg (show ¬ (false = true) by decide)] at H
    have H' := am H
    clear H
    have hnb21 := NB306_307.out
    have hnc21 := NB307_306.out
    obtain ⟨hcz22_0, hfz22_0⟩ := bk1 BK306.out
    have p308 : 0 ≤ (x6_1 : Int) := od (by with_reducible assumption)
    have q308 : x6_1 < (l0_0.length : Int) := od (by with_reducible assumption)
    obtain ⟨ad308, A308_4, c308_4, e308, hx308_0, hx308_1, hx308_2, hx308_3, hx308_4, hx308_5, hl308_4, hi308_4⟩ := at_T34 (Kd.V_reads' HO_307000.out).2.2 x6_1 p308 q308
    cases e308
    obtain ⟨ce308, hce308, hMe308, hcc308⟩ := Kd.V_get HO_307000.out z34 x6_1 p308 (by first | exact q308 | exact od (by with_reducible assumption) | (have e_ := (Kd.V_reads' HO_307000.out).1; omega))
    obtain ⟨ua308_4, uc308_4, rfl, ul308_4, ge308_4⟩ := k34_openF hMe308
    have hv308_4 := hcc308 4 _ rfl
    rw [add_field _ _ 4 (by omega)] at hv308_4
    replace hv308_4 := Option.some.inj (hv308_4.symm.trans hx308_4)
    injection hv308_4 with hva_ hvn_ hvc_
    rw [hva_] at ge308_4
    rw [hvc_] at ul308_4
    have HL308_4 := am (show Kd.V (Kd.int .i64) 3 _ w.heap.size _ _ ((rd_T34 l0_0 x6_1).f4) from Kd.V_mk ul308_4 ge308_4)
    clear hva_ hvn_ hvc_ ge308_4 ul308_4
    clear hcc308 hce308
    have HR308_4 := am hi308_4
    have HC308_4 := am hl308_4
    clear hi308_4 hl308_4
    replace p308 := eq_true p308
    replace q308 := eq_true q308
    go_wp2_with (first | ((with_reducible refine gate_callee (f := 67) rfl ?_); refine goesL_ (some 24) rfl rfl Tryz.func67 (by kernel_rfl) rfl #[.agg #[.int .i64 ((rd_T34 l0_0 x6_1).f0), .int .i64 ((rd_T34 l0_0 x6_1).f1), .string ((rd_T34 l0_0 x6_1).f2), .string ((rd_T34 l0_0 x6_1).f3), .slice A308_4 ((rd_T34 l0_0 x6_1).f4).length c308_4, .string ((rd_T34 l0_0 x6_1).f5)]] rfl (by (try simp only [mT, mC, mN]); first | done | rfl) ?_; (with_reducible refine (Zcn.calls ((rd_T34 l0_0 x6_1).f0) ((rd_T34 l0_0 x6_1).f1) ((rd_T34 l0_0 x6_1).f2) ((rd_T34 l0_0 x6_1).f3) _ _ ((rd_T34 l0_0 x6_1).f4) ((rd_T34 l0_0 x6_1).f5) t309 t310 false _ ?side1 ?side2 A10.out).mono ?_); (case side1 => exact vC HR308_4.out); (case side2 => exact HC308_4.out); rintro e w23 ⟨rfl, hb⟩; refine ⟨_, rfl, ?_⟩; replace HO_307000 := kV HO_307000.out hb; replace HL308_4 := kV HL308_4.out hb; replace BK306 := kb BK306.out hb; replace BK307 := kb BK307.out hb; replace HR308_4 := kC HR308_4.out hb; replace HB := bs HB.out hb; (try clear hb)))
    go_roundg k1
    case measure => have := HK1.out; omega
    case rel => exact ⟨(wrap64 (x6_1 - 1)), (x308000_1), (x308001_1), (x308002_1), (x308003_1), (x308005_1), (by first | rfl | (simp; done) | simp [*]), H', ⟨by have := HK1.out; omega⟩, ⟨vV HO_307000.out⟩, ⟨vk BK306.out⟩, ⟨vk BK307.out⟩, ⟨vb HB.out⟩⟩
   subst c11
   rw [if_pos rfl] at H
   by_cases c12 : t309 ≤ a1
   ·rw [if_pos c12] at H
    have c12b0 : decide (t309 ≤ a1) = true := de c12
    clear c12
    simp only [Option.some.injEq, Prod.mk.injEq] at H
    obtain ⟨rfl, rfl, rfl, rfl, rfl, rfl, rfl⟩ := H
    have hnb13 := NB306_307.out
    have hnc13 := NB307_306.out
    obtain ⟨hcz14_0, hfz14_0⟩ := bk1 BK306.out
    have p308 : 0 ≤ (x6_1 : Int) := od (by with_reducible assumption)
    have q308 : x6_1 < (l0_0.length : Int) := od (by with_reducible assumption)
    obtain ⟨ad308, A308_4, c308_4, e308, hx308_0, hx308_1, hx308_2, hx308_3, hx308_4, hx308_5, hl308_4, hi308_4⟩ := at_T34 (Kd.V_reads' HO_307000.out).2.2 x6_1 p308 q308
    cases e308
    obtain ⟨ce308, hce308, hMe308, hcc308⟩ := Kd.V_get HO_307000.out z34 x6_1 p308 (by first | exact q308 | exact od (by with_reducible assumption) | (have e_ := (Kd.V_reads' HO_307000.out).1; omega))
    obtain ⟨ua308_4, uc308_4, rfl, ul308_4, ge308_4⟩ := k34_openF hMe308
    have hv308_4 := hcc308 4 _ rfl
    rw [add_field _ _ 4 (by omega)] at hv308_4
    replace hv308_4 := Option.some.inj (hv308_4.symm.trans hx308_4)
    injection hv308_4 with hva_ hvn_ hvc_
    rw [hva_] at ge308_4
    rw [hvc_] at ul308_4
    have HL308_4 := am (show Kd.V (Kd.int .i64) 3 _ w.heap.size _ _ ((rd_T34 l0_0 x6_1).f4) from Kd.V_mk ul308_4 ge308_4)
    clear hva_ hvn_ hvc_ ge308_4 ul308_4
    clear hcc308 hce308
    have HR308_4 := am hi308_4
    have HC308_4 := am hl308_4
    clear hi308_4 hl308_4
    replace p308 := eq_true p308
    replace q308 := eq_true q308
    go_wp2_with (first | ((with_reducible refine gate_callee (f := 67) rfl ?_); refine goesL_ (some 24) rfl rfl Tryz.func67 (by kernel_rfl) rfl #[.agg #[.int .i64 ((rd_T34 l0_0 x6_1).f0), .int .i64 ((rd_T34 l0_0 x6_1).f1), .string ((rd_T34 l0_0 x6_1).f2), .string ((rd_T34 l0_0 x6_1).f3), .slice A308_4 ((rd_T34 l0_0 x6_1).f4).length c308_4, .string ((rd_T34 l0_0 x6_1).f5)]] rfl (by (try simp only [mT, mC, mN]); first | done | rfl) ?_; (with_reducible refine (Zcn.calls ((rd_T34 l0_0 x6_1).f0) ((rd_T34 l0_0 x6_1).f1) ((rd_T34 l0_0 x6_1).f2) ((rd_T34 l0_0 x6_1).f3) _ _ ((rd_T34 l0_0 x6_1).f4) ((rd_T34 l0_0 x6_1).f5) t309 t310 true _ ?side1 ?side2 A10.out).mono ?_); (case side1 => exact vC HR308_4.out); (case side2 => exact HC308_4.out); rintro e w15 ⟨rfl, hb⟩; refine ⟨_, rfl, ?_⟩; replace HO_307000 := kV HO_307000.out hb; replace HL308_4 := kV HL308_4.out hb; replace BK306 := kb BK306.out hb; replace BK307 := kb BK307.out hb; replace HR308_4 := kC HR308_4.out hb; replace HB := bs HB.out hb; (try clear hb); (try clear hb2); (try clear hk); (try clear hi); obtain ⟨hcz16_0, hfz16_0⟩ := bk1 BK306.out; have p312 : 0 ≤ (x6_1 : Int) := od (by with_reducible assumption); have q312 : x6_1 < (l0_0.length : Int) := od (by with_reducible assumption); obtain ⟨ad312, A312_4, c312_4, e312, hx312_0, hx312_1, hx312_2, hx312_3, hx312_4, hx312_5, hl312_4, hi312_4⟩ := at_T34 (Kd.V_reads' HO_307000.out).2.2 x6_1 p312 q312; obtain rfl : ad308 = ad312 := (by injection e312); obtain ⟨ce312, hce312, hMe312, hcc312⟩ := Kd.V_get HO_307000.out z34 x6_1 p312 (by first | exact q312 | exact od (by with_reducible assumption) | (have e_ := (Kd.V_reads' HO_307000.out).1; omega)); obtain ⟨ua312_4, uc312_4, rfl, ul312_4, ge312_4⟩ := k34_openF hMe312; have hv312_4 := hcc312 4 _ rfl; rw [add_field _ _ 4 (by omega)] at hv312_4; replace hv312_4 := Option.some.inj (hv312_4.symm.trans hx312_4); injection hv312_4 with hva_ hvn_ hvc_; rw [hva_] at ge312_4; rw [hvc_] at ul312_4; have HL312_4 := am (show Kd.V (Kd.int .i64) 3 _ w.heap.size _ _ ((rd_T34 l0_0 x6_1).f4) from Kd.V_mk ul312_4 ge312_4); clear hva_ hvn_ hvc_ ge312_4 ul312_4; clear hcc312 hce312; have HR312_4 := am hi312_4; have HC312_4 := am hl312_4; clear hi312_4 hl312_4; replace p312 := eq_true p312; replace q312 := eq_true q312; obtain ⟨hcz17_0, hcz17_1, hcz17_2, hcz17_3, hcz17_4, hcz17_5, hfz17_0, hfz17_1, hfz17_2, hfz17_3, hfz17_4, hfz17_5⟩ := bk6 BK307.out))
    refine bodyPost_ret (results_ct rfl _ _ gb307 34 #[.int .i64 ((rd_T34 l0_0 x6_1).f0), .int .i64 ((rd_T34 l0_0 x6_1).f1), .string ((rd_T34 l0_0 x6_1).f2), .string ((rd_T34 l0_0 x6_1).f3), .slice A312_4 ((rd_T34 l0_0 x6_1).f4).length c312_4, .string ((rd_T34 l0_0 x6_1).f5)] (0, 0) _ rfl (by exact (vt (bp (vt (bp (vt (bp (vt (bp (vt (bp (vt (bp (vt BK307.out) 0)) 1)) 2)) 3)) 4)) 5)).trans rfl) Tryz.underlying34 rfl (by kernel_rfl)) rfl ?_
    exact ⟨_, by rfl, vV (Kd.V_mono (fV6 gb307 (Kd.V_mono HL312_4.out (fun k_ hk => (⟨hk, hk.2.2⟩ : _ ∧ k_ ≠ gb307))) (.int .i64 ((rd_T34 l0_0 x6_1).f0)) (.int .i64 ((rd_T34 l0_0 x6_1).f1)) (.string ((rd_T34 l0_0 x6_1).f2)) (.string ((rd_T34 l0_0 x6_1).f3)) (.slice A312_4 ((rd_T34 l0_0 x6_1).f4).length c312_4) (.string ((rd_T34 l0_0 x6_1).f5))) (fun _ hk => hk.1.1)), vb HB.out⟩
   rw [if_neg c12] at H
   have c12b0 : decide (t309 ≤ a1) = false := df c12
   clear c12
   have H' := am H
   clear H
   have hnb18 := NB306_307.out
   have hnc18 := NB307_306.out
   obtain ⟨hcz19_0, hfz19_0⟩ := bk1 BK306.out
   have p308 : 0 ≤ (x6_1 : Int) := od (by with_reducible assumption)
   have q308 : x6_1 < (l0_0.length : Int) := od (by with_reducible assumption)
   obtain ⟨ad308, A308_4, c308_4, e308, hx308_0, hx308_1, hx308_2, hx308_3, hx308_4, hx308_5, hl308_4, hi308_4⟩ := at_T34 (Kd.V_reads' HO_307000.out).2.2 x6_1 p308 q308
   cases e308
   obtain ⟨ce308, hce308, hMe308, hcc308⟩ := Kd.V_get HO_307000.out z34 x6_1 p308 (by first | exact q308 | exact od (by with_reducible assumption) | (have e_ := (Kd.V_reads' HO_307000.out).1; omega))
   obtain ⟨ua308_4, uc308_4, rfl, ul308_4, ge308_4⟩ := k34_openF hMe308
   have hv308_4 := hcc308 4 _ rfl
   rw [add_field _ _ 4 (by omega)] at hv308_4
   replace hv308_4 := Option.some.inj (hv308_4.symm.trans hx308_4)
   injection hv308_4 with hva_ hvn_ hvc_
   rw [hva_] at ge308_4
   rw [hvc_] at ul308_4
   have HL308_4 := am (show Kd.V (Kd.int .i64) 3 _ w.heap.size _ _ ((rd_T34 l0_0 x6_1).f4) from Kd.V_mk ul308_4 ge308_4)
   clear hva_ hvn_ hvc_ ge308_4 ul308_4
   clear hcc308 hce308
   have HR308_4 := am hi308_4
   have HC308_4 := am hl308_4
   clear hi308_4 hl308_4
   replace p308 := eq_true p308
   replace q308 := eq_true q308
   go_wp2_with (first | ((with_reducible refine gate_callee (f := 67) rfl ?_); refine goesL_ (some 24) rfl rfl Tryz.func67 (by kernel_rfl) rfl #[.agg #[.int .i64 ((rd_T34 l0_0 x6_1).f0), .int .i64 ((rd_T34 l0_0 x6_1).f1), .string ((rd_T34 l0_0 x6_1).f2), .string ((rd_T34 l0_0 x6_1).f3), .slice A308_4 ((rd_T34 l0_0 x6_1).f4).length c308_4, .string ((rd_T34 l0_0 x6_1).f5)]] rfl (by (try simp only [mT, mC, mN]); first | done | rfl) ?_; (with_reducible refine (Zcn.calls ((rd_T34 l0_0 x6_1).f0) ((rd_T34 l0_0 x6_1).f1) ((rd_T34 l0_0 x6_1).f2) ((rd_T34 l0_0 x6_1).f3) _ _ ((rd_T34 l0_0 x6_1).f4) ((rd_T34 l0_0 x6_1).f5) t309 t310 true _ ?side1 ?side2 A10.out).mono ?_); (case side1 => exact vC HR308_4.out); (case side2 => exact HC308_4.out); rintro e w20 ⟨rfl, hb⟩; refine ⟨_, rfl, ?_⟩; replace HO_307000 := kV HO_307000.out hb; replace HL308_4 := kV HL308_4.out hb; replace BK306 := kb BK306.out hb; replace BK307 := kb BK307.out hb; replace HR308_4 := kC HR308_4.out hb; replace HB := bs HB.out hb; (try clear hb)))
   go_roundg k1
   case measure => have := HK1.out; omega
   case rel => exact ⟨(wrap64 (x6_1 - 1)), (x308000_1), (x308001_1), (x308002_1), (x308003_1), (x308005_1), (by first | rfl | (simp; done) | simp [*]), H', ⟨by have := HK1.out; omega⟩, ⟨vV HO_307000.out⟩, ⟨vk BK306.out⟩, ⟨vk BK307.out⟩, ⟨vb HB.out⟩⟩
def Zbn.l0 : Nat → Int → List (S34) → Option (ByteArray × Bool)
 | 0, _, _ => none
 | k + 1, x1, x314000 => (Zax.f k x314000 x1).bind fun bt314 => (if bt314.2.2.2.2.2.2 = true then (if bt314.1 = 4 then (some (bt314.2.2.1, true)) else ((Zcn.f bt314.1 bt314.2.1 bt314.2.2.1 bt314.2.2.2.1 bt314.2.2.2.2.1 bt314.2.2.2.2.2.1).bind fun bt324 => ((Zbx.f bt314.2.2.1).bind fun t327 => (if (wrap64 (x1 - bt324.1)) ≥ bt324.2.1 then (some ((⟨#[]⟩ : ByteArray), false)) else (if t327 ≥ bt324.1 then (some ((⟨#[]⟩ : ByteArray), false)) else (Zbn.l0 k t327 x314000)))))) else (some ((⟨#[]⟩ : ByteArray), false)))
def Zbn.f (k : Nat) (l0_0 : List (S34)) (a1 : Int) : Option (ByteArray × Bool) := Zbn.l0 k a1 l0_0
theorem Zbn.calls (k : Nat) (A0_0 : Option Addr) (c0_0 : Nat) (l0_0 : List (S34)) (a1 : Int) (r1 : ByteArray) (r2 : Bool) (w : World) (hr0_0 : Kd.C k34 w A0_0 l0_0.length l0_0) (hc0_0 : l0_0.length ≤ c0_0) (h : Zbn.f k l0_0 a1 = some (r1, r2)) :
  Calls Tryz.prog 34 #[.agg #[.slice A0_0 l0_0.length c0_0], .int .i64 a1] w fun e w' => e = .returned (.tuple #[.string r1, .bool r2]) ∧ Below w.heap.size w w' := by
 have hu40 := Tryz.underlying40
 have hu34 := Tryz.underlying34
 have HR0_0 := am hr0_0
 have HC0_0 := am hc0_0
 clear hr0_0 hc0_0
 have HB := am (Below.refl w.heap.size w)
 have H : (Zbn.l0 k a1 l0_0) = some (r1, r2) := h
 clear h
 have H' := am H
 clear H
 go_enter Tryz.func34, Tryz.ntmps34
 go_wp2_with (first | ((with_reducible refine gate_dst (N := 2) rfl ?_); refine box_event ?hg (N := 2) ?hd (cs := #[.slice A0_0 l0_0.length c0_0]) (t := 40) ?hr ?_; (case hd => rfl); (case hg => rfl); (case hr => go_simp <;> rfl); intro gb313 hg w3 hbox hb; have BK313 := am hbox; have GW313 := gef hg HB.out; have GE313 := gef hg HB.out; replace HB := bs HB.out hb; clear hb hbox hg))
 go_loopg [1] k (fun kq v1 w' => ∃ (x1_1 : Int), v1 = .int .i64 x1_1 ∧ Aside0 (Zbn.l0 kq x1_1 l0_0 = some (r1, r2)) ∧ Aside0 (kq ≤ k) ∧ Aside0 (w'.heap[gb313]? = some (.cells #[(.slice A0_0 l0_0.length c0_0)] 40 (0, 0))) ∧ Aside0 (Below w.heap.size w w'))
 case atStart => exact ⟨(a1), (by first | rfl | (simp; done) | simp [*]), H', ⟨Nat.le_refl _⟩, ⟨vk BK313.out⟩, ⟨vb HB.out⟩⟩
 case round =>
  clear H'
  (try clear p2); (try clear c3)
  obtain ⟨x1_1, rfl, HA, HK1, BK313, HB⟩ := hrel
  cases gk with
  | zero => exact absurd HA.out (by simp [Zbn.l0])
  | succ k1 =>
   have H := HA.out
   clear HA
   simp only [Zbn.l0] at H
   replace H := be H
   obtain ⟨⟨t314, t315, t316, t317, t318, t321, t322⟩, A40, H⟩ := H
   try dsimp only at H
   have A4 := am A40
   clear A40
   by_cases c5 : t322 = true
   rotate_left
   ·replace c5 := Bool.eq_false_iff.mpr c5
    subst c5
    rw [if_neg (show ¬ (false = true) by decide)] at H
    simp only [Option.some.injEq, Prod.mk.injEq] at H
    obtain ⟨rfl, rfl⟩ := H
    obtain ⟨hcz44_0, hfz44_0⟩ := bk1 BK313.out
    go_wp2_with (first | ((with_reducible refine gate_callee (f := 66) rfl ?_); refine goesL_ (some 15) rfl rfl Tryz.func66 (by kernel_rfl) rfl #[.agg #[.slice A0_0 l0_0.length c0_0], .int .i64 x1_1] rfl (by (try simp only [mT, mC, mN]); first | done | rfl) ?_; (with_reducible refine (Zax.calls k1 (fun k_ => k_ < w.heap.size) _ _ l0_0 x1_1 t314 t315 t316 t317 t318 t321 false _ ?side1 A4.out).mono ?_); (case side1 => exact Kd.V_mk HC0_0.out (Kd.F_below (Kd.C_F k34_heap HR0_0.out) (vb HB.out))); rintro e w45 ⟨v319, rfl, ho0, hb⟩; refine ⟨_, rfl, ?_⟩; have HO320 := am (Kd.V_lower (Kd.V_mono (ok' := fun k_ => k_ ≠ gb313) ho0 (fun k_ hk_ => Or.elim hk_ (fun hs_ => fun e_ => Nat.not_le.2 hs_ (by rw [e_]; exact GW313.out)) (fun hn_ => (Kd.freshB (g := gb313) (o := .cells #[.slice A0_0 l0_0.length c0_0] 40 (0, 0)) (vk BK313.out) k_ hn_)))) (below_size (vb HB.out))); replace BK313 := kb BK313.out hb; replace HB := bs HB.out hb; (try clear hb)) | ((with_reducible refine gate_dst (N := 6) rfl ?_); refine box_event ?hg (N := 6) ?hd (cs := #[.int .i64 0, .int .i64 0, .string (⟨#[]⟩ : ByteArray), .string (⟨#[]⟩ : ByteArray), .slice none 0 0, .string (⟨#[]⟩ : ByteArray)]) (t := 34) ?hr ?_; (case hd => rfl); (case hg => rfl); (case hr => go_simp <;> rfl); intro gb323 hg w46 hbox hb; replace HO320 := eV HO320.out hg hb; have BK323 := am hbox; have GW323 := gef hg HB.out; have GE323 := gef hg HB.out; replace HB := bs HB.out hb; have NB313_323 := nl hg BK313.out; have NB323_313 := ng hg BK313.out; replace BK313 := kb BK313.out hb; clear hb hbox hg; have hnb47 := NB323_313.out; have hnc47 := NB313_323.out; obtain ⟨hcz48_0, hcz48_1, hcz48_2, hcz48_3, hcz48_4, hcz48_5, hfz48_0, hfz48_1, hfz48_2, hfz48_3, hfz48_4, hfz48_5⟩ := bk6 BK323.out; obtain ⟨Ao49, co49, eo49⟩ := Kd.V_slice HO320.out; subst eo49))
    go_ret2
    exact ⟨by rfl, vb HB.out⟩
   subst c5
   rw [if_pos rfl] at H
   by_cases c6 : t314 = 4
   ·rw [if_pos c6] at H
    have c6b0 : (t314 == 4) = true := beq_iff_eq.mpr c6
    have c6b1 : (t314 != 4) = false := bne_eq_false_iff_eq.mpr c6
    clear c6
    simp only [Option.some.injEq, Prod.mk.injEq] at H
    obtain ⟨rfl, rfl⟩ := H
    obtain ⟨hcz7_0, hfz7_0⟩ := bk1 BK313.out
    go_wp2_with (first | ((with_reducible refine gate_callee (f := 66) rfl ?_); refine goesL_ (some 15) rfl rfl Tryz.func66 (by kernel_rfl) rfl #[.agg #[.slice A0_0 l0_0.length c0_0], .int .i64 x1_1] rfl (by (try simp only [mT, mC, mN]); first | done | rfl) ?_; (with_reducible refine (Zax.calls k1 (fun k_ => k_ < w.heap.size) _ _ l0_0 x1_1 t314 t315 t316 t317 t318 t321 true _ ?side1 A4.out).mono ?_); (case side1 => exact Kd.V_mk HC0_0.out (Kd.F_below (Kd.C_F k34_heap HR0_0.out) (vb HB.out))); rintro e w8 ⟨v319, rfl, ho0, hb⟩; refine ⟨_, rfl, ?_⟩; have HO320 := am (Kd.V_lower (Kd.V_mono (ok' := fun k_ => k_ ≠ gb313) ho0 (fun k_ hk_ => Or.elim hk_ (fun hs_ => fun e_ => Nat.not_le.2 hs_ (by rw [e_]; exact GW313.out)) (fun hn_ => (Kd.freshB (g := gb313) (o := .cells #[.slice A0_0 l0_0.length c0_0] 40 (0, 0)) (vk BK313.out) k_ hn_)))) (below_size (vb HB.out))); replace BK313 := kb BK313.out hb; replace HB := bs HB.out hb; (try clear hb)) | ((with_reducible refine gate_dst (N := 6) rfl ?_); refine box_event ?hg (N := 6) ?hd (cs := #[.int .i64 0, .int .i64 0, .string (⟨#[]⟩ : ByteArray), .string (⟨#[]⟩ : ByteArray), .slice none 0 0, .string (⟨#[]⟩ : ByteArray)]) (t := 34) ?hr ?_; (case hd => rfl); (case hg => rfl); (case hr => go_simp <;> rfl); intro gb323 hg w9 hbox hb; replace HO320 := eV HO320.out hg hb; have BK323 := am hbox; have GW323 := gef hg HB.out; have GE323 := gef hg HB.out; replace HB := bs HB.out hb; have NB313_323 := nl hg BK313.out; have NB323_313 := ng hg BK313.out; replace BK313 := kb BK313.out hb; clear hb hbox hg; have hnb10 := NB323_313.out; have hnc10 := NB313_323.out; obtain ⟨hcz11_0, hcz11_1, hcz11_2, hcz11_3, hcz11_4, hcz11_5, hfz11_0, hfz11_1, hfz11_2, hfz11_3, hfz11_4, hfz11_5⟩ := bk6 BK323.out; obtain ⟨Ao12, co12, eo12⟩ := Kd.V_slice HO320.out; subst eo12))
    go_ret2
    exact ⟨by rfl, vb HB.out⟩
   rw [if_neg c6] at H
   have c6b0 : (t314 == 4) = false := beq_eq_false_iff_ne.mpr c6
   have c6b1 : (t314 != 4) = true := bne_iff_ne.mpr c6
   replace H := be H
   obtain ⟨⟨t324, t325, t326⟩, A130, H⟩ := H
   try dsimp only at H
   have A13 := am A130
   clear A130
   replace H := be H
   obtain ⟨t327, A140, H⟩ := H
   try dsimp only at H
   have A14 := am A140
   clear A140
   by_cases c15 : (wrap64 (x1_1 - t324)) ≥ t325
   ·rw [if_pos c15] at H
    have c15b0 : decide (t325 ≤ (wrap64 (x1_1 - t324))) = true := de c15
    clear c15
    simp only [Option.some.injEq, Prod.mk.injEq] at H
    obtain ⟨rfl, rfl⟩ := H
    obtain ⟨hcz16_0, hfz16_0⟩ := bk1 BK313.out
    go_wp2_with (first | ((with_reducible refine gate_callee (f := 66) rfl ?_); refine goesL_ (some 15) rfl rfl Tryz.func66 (by kernel_rfl) rfl #[.agg #[.slice A0_0 l0_0.length c0_0], .int .i64 x1_1] rfl (by (try simp only [mT, mC, mN]); first | done | rfl) ?_; (with_reducible refine (Zax.calls k1 (fun k_ => k_ < w.heap.size) _ _ l0_0 x1_1 t314 t315 t316 t317 t318 t321 true _ ?side1 A4.out).mono ?_); (case side1 => exact Kd.V_mk HC0_0.out (Kd.F_below (Kd.C_F k34_heap HR0_0.out) (vb HB.out))); rintro e w17 ⟨v319, rfl, ho0, hb⟩; refine ⟨_, rfl, ?_⟩; have HO320 := am (Kd.V_lower (Kd.V_mono (ok' := fun k_ => k_ ≠ gb313) ho0 (fun k_ hk_ => Or.elim hk_ (fun hs_ => fun e_ => Nat.not_le.2 hs_ (by rw [e_]; exact GW313.out)) (fun hn_ => (Kd.freshB (g := gb313) (o := .cells #[.slice A0_0 l0_0.length c0_0] 40 (0, 0)) (vk BK313.out) k_ hn_)))) (below_size (vb HB.out))); replace BK313 := kb BK313.out hb; replace HB := bs HB.out hb; (try clear hb)) | ((with_reducible refine gate_dst (N := 6) rfl ?_); refine box_event ?hg (N := 6) ?hd (cs := #[.int .i64 0, .int .i64 0, .string (⟨#[]⟩ : ByteArray), .string (⟨#[]⟩ : ByteArray), .slice none 0 0, .string (⟨#[]⟩ : ByteArray)]) (t := 34) ?hr ?_; (case hd => rfl); (case hg => rfl); (case hr => go_simp <;> rfl); intro gb323 hg w18 hbox hb; replace HO320 := eV HO320.out hg hb; have BK323 := am hbox; have GW323 := gef hg HB.out; have GE323 := gef hg HB.out; replace HB := bs HB.out hb; have NB313_323 := nl hg BK313.out; have NB323_313 := ng hg BK313.out; replace BK313 := kb BK313.out hb; clear hb hbox hg; have hnb19 := NB323_313.out; have hnc19 := NB313_323.out; obtain ⟨hcz20_0, hcz20_1, hcz20_2, hcz20_3, hcz20_4, hcz20_5, hfz20_0, hfz20_1, hfz20_2, hfz20_3, hfz20_4, hfz20_5⟩ := bk6 BK323.out; obtain ⟨Ao21, co21, eo21⟩ := Kd.V_slice HO320.out; subst eo21) | ((with_reducible refine gate_callee (f := 67) rfl ?_); refine goesL_ (some 27) rfl rfl Tryz.func67 (by kernel_rfl) rfl #[.agg #[.int .i64 t314, .int .i64 t315, .string t316, .string t317, .slice Ao21 t318.length co21, .string t321]] rfl (by (try simp only [mT, mC, mN]); first | done | rfl) ?_; (with_reducible refine (Zcn.calls t314 t315 t316 t317 _ _ t318 t321 t324 t325 t326 _ ?side1 ?side2 A13.out).mono ?_); (case side1 => refine (Kd.V_reads' (e := 3) (base := w.heap.size) (ok := fun k_ => (k_ ≠ gb313 ∧ k_ ≠ gb323)) (n := t318.length) (c := co21) ?_).2.2; exact (vV (Kd.V_mono (fV6 gb323 (Kd.V_mono HO320.out (fun k_ hk => (⟨hk, hk.2⟩ : _ ∧ k_ ≠ gb323))) (.int .i64 t314) (.int .i64 t315) (.string t316) (.string t317) (.slice Ao21 t318.length co21) (.string t321)) (fun _ h_ => h_.1)))); (case side2 => exact (Kd.V_reads' HO320.out).2.1); rintro e w22 ⟨rfl, hb⟩; refine ⟨_, rfl, ?_⟩; replace HO320 := am (Kd.V_below (vV (Kd.V_mono (fV6 gb323 (Kd.V_mono HO320.out (fun k_ hk => (⟨hk, hk.2⟩ : _ ∧ k_ ≠ gb323))) (.int .i64 t314) (.int .i64 t315) (.string t316) (.string t317) (.slice Ao21 t318.length co21) (.string t321)) (fun _ h_ => h_.1))) hb); replace BK313 := am (blk_below (g := gb313) (o := .cells #[.slice A0_0 l0_0.length c0_0] 40 (0, 0)) (by exact vt (bf (vt (bf (vt (bf (vt (bf (vt (bf (vt (bf (vt BK313.out) NB313_323.out)) NB313_323.out)) NB313_323.out)) NB313_323.out)) NB313_323.out)) NB313_323.out)) hb); replace BK323 := am (blk_below (g := gb323) (o := .cells #[.int .i64 t314, .int .i64 t315, .string t316, .string t317, .slice Ao21 t318.length co21, .string t321] 34 (0, 0)) (by exact (vt (bp (vt (bp (vt (bp (vt (bp (vt (bp (vt (bp (vt BK323.out) 0)) 1)) 2)) 3)) 4)) 5)).trans rfl) hb); replace HB := bs HB.out hb; (try clear hb); (try clear hb2); (try clear hk); (try clear hi); obtain ⟨hcz23_0, hcz23_1, hcz23_2, hcz23_3, hcz23_4, hcz23_5, hfz23_0, hfz23_1, hfz23_2, hfz23_3, hfz23_4, hfz23_5⟩ := bk6 BK323.out) | ((with_reducible refine gate_callee (f := 44) rfl ?_); refine goesL_ (some 33) rfl rfl Tryz.func44 (by kernel_rfl) rfl #[.string t316] rfl (by (try simp only [mT, mC, mN]); first | done | rfl) ?_; (with_reducible refine (Zbx.calls t316 t327 _ A14.out).mono ?_); rintro e w24 ⟨rfl, hb⟩; refine ⟨_, rfl, ?_⟩; replace HO320 := kV HO320.out hb; replace BK313 := kb BK313.out hb; replace BK323 := kb BK323.out hb; replace HB := bs HB.out hb; (try clear hb)))
    go_ret2
    exact ⟨by rfl, vb HB.out⟩
   rw [if_neg c15] at H
   have c15b0 : decide (t325 ≤ (wrap64 (x1_1 - t324))) = false := df c15
   clear c15
   by_cases c25 : t327 ≥ t324
   ·rw [if_pos c25] at H
    have c25b0 : decide (t324 ≤ t327) = true := de c25
    clear c25
    simp only [Option.some.injEq, Prod.mk.injEq] at H
    obtain ⟨rfl, rfl⟩ := H
    obtain ⟨hcz26_0, hfz26_0⟩ := bk1 BK313.out
    go_wp2_with (first | ((with_reducible refine gate_callee (f := 66) rfl ?_); refine goesL_ (some 15) rfl rfl Tryz.func66 (by kernel_rfl) rfl #[.agg #[.slice A0_0 l0_0.length c0_0], .int .i64 x1_1] rfl (by (try simp only [mT, mC, mN]); first | done | rfl) ?_; (with_reducible refine (Zax.calls k1 (fun k_ => k_ < w.heap.size) _ _ l0_0 x1_1 t314 t315 t316 t317 t318 t321 true _ ?side1 A4.out).mono ?_); (case side1 => exact Kd.V_mk HC0_0.out (Kd.F_below (Kd.C_F k34_heap HR0_0.out) (vb HB.out))); rintro e w27 ⟨v319, rfl, ho0, hb⟩; refine ⟨_, rfl, ?_⟩; have HO320 := am (Kd.V_lower (Kd.V_mono (ok' := fun k_ => k_ ≠ gb313) ho0 (fun k_ hk_ => Or.elim hk_ (fun hs_ => fun e_ => Nat.not_le.2 hs_ (by rw [e_]; exact GW313.out)) (fun hn_ => (Kd.freshB (g := gb313) (o := .cells #[.slice A0_0 l0_0.length c0_0] 40 (0, 0)) (vk BK313.out) k_ hn_)))) (below_size (vb HB.out))); replace BK313 := kb BK313.out hb; replace HB := bs HB.out hb; (try clear hb)) | ((with_reducible refine gate_dst (N := 6) rfl ?_); refine box_event ?hg (N := 6) ?hd (cs := #[.int .i64 0, .int .i64 0, .string (⟨#[]⟩ : ByteArray), .string (⟨#[]⟩ : ByteArray), .slice none 0 0, .string (⟨#[]⟩ : ByteArray)]) (t := 34) ?hr ?_; (case hd => rfl); (case hg => rfl); (case hr => go_simp <;> rfl); intro gb323 hg w28 hbox hb; replace HO320 := eV HO320.out hg hb; have BK323 := am hbox; have GW323 := gef hg HB.out; have GE323 := gef hg HB.out; replace HB := bs HB.out hb; have NB313_323 := nl hg BK313.out; have NB323_313 := ng hg BK313.out; replace BK313 := kb BK313.out hb; clear hb hbox hg; have hnb29 := NB323_313.out; have hnc29 := NB313_323.out; obtain ⟨hcz30_0, hcz30_1, hcz30_2, hcz30_3, hcz30_4, hcz30_5, hfz30_0, hfz30_1, hfz30_2, hfz30_3, hfz30_4, hfz30_5⟩ := bk6 BK323.out; obtain ⟨Ao31, co31, eo31⟩ := Kd.V_slice HO320.out; subst eo31) | ((with_reducible refine gate_callee (f := 67) rfl ?_); refine goesL_ (some 27) rfl rfl Tryz.func67 (by kernel_rfl) rfl #[.agg #[.int .i64 t314, .int .i64 t315, .string t316, .string t317, .slice Ao31 t318.length co31, .string t321]] rfl (by (try simp only [mT, mC, mN]); first | done | rfl) ?_; (with_reducible refine (Zcn.calls t314 t315 t316 t317 _ _ t318 t321 t324 t325 t326 _ ?side1 ?side2 A13.out).mono ?_); (case side1 => refine (Kd.V_reads' (e := 3) (base := w.heap.size) (ok := fun k_ => (k_ ≠ gb313 ∧ k_ ≠ gb323)) (n := t318.length) (c := co31) ?_).2.2; exact (vV (Kd.V_mono (fV6 gb323 (Kd.V_mono HO320.out (fun k_ hk => (⟨hk, hk.2⟩ : _ ∧ k_ ≠ gb323))) (.int .i64 t314) (.int .i64 t315) (.string t316) (.string t317) (.slice Ao31 t318.length co31) (.string t321)) (fun _ h_ => h_.1)))); (case side2 => exact (Kd.V_reads' HO320.out).2.1); rintro e w32 ⟨rfl, hb⟩; refine ⟨_, rfl, ?_⟩; replace HO320 := am (Kd.V_below (vV (Kd.V_mono (fV6 gb323 (Kd.V_mono HO320.out (fun k_ hk => (⟨hk, hk.2⟩ : _ ∧ k_ ≠ gb323))) (.int .i64 t314) (.int .i64 t315) (.string t316) (.string t317) (.slice Ao31 t318.length co31) (.string t321)) (fun _ h_ => h_.1))) hb); replace BK313 := am (blk_below (g := gb313) (o := .cells #[.slice A0_0 l0_0.length c0_0] 40 (0, 0)) (by exact vt (bf (vt (bf (vt (bf (vt (bf (vt (bf (vt (bf (vt BK313.out) NB313_323.out)) NB313_323.out)) NB313_323.out)) NB313_323.out)) NB313_323.out)) NB313_323.out)) hb); replace BK323 := am (blk_below (g := gb323) (o := .cells #[.int .i64 t314, .int .i64 t315, .string t316, .string t317, .slice Ao31 t318.length co31, .string t321] 34 (0, 0)) (by exact (vt (bp (vt (bp (vt (bp (vt (bp (vt (bp (vt (bp (vt BK323.out) 0)) 1)) 2)) 3)) 4)) 5)).trans rfl) hb); replace HB := bs HB.out hb; (try clear hb); (try clear hb2); (try clear hk); (try clear hi); obtain ⟨hcz33_0, hcz33_1, hcz33_2, hcz33_3, hcz33_4, hcz33_5, hfz33_0, hfz33_1, hfz33_2, hfz33_3, hfz33_4, hfz33_5⟩ := bk6 BK323.out) | ((with_reducible refine gate_callee (f := 44) rfl ?_); refine goesL_ (some 33) rfl rfl Tryz.func44 (by kernel_rfl) rfl #[.string t316] rfl (by (try simp only [mT, mC, mN]); first | done | rfl) ?_; (with_reducible refine (Zbx.calls t316 t327 _ A14.out).mono ?_); rintro e w34 ⟨rfl, hb⟩; refine ⟨_, rfl, ?_⟩; replace HO320 := kV HO320.out hb; replace BK313 := kb BK313.out hb; replace BK323 := kb BK323.out hb; replace HB := bs HB.out hb; (try clear hb)))
    go_ret2
    exact ⟨by rfl, vb HB.out⟩
   rw [if_neg c25] at H
   have c25b0 : decide (t324 ≤ t327) = false := df c25
   clear c25
   have H' := am H
   clear H
   obtain ⟨hcz35_0, hfz35_0⟩ := bk1 BK313.out
   go_wp2_with (first | ((with_reducible refine gate_callee (f := 66) rfl ?_); refine goesL_ (some 15) rfl rfl Tryz.func66 (by kernel_rfl) rfl #[.agg #[.slice A0_0 l0_0.length c0_0], .int .i64 x1_1] rfl (by (try simp only [mT, mC, mN]); first | done | rfl) ?_; (with_reducible refine (Zax.calls k1 (fun k_ => k_ < w.heap.size) _ _ l0_0 x1_1 t314 t315 t316 t317 t318 t321 true _ ?side1 A4.out).mono ?_); (case side1 => exact Kd.V_mk HC0_0.out (Kd.F_below (Kd.C_F k34_heap HR0_0.out) (vb HB.out))); rintro e w36 ⟨v319, rfl, ho0, hb⟩; refine ⟨_, rfl, ?_⟩; have HO320 := am (Kd.V_lower (Kd.V_mono (ok' := fun k_ => k_ ≠ gb313) ho0 (fun k_ hk_ => Or.elim hk_ (fun hs_ => fun e_ => Nat.not_le.2 hs_ (by rw [e_]; exact GW313.out)) (fun hn_ => (Kd.freshB (g := gb313) (o := .cells #[.slice A0_0 l0_0.length c0_0] 40 (0, 0)) (vk BK313.out) k_ hn_)))) (below_size (vb HB.out))); replace BK313 := kb BK313.out hb; replace HB := bs HB.out hb; (try clear hb)) | ((with_reducible refine gate_dst (N := 6) rfl ?_); refine box_event ?hg (N := 6) ?hd (cs := #[.int .i64 0, .int .i64 0, .string (⟨#[]⟩ : ByteArray), .string (⟨#[]⟩ : ByteArray), .slice none 0 0, .string (⟨#[]⟩ : ByteArray)]) (t := 34) ?hr ?_; (case hd => rfl); (case hg => rfl); (case hr => go_simp <;> rfl); intro gb323 hg w37 hbox hb; replace HO320 := eV HO320.out hg hb; have BK323 := am hbox; have GW323 := gef hg HB.out; have GE323 := gef hg HB.out; replace HB := bs HB.out hb; have NB313_323 := nl hg BK313.out; have NB323_313 := ng hg BK313.out; replace BK313 := kb BK313.out hb; clear hb hbox hg; have hnb38 := NB323_313.out; have hnc38 := NB313_323.out; obtain ⟨hcz39_0, hcz39_1, hcz39_2, hcz39_3, hcz39_4, hcz39_5, hfz39_0, hfz39_1, hfz39_2, hfz39_3, hfz39_4, hfz39_5⟩ := bk6 BK323.out; obtain ⟨Ao40, co40, eo40⟩ := Kd.V_slice HO320.out; subst eo40) | ((with_reducible refine gate_callee (f := 67) rfl ?_); refine goesL_ (some 27) rfl rfl Tryz.func67 (by kernel_rfl) rfl #[.agg #[.int .i64 t314, .int .i64 t315, .string t316, .string t317, .slice Ao40 t318.length co40, .string t321]] rfl (by (try simp only [mT, mC, mN]); first | done | rfl) ?_; (with_reducible refine (Zcn.calls t314 t315 t316 t317 _ _ t318 t321 t324 t325 t326 _ ?side1 ?side2 A13.out).mono ?_); (case side1 => refine (Kd.V_reads' (e := 3) (base := w.heap.size) (ok := fun k_ => (k_ ≠ gb313 ∧ k_ ≠ gb323)) (n := t318.length) (c := co40) ?_).2.2; exact (vV (Kd.V_mono (fV6 gb323 (Kd.V_mono HO320.out (fun k_ hk => (⟨hk, hk.2⟩ : _ ∧ k_ ≠ gb323))) (.int .i64 t314) (.int .i64 t315) (.string t316) (.string t317) (.slice Ao40 t318.length co40) (.string t321)) (fun _ h_ => h_.1)))); (case side2 => exact (Kd.V_reads' HO320.out).2.1); rintro e w41 ⟨rfl, hb⟩; refine ⟨_, rfl, ?_⟩; replace HO320 := am (Kd.V_below (vV (Kd.V_mono (fV6 gb323 (Kd.V_mono HO320.out (fun k_ hk => (⟨hk, hk.2⟩ : _ ∧ k_ ≠ gb323))) (.int .i64 t314) (.int .i64 t315) (.string t316) (.string t317) (.slice Ao40 t318.length co40) (.string t321)) (fun _ h_ => h_.1))) hb); replace BK313 := am (blk_below (g := gb313) (o := .cells #[.slice A0_0 l0_0.length c0_0] 40 (0, 0)) (by exact vt (bf (vt (bf (vt (bf (vt (bf (vt (bf (vt (bf (vt BK313.out) NB313_323.out)) NB313_323.out)) NB313_323.out)) NB313_323.out)) NB313_323.out)) NB313_323.out)) hb); replace BK323 := am (blk_below (g := gb323) (o := .cells #[.int .i64 t314, .int .i64 t315, .string t316, .string t317, .slice Ao40 t318.length co40, .string t321] 34 (0, 0)) (by exact (vt (bp (vt (bp (vt (bp (vt (bp (vt (bp (vt (bp (vt BK323.out) 0)) 1)) 2)) 3)) 4)) 5)).trans rfl) hb); replace HB := bs HB.out hb; (try clear hb); (try clear hb2); (try clear hk); (try clear hi); obtain ⟨hcz42_0, hcz42_1, hcz42_2, hcz42_3, hcz42_4, hcz42_5, hfz42_0, hfz42_1, hfz42_2, hfz42_3, hfz42_4, hfz42_5⟩ := bk6 BK323.out) | ((with_reducible refine gate_callee (f := 44) rfl ?_); refine goesL_ (some 33) rfl rfl Tryz.func44 (by kernel_rfl) rfl #[.string t316] rfl (by (try simp only [mT, mC, mN]); first | done | rfl) ?_; (with_reducible refine (Zbx.calls t316 t327 _ A14.out).mono ?_); rintro e w43 ⟨rfl, hb⟩; refine ⟨_, rfl, ?_⟩; replace HO320 := kV HO320.out hb; replace BK313 := kb BK313.out hb; replace BK323 := kb BK323.out hb; replace HB := bs HB.out hb; (try clear hb)))
   go_roundg k1
   case measure => have := HK1.out; omega
   case rel => exact ⟨(t327), (by first | rfl | (simp; done) | simp [*]), H', ⟨by have := HK1.out; omega⟩, ⟨vk BK313.out⟩, ⟨vb HB.out⟩⟩
def Zch.f (k : Nat) (l0 : List (S34)) (a1 : ByteArray) : Option ((List (S34)) × Int × Int) := (Zcu.f a1 66).bind fun t329 => (if t329 = true then ((Zcp.f k l0).bind fun t330 => ((Zbx.f a1).bind fun t333 => ((Zbn.f k t330 t333).bind fun bt335 => (if bt335.2 = true then (some (t330, t333, 0)) else (some (([] : List (S34)), 0, 8)))))) else (some (([] : List (S34)), 0, 6)))
theorem Zch.calls (k : Nat) (A0 : Option Addr) (c0 : Nat) (l0 : List (S34)) (a1 : ByteArray) (r1 : List (S34)) (r2 : Int) (r3 : Int) (w : World) (hr0 : Kd.C k34 w A0 l0.length l0) (hc0 : l0.length ≤ c0) (h : Zch.f k l0 a1 = some (r1, r2, r3)) :
  Calls Tryz.prog 20 #[.slice A0 l0.length c0, .string a1] w fun e w' => ∃ v0_ : Value, e = .returned (.tuple #[.agg #[v0_], .int .i64 r2, .int .i64 r3]) ∧ Kd.S k34 34 w' w.heap.size (fun _ => True) v0_ r1 ∧ Below w.heap.size w w' := by
 have hu40 := Tryz.underlying40
 have HR0 := am hr0
 have HC0 := am hc0
 clear hr0 hc0
 have HB := am (Below.refl w.heap.size w)
 have H : ((Zcu.f a1 66).bind fun t329 => (if t329 = true then ((Zcp.f k l0).bind fun t330 => ((Zbx.f a1).bind fun t333 => ((Zbn.f k t330 t333).bind fun bt335 => (if bt335.2 = true then (some (t330, t333, 0)) else (some (([] : List (S34)), 0, 8)))))) else (some (([] : List (S34)), 0, 6)))) = some (r1, r2, r3) := h
 clear h
 replace H := be H
 obtain ⟨t329, A30, H⟩ := H
 try dsimp only at H
 have A3 := am A30
 clear A30
 by_cases c4 : t329 = true
 rotate_left
 ·replace c4 := Bool.eq_false_iff.mpr c4
  subst c4
  rw [if_neg (show ¬ (false = true) by decide)] at H
  simp only [Option.some.injEq, Prod.mk.injEq] at H
  obtain ⟨rfl, rfl, rfl⟩ := H
  go_enter Tryz.func20, Tryz.ntmps20
  go_wp2_with (first | ((with_reducible refine gate_dst (N := 4) rfl ?_); refine box_event ?hg (N := 4) ?hd (cs := #[.slice none 0 0]) (t := 40) ?hr ?_; (case hd => rfl); (case hg => rfl); (case hr => go_simp <;> rfl); intro gb328 hg w30 hbox hb; have BK328 := am hbox; have GW328 := gef hg HB.out; have GE328 := gef hg HB.out; replace HB := bs HB.out hb; clear hb hbox hg) | ((with_reducible refine gate_callee (f := 42) rfl ?_); refine goesL_ (some 12) rfl rfl Tryz.func42 (by kernel_rfl) rfl #[.string a1, .int .u8 66] rfl (by (try simp only [mT, mC, mN]); first | done | rfl) ?_; (with_reducible refine (Zcu.calls a1 66 false _ A3.out).mono ?_); rintro e w31 ⟨rfl, hb⟩; refine ⟨_, rfl, ?_⟩; replace BK328 := kb BK328.out hb; replace HB := bs HB.out hb; (try clear hb); (try clear hb2); (try clear hk); (try clear hi); obtain ⟨hcz32_0, hfz32_0⟩ := bk1 BK328.out))
  refine bodyPost_ret (results_ctt rfl _ _ gb328 40 #[.slice none 0 0] (0, 0) _ rfl (by exact (vt (bp (vt BK328.out) 0)).trans rfl) Tryz.underlying40 rfl (by kernel_rfl)) rfl ?_
  exact ⟨_, by rfl, by first | exact Kd.S_nil _ _ _ _ _ | exact Kd.N_nil _ _ _ _ _ | exact Kd.V_nil _ _ _ _ _ | exact Kd.Q_nil _ _ _ _ _ | exact Kd.R_nil _ _ _ _ _, vb HB.out⟩
 subst c4
 rw [if_pos rfl] at H
 replace H := be H
 obtain ⟨t330, A50, H⟩ := H
 try dsimp only at H
 have A5 := am A50
 clear A50
 replace H := be H
 obtain ⟨t333, A60, H⟩ := H
 try dsimp only at H
 have A6 := am A60
 clear A60
 replace H := be H
 obtain ⟨⟨t335, t336⟩, A70, H⟩ := H
 try dsimp only at H
 have A7 := am A70
 clear A70
 by_cases c8 : t336 = true
 ·subst c8
  rw [if_pos rfl] at H
  simp only [Option.some.injEq, Prod.mk.injEq] at H
  obtain ⟨rfl, rfl, rfl⟩ := H
  go_enter Tryz.func20, Tryz.ntmps20
  go_wp2_with (first | ((with_reducible refine gate_dst (N := 4) rfl ?_); refine box_event ?hg (N := 4) ?hd (cs := #[.slice none 0 0]) (t := 40) ?hr ?_; (case hd => rfl); (case hg => rfl); (case hr => go_simp <;> rfl); intro gb328 hg w9 hbox hb; have BK328 := am hbox; have GW328 := gef hg HB.out; have GE328 := gef hg HB.out; replace HB := bs HB.out hb; clear hb hbox hg) | ((with_reducible refine gate_callee (f := 42) rfl ?_); refine goesL_ (some 12) rfl rfl Tryz.func42 (by kernel_rfl) rfl #[.string a1, .int .u8 66] rfl (by (try simp only [mT, mC, mN]); first | done | rfl) ?_; (with_reducible refine (Zcu.calls a1 66 true _ A3.out).mono ?_); rintro e w10 ⟨rfl, hb⟩; refine ⟨_, rfl, ?_⟩; replace BK328 := kb BK328.out hb; replace HB := bs HB.out hb; (try clear hb)) | ((with_reducible refine gate_callee (f := 43) rfl ?_); refine goesL_ (some 16) rfl rfl Tryz.func43 (by kernel_rfl) rfl #[.slice A0 l0.length c0] rfl (by (try simp only [mT, mC, mN]); first | done | rfl) ?_; (with_reducible refine (Zcp.calls k _ _ l0 t330 _ ?side1 ?side2 A5.out).mono ?_); (case side1 => exact vC (Kd.C_below HR0.out HB.out)); (case side2 => exact HC0.out); rintro e w11 ⟨v331, rfl, ho0, hb⟩; refine ⟨_, rfl, ?_⟩; have HO332 := am (Kd.S_lower ho0 (below_size (vb HB.out))); replace BK328 := kb BK328.out hb; replace HB := bs HB.out hb; (try clear hb)) | ((with_reducible refine gate_callee (f := 44) rfl ?_); refine goesL_ (some 18) rfl rfl Tryz.func44 (by kernel_rfl) rfl #[.string a1] rfl (by (try simp only [mT, mC, mN]); first | done | rfl) ?_; (with_reducible refine (Zbx.calls a1 t333 _ A6.out).mono ?_); rintro e w12 ⟨rfl, hb⟩; refine ⟨_, rfl, ?_⟩; replace HO332 := kS HO332.out hb; replace BK328 := kb BK328.out hb; replace HB := bs HB.out hb; (try clear hb)) | ((with_reducible refine gate_dst (N := 7) rfl ?_); refine box_event ?hg (N := 7) ?hd (cs := #[.slice none 0 0]) (t := 40) ?hr ?_; (case hd => rfl); (case hg => rfl); (case hr => go_simp <;> rfl); intro gb334 hg w13 hbox hb; replace HO332 := kS HO332.out hb; have BK334 := am hbox; have GW334 := gef hg HB.out; have GE334 := gef hg HB.out; replace HB := bs HB.out hb; have NB328_334 := nl hg BK328.out; have NB334_328 := ng hg BK328.out; replace BK328 := kb BK328.out hb; clear hb hbox hg; obtain ⟨Ao14, co14, eo14⟩ := Kd.S_slice HO332.out; subst eo14; have hnb15 := NB334_328.out; have hnc15 := NB328_334.out; obtain ⟨hcz16_0, hfz16_0⟩ := bk1 BK334.out) | ((with_reducible refine gate_callee (f := 34) rfl ?_); refine goesL_ (some 22) rfl rfl Tryz.func34 (by kernel_rfl) rfl #[.agg #[.slice Ao14 t330.length co14], .int .i64 t333] rfl (by (try simp only [mT, mC, mN]); first | done | rfl) ?_; (with_reducible refine (Zbn.calls k _ _ t330 t333 t335 true _ ?side1 ?side2 A7.out).mono ?_); (case side1 => refine (Kd.S_reads' (e := 34) (base := w.heap.size) (ok := fun k_ => True) (n := t330.length) (c := co14) ?_).2.2; exact (vS (Kd.S_mono (Kd.S_far (p := ⟨gb334, 0, none⟩) (Kd.S_types HO332.out BK334.out (by decide)) (fun _ hk => hk.2) (.slice Ao14 t330.length co14)) (fun _ h_ => h_.1)))); (case side2 => exact (Kd.S_reads' HO332.out).2.1); rintro e w17 ⟨rfl, hb⟩; refine ⟨_, rfl, ?_⟩; replace HO332 := am (Kd.S_below (vS (Kd.S_mono (Kd.S_far (p := ⟨gb334, 0, none⟩) (Kd.S_types HO332.out BK334.out (by decide)) (fun _ hk => hk.2) (.slice Ao14 t330.length co14)) (fun _ h_ => h_.1))) hb); replace BK328 := am (blk_below (g := gb328) (o := .cells #[.slice none 0 0] 40 (0, 0)) (by exact vt (bf (vt BK328.out) NB328_334.out)) hb); replace BK334 := am (blk_below (g := gb334) (o := .cells #[.slice Ao14 t330.length co14] 40 (0, 0)) (by exact (vt (bp (vt BK334.out) 0)).trans rfl) hb); replace HB := bs HB.out hb; (try clear hb); (try clear hb2); (try clear hk); (try clear hi); have hcz18_0 : w17.cell? ⟨gb334, 0, none⟩ = some (.slice Ao14 t330.length co14) := (blk_cell BK334.out 0).trans rfl; have hfz18_0 := blk_frozen BK334.out 0; obtain ⟨hcz19_0, hfz19_0⟩ := bk1 BK328.out))
  refine bodyPost_ret (results_ctt rfl _ _ gb328 40 #[.slice Ao14 t330.length co14] (0, 0) _ rfl (by exact (vt (bp (vt BK328.out) 0)).trans rfl) Tryz.underlying40 rfl (by kernel_rfl)) rfl ?_
  exact ⟨_, by rfl, vS (Kd.S_mono (Kd.S_far (p := ⟨gb328, 0, none⟩) (Kd.S_types HO332.out BK328.out (by decide)) (fun _ hk => hk.2) (.slice Ao14 t330.length co14)) (fun _ hk => trivial)), vb HB.out⟩
 replace c8 := Bool.eq_false_iff.mpr c8
 subst c8
 rw [if_neg (show ¬ (false = true) by decide)] at H
 simp only [Option.some.injEq, Prod.mk.injEq] at H
 obtain ⟨rfl, rfl, rfl⟩ := H
 go_enter Tryz.func20, Tryz.ntmps20
 go_wp2_with (first | ((with_reducible refine gate_dst (N := 4) rfl ?_); refine box_event ?hg (N := 4) ?hd (cs := #[.slice none 0 0]) (t := 40) ?hr ?_; (case hd => rfl); (case hg => rfl); (case hr => go_simp <;> rfl); intro gb328 hg w20 hbox hb; have BK328 := am hbox; have GW328 := gef hg HB.out; have GE328 := gef hg HB.out; replace HB := bs HB.out hb; clear hb hbox hg) | ((with_reducible refine gate_callee (f := 42) rfl ?_); refine goesL_ (some 12) rfl rfl Tryz.func42 (by kernel_rfl) rfl #[.string a1, .int .u8 66] rfl (by (try simp only [mT, mC, mN]); first | done | rfl) ?_; (with_reducible refine (Zcu.calls a1 66 true _ A3.out).mono ?_); rintro e w21 ⟨rfl, hb⟩; refine ⟨_, rfl, ?_⟩; replace BK328 := kb BK328.out hb; replace HB := bs HB.out hb; (try clear hb)) | ((with_reducible refine gate_callee (f := 43) rfl ?_); refine goesL_ (some 16) rfl rfl Tryz.func43 (by kernel_rfl) rfl #[.slice A0 l0.length c0] rfl (by (try simp only [mT, mC, mN]); first | done | rfl) ?_; (with_reducible refine (Zcp.calls k _ _ l0 t330 _ ?side1 ?side2 A5.out).mono ?_); (case side1 => exact vC (Kd.C_below HR0.out HB.out)); (case side2 => exact HC0.out); rintro e w22 ⟨v331, rfl, ho0, hb⟩; refine ⟨_, rfl, ?_⟩; have HO332 := am (Kd.S_lower ho0 (below_size (vb HB.out))); replace BK328 := kb BK328.out hb; replace HB := bs HB.out hb; (try clear hb)) | ((with_reducible refine gate_callee (f := 44) rfl ?_); refine goesL_ (some 18) rfl rfl Tryz.func44 (by kernel_rfl) rfl #[.string a1] rfl (by (try simp only [mT, mC, mN]); first | done | rfl) ?_; (with_reducible refine (Zbx.calls a1 t333 _ A6.out).mono ?_); rintro e w23 ⟨rfl, hb⟩; refine ⟨_, rfl, ?_⟩; replace HO332 := kS HO332.out hb; replace BK328 := kb BK328.out hb; replace HB := bs HB.out hb; (try clear hb)) | ((with_reducible refine gate_dst (N := 7) rfl ?_); refine box_event ?hg (N := 7) ?hd (cs := #[.slice none 0 0]) (t := 40) ?hr ?_; (case hd => rfl); (case hg => rfl); (case hr => go_simp <;> rfl); intro gb334 hg w24 hbox hb; replace HO332 := kS HO332.out hb; have BK334 := am hbox; have GW334 := gef hg HB.out; have GE334 := gef hg HB.out; replace HB := bs HB.out hb; have NB328_334 := nl hg BK328.out; have NB334_328 := ng hg BK328.out; replace BK328 := kb BK328.out hb; clear hb hbox hg; obtain ⟨Ao25, co25, eo25⟩ := Kd.S_slice HO332.out; subst eo25; have hnb26 := NB334_328.out; have hnc26 := NB328_334.out; obtain ⟨hcz27_0, hfz27_0⟩ := bk1 BK334.out) | ((with_reducible refine gate_callee (f := 34) rfl ?_); refine goesL_ (some 22) rfl rfl Tryz.func34 (by kernel_rfl) rfl #[.agg #[.slice Ao25 t330.length co25], .int .i64 t333] rfl (by (try simp only [mT, mC, mN]); first | done | rfl) ?_; (with_reducible refine (Zbn.calls k _ _ t330 t333 t335 false _ ?side1 ?side2 A7.out).mono ?_); (case side1 => refine (Kd.S_reads' (e := 34) (base := w.heap.size) (ok := fun k_ => True) (n := t330.length) (c := co25) ?_).2.2; exact (vS (Kd.S_mono (Kd.S_far (p := ⟨gb334, 0, none⟩) (Kd.S_types HO332.out BK334.out (by decide)) (fun _ hk => hk.2) (.slice Ao25 t330.length co25)) (fun _ h_ => h_.1)))); (case side2 => exact (Kd.S_reads' HO332.out).2.1); rintro e w28 ⟨rfl, hb⟩; refine ⟨_, rfl, ?_⟩; replace HO332 := am (Kd.S_below (vS (Kd.S_mono (Kd.S_far (p := ⟨gb334, 0, none⟩) (Kd.S_types HO332.out BK334.out (by decide)) (fun _ hk => hk.2) (.slice Ao25 t330.length co25)) (fun _ h_ => h_.1))) hb); replace BK328 := am (blk_below (g := gb328) (o := .cells #[.slice none 0 0] 40 (0, 0)) (by exact vt (bf (vt BK328.out) NB328_334.out)) hb); replace BK334 := am (blk_below (g := gb334) (o := .cells #[.slice Ao25 t330.length co25] 40 (0, 0)) (by exact (vt (bp (vt BK334.out) 0)).trans rfl) hb); replace HB := bs HB.out hb; (try clear hb); (try clear hb2); (try clear hk); (try clear hi); obtain ⟨hcz29_0, hfz29_0⟩ := bk1 BK328.out))
 refine bodyPost_ret (results_ctt rfl _ _ gb328 40 #[.slice none 0 0] (0, 0) _ rfl (by exact (vt (bp (vt BK328.out) 0)).trans rfl) Tryz.underlying40 rfl (by kernel_rfl)) rfl ?_
 exact ⟨_, by rfl, by first | exact Kd.S_nil _ _ _ _ _ | exact Kd.N_nil _ _ _ _ _ | exact Kd.V_nil _ _ _ _ _ | exact Kd.Q_nil _ _ _ _ _ | exact Kd.R_nil _ _ _ _ _, vb HB.out⟩
def Zam.l0 : Nat → Int → List (S34) → Int → Int → Option (List Int)
 | 0, _, _, _, _ => none
 | k + 1, x1, x8, x9, x10 => if x10 < x9 then (if 0 ≤ x10 then (if x10 < (x8.length : Int) then (if ((rd_T34 x8 x10).f0) = 5 then ((Zbx.f ((rd_T34 x8 x10).f2)).bind fun t340 => (if t340 = x1 then (some ((rd_T34 x8 x10).f4)) else (Zam.l0 k x1 x8 x9 (wrap64 (x10 + 1))))) else (Zam.l0 k x1 x8 x9 (wrap64 (x10 + 1)))) else (none)) else (none)) else (some ([] : List Int))
def Zam.f (k : Nat) (l0_0 : List (S34)) (a1 : Int) : Option (List Int) := Zam.l0 k a1 l0_0 (l0_0.length : Int) 0
theorem Zam.calls (k : Nat) (P0_0_ : Nat → Prop) (A0_0 : Option Addr) (c0_0 : Nat) (l0_0 : List (S34)) (a1 : Int) (r : List Int) (w : World) (hs0_0 : Kd.V k34 34 w w.heap.size (fun k_ => P0_0_ k_) (.slice A0_0 l0_0.length c0_0) l0_0) (h : Zam.f k l0_0 a1 = some r) :
  Calls Tryz.prog 101 #[.agg #[.slice A0_0 l0_0.length c0_0], .int .i64 a1] w fun e w' => ∃ v0_ : Value, e = .returned (v0_) ∧ Kd.V (Kd.int .i64) 3 w' w.heap.size (fun k_ => (P0_0_ k_ ∨ w.heap.size ≤ k_)) v0_ r ∧ Below w.heap.size w w' := by
 have hu40 := Tryz.underlying40
 have hu34 := Tryz.underlying34
 have HO0_0 := am (show Kd.V k34 34 w w.heap.size (fun k_ => (P0_0_ k_ ∨ w.heap.size ≤ k_)) (.slice A0_0 l0_0.length c0_0) l0_0 from Kd.V_mono hs0_0 (fun k_ hk => .inl hk))
 have HB := am (Below.refl w.heap.size w)
 have H : (Zam.l0 k a1 l0_0 (l0_0.length : Int) 0) = some r := h
 clear h
 have H' := am H
 clear H
 go_enter Tryz.func101, Tryz.ntmps101
 go_wp2_with (first | ((with_reducible refine gate_dst (N := 2) rfl ?_); refine box_event ?hg (N := 2) ?hd (cs := #[.slice A0_0 l0_0.length c0_0]) (t := 40) ?hr ?_; (case hd => rfl); (case hg => rfl); (case hr => go_simp <;> rfl); intro gb337 hg w3 hbox hb; replace HO0_0 := eV HO0_0.out hg hb; have BK337 := am hbox; have GW337 := gef hg HB.out; have GE337 := gef hg HB.out; replace HB := bs HB.out hb; clear hb hbox hg; obtain ⟨hcz4_0, hfz4_0⟩ := bk1 BK337.out))
 go_loopg [10] k (fun kq v10 w' => ∃ (x10_1 : Int), v10 = .int .i64 x10_1 ∧ Aside0 (Zam.l0 kq a1 l0_0 (l0_0.length : Int) x10_1 = some r) ∧ Aside0 (kq ≤ k) ∧ Aside0 (Kd.V k34 34 w' w.heap.size (fun k_ => (P0_0_ k_ ∨ w.heap.size ≤ k_) ∧ k_ ≠ gb337) (.slice A0_0 l0_0.length c0_0) l0_0) ∧ Aside0 (Kd.V k34 34 w' w.heap.size (fun k_ => (P0_0_ k_ ∨ w.heap.size ≤ k_) ∧ k_ ≠ gb337) (.slice A0_0 l0_0.length c0_0) l0_0) ∧ Aside0 (w'.heap[gb337]? = some (.cells #[(.slice A0_0 l0_0.length c0_0)] 40 (0, 0))) ∧ Aside0 (Below w.heap.size w w'))
 case atStart => exact ⟨(0), (by first | rfl | (simp; done) | simp [*]), H', ⟨Nat.le_refl _⟩, ⟨vV HO0_0.out⟩, ⟨vV HO0_0.out⟩, ⟨vk BK337.out⟩, ⟨vb HB.out⟩⟩
 case round =>
  clear H'
  (try clear c1); (try clear p2); (try clear hcz4_0); (try clear hfz4_0)
  obtain ⟨x10_1, rfl, HA, HK1, HO_8, HO_338000, BK337, HB⟩ := hrel
  cases gk with
  | zero => exact absurd HA.out (by simp [Zam.l0])
  | succ k1 =>
   have H := HA.out
   clear HA
   simp only [Zam.l0] at H
   by_cases c5 : x10_1 < (l0_0.length : Int)
   rotate_left
   ·rw [if_neg c5] at H
    have c5b0 : decide (x10_1 < (l0_0.length : Int)) = false := df c5
    clear c5
    obtain rfl := Option.some.inj H
    go_wp2
    go_ret
    exact ⟨_, by rfl, (Kd.V_nil _ _ _ _ _), vb HB.out⟩
   rw [if_pos c5] at H
   have c5b0 : decide (x10_1 < (l0_0.length : Int)) = true := de c5
   clear c5
   by_cases c6 : 0 ≤ x10_1
   rotate_left
   ·rw [if_neg c6] at H
    exact absurd H (by simp)
   rw [if_pos c6] at H
   have c6b0 : decide (0 ≤ x10_1) = true := de c6
   clear c6
   by_cases c7 : x10_1 < (l0_0.length : Int)
   rotate_left
   ·rw [if_neg c7] at H
    exact absurd H (by simp)
   rw [if_pos c7] at H
   have c7b0 : decide (x10_1 < (l0_0.length : Int)) = true := de c7
   clear c7
   by_cases c8 : ((rd_T34 l0_0 x10_1).f0) = 5
   rotate_left
   ·rw [if_neg c8] at H
    have c8b0 : (((rd_T34 l0_0 x10_1).f0) == 5) = false := beq_eq_false_iff_ne.mpr c8
    have c8b1 : (((rd_T34 l0_0 x10_1).f0) != 5) = true := bne_iff_ne.mpr c8
    have H' := am H
    clear H
    have p338 : 0 ≤ (x10_1 : Int) := od (by with_reducible assumption)
    have q338 : x10_1 < (l0_0.length : Int) := od (by with_reducible assumption)
    obtain ⟨ad338, A338_4, c338_4, e338, hx338_0, hx338_1, hx338_2, hx338_3, hx338_4, hx338_5, hl338_4, hi338_4⟩ := at_T34 (Kd.V_reads' HO_8.out).2.2 x10_1 p338 q338
    cases e338
    obtain ⟨ce338, hce338, hMe338, hcc338⟩ := Kd.V_get HO_8.out z34 x10_1 p338 (by first | exact q338 | exact od (by with_reducible assumption) | (have e_ := (Kd.V_reads' HO_8.out).1; omega))
    obtain ⟨ua338_4, uc338_4, rfl, ul338_4, ge338_4⟩ := k34_openF hMe338
    have hv338_4 := hcc338 4 _ rfl
    rw [add_field _ _ 4 (by omega)] at hv338_4
    replace hv338_4 := Option.some.inj (hv338_4.symm.trans hx338_4)
    injection hv338_4 with hva_ hvn_ hvc_
    rw [hva_] at ge338_4
    rw [hvc_] at ul338_4
    have HL338_4 := am (show Kd.V (Kd.int .i64) 3 _ w.heap.size _ _ ((rd_T34 l0_0 x10_1).f4) from Kd.V_mk ul338_4 ge338_4)
    clear hva_ hvn_ hvc_ ge338_4 ul338_4
    clear hcc338 hce338
    have HR338_4 := am hi338_4
    have HC338_4 := am hl338_4
    clear hi338_4 hl338_4
    replace p338 := eq_true p338
    replace q338 := eq_true q338
    go_wp2_with (first | ((with_reducible refine gate_dst (N := 6) rfl ?_); refine box_event ?hg (N := 6) ?hd (cs := #[.int .i64 0, .int .i64 0, .string (⟨#[]⟩ : ByteArray), .string (⟨#[]⟩ : ByteArray), .slice none 0 0, .string (⟨#[]⟩ : ByteArray)]) (t := 34) ?hr ?_; (case hd => rfl); (case hg => rfl); (case hr => go_simp <;> rfl); intro gb339 hg w20 hbox hb; replace HO_8 := eV HO_8.out hg hb; replace HO_338000 := eV HO_338000.out hg hb; replace HL338_4 := eV HL338_4.out hg hb; replace HR338_4 := kC HR338_4.out hb; have BK339 := am hbox; have GW339 := gef hg HB.out; have GE339 := gef hg HB.out; replace HB := bs HB.out hb; have NB337_339 := nl hg BK337.out; have NB339_337 := ng hg BK337.out; replace BK337 := kb BK337.out hb; clear hb hbox hg; have hnb21 := NB339_337.out; have hnc21 := NB337_339.out; obtain ⟨hcz22_0, hcz22_1, hcz22_2, hcz22_3, hcz22_4, hcz22_5, hfz22_0, hfz22_1, hfz22_2, hfz22_3, hfz22_4, hfz22_5⟩ := bk6 BK339.out))
    go_roundg k1
    case measure => have := HK1.out; omega
    case rel => exact ⟨(wrap64 (x10_1 + 1)), (by first | rfl | (simp; done) | simp [*]), H', ⟨by have := HK1.out; omega⟩, ⟨vV (Kd.V_mono (fV6 gb339 (Kd.V_mono HO_8.out (fun k_ hk => (⟨hk, hk.2⟩ : _ ∧ k_ ≠ gb339))) (.int .i64 ((rd_T34 l0_0 x10_1).f0)) (.int .i64 ((rd_T34 l0_0 x10_1).f1)) (.string ((rd_T34 l0_0 x10_1).f2)) (.string ((rd_T34 l0_0 x10_1).f3)) (.slice A338_4 ((rd_T34 l0_0 x10_1).f4).length c338_4) (.string ((rd_T34 l0_0 x10_1).f5))) (fun _ hk => ⟨hk.1.1.1, hk.1.1.2⟩))⟩, ⟨vV (Kd.V_mono (fV6 gb339 (Kd.V_mono HO_338000.out (fun k_ hk => (⟨hk, hk.2⟩ : _ ∧ k_ ≠ gb339))) (.int .i64 ((rd_T34 l0_0 x10_1).f0)) (.int .i64 ((rd_T34 l0_0 x10_1).f1)) (.string ((rd_T34 l0_0 x10_1).f2)) (.string ((rd_T34 l0_0 x10_1).f3)) (.slice A338_4 ((rd_T34 l0_0 x10_1).f4).length c338_4) (.string ((rd_T34 l0_0 x10_1).f5))) (fun _ hk => ⟨hk.1.1.1, hk.1.1.2⟩))⟩, ⟨by exact vt (bf (vt (bf (vt (bf (vt (bf (vt (bf (vt (bf (vt BK337.out) NB337_339.out)) NB337_339.out)) NB337_339.out)) NB337_339.out)) NB337_339.out)) NB337_339.out)⟩, ⟨vb HB.out⟩⟩
   rw [if_pos c8] at H
   have c8b0 : (((rd_T34 l0_0 x10_1).f0) == 5) = true := beq_iff_eq.mpr c8
   have c8b1 : (((rd_T34 l0_0 x10_1).f0) != 5) = false := bne_eq_false_iff_eq.mpr c8
   clear c8
   replace H := be H
   obtain ⟨t340, A90, H⟩ := H
   try dsimp only at H
   have A9 := am A90
   clear A90
   by_cases c10 : t340 = a1
   ·rw [if_pos c10] at H
    have c10b0 : (t340 == a1) = true := beq_iff_eq.mpr c10
    have c10b1 : (t340 != a1) = false := bne_eq_false_iff_eq.mpr c10
    clear c10
    obtain rfl := Option.some.inj H
    have p338 : 0 ≤ (x10_1 : Int) := od (by with_reducible assumption)
    have q338 : x10_1 < (l0_0.length : Int) := od (by with_reducible assumption)
    obtain ⟨ad338, A338_4, c338_4, e338, hx338_0, hx338_1, hx338_2, hx338_3, hx338_4, hx338_5, hl338_4, hi338_4⟩ := at_T34 (Kd.V_reads' HO_8.out).2.2 x10_1 p338 q338
    cases e338
    obtain ⟨ce338, hce338, hMe338, hcc338⟩ := Kd.V_get HO_8.out z34 x10_1 p338 (by first | exact q338 | exact od (by with_reducible assumption) | (have e_ := (Kd.V_reads' HO_8.out).1; omega))
    obtain ⟨ua338_4, uc338_4, rfl, ul338_4, ge338_4⟩ := k34_openF hMe338
    have hv338_4 := hcc338 4 _ rfl
    rw [add_field _ _ 4 (by omega)] at hv338_4
    replace hv338_4 := Option.some.inj (hv338_4.symm.trans hx338_4)
    injection hv338_4 with hva_ hvn_ hvc_
    rw [hva_] at ge338_4
    rw [hvc_] at ul338_4
    have HL338_4 := am (show Kd.V (Kd.int .i64) 3 _ w.heap.size _ _ ((rd_T34 l0_0 x10_1).f4) from Kd.V_mk ul338_4 ge338_4)
    clear hva_ hvn_ hvc_ ge338_4 ul338_4
    clear hcc338 hce338
    have HR338_4 := am hi338_4
    have HC338_4 := am hl338_4
    clear hi338_4 hl338_4
    replace p338 := eq_true p338
    replace q338 := eq_true q338
    go_wp2_with (first | ((with_reducible refine gate_dst (N := 6) rfl ?_); refine box_event ?hg (N := 6) ?hd (cs := #[.int .i64 0, .int .i64 0, .string (⟨#[]⟩ : ByteArray), .string (⟨#[]⟩ : ByteArray), .slice none 0 0, .string (⟨#[]⟩ : ByteArray)]) (t := 34) ?hr ?_; (case hd => rfl); (case hg => rfl); (case hr => go_simp <;> rfl); intro gb339 hg w11 hbox hb; replace HO_8 := eV HO_8.out hg hb; replace HO_338000 := eV HO_338000.out hg hb; replace HL338_4 := eV HL338_4.out hg hb; replace HR338_4 := kC HR338_4.out hb; have BK339 := am hbox; have GW339 := gef hg HB.out; have GE339 := gef hg HB.out; replace HB := bs HB.out hb; have NB337_339 := nl hg BK337.out; have NB339_337 := ng hg BK337.out; replace BK337 := kb BK337.out hb; clear hb hbox hg; have hnb12 := NB339_337.out; have hnc12 := NB337_339.out; obtain ⟨hcz13_0, hcz13_1, hcz13_2, hcz13_3, hcz13_4, hcz13_5, hfz13_0, hfz13_1, hfz13_2, hfz13_3, hfz13_4, hfz13_5⟩ := bk6 BK339.out) | (go_at_call 44; (with_reducible refine (Zbx.calls ((rd_T34 l0_0 x10_1).f2) t340 _ A9.out).mono ?_); rintro e w14 ⟨rfl, hb⟩; replace HO_8 := am (Kd.V_below (vV (Kd.V_mono (fV6 gb339 (Kd.V_mono HO_8.out (fun k_ hk => (⟨hk, hk.2⟩ : _ ∧ k_ ≠ gb339))) (.int .i64 ((rd_T34 l0_0 x10_1).f0)) (.int .i64 ((rd_T34 l0_0 x10_1).f1)) (.string ((rd_T34 l0_0 x10_1).f2)) (.string ((rd_T34 l0_0 x10_1).f3)) (.slice A338_4 ((rd_T34 l0_0 x10_1).f4).length c338_4) (.string ((rd_T34 l0_0 x10_1).f5))) (fun _ h_ => h_.1))) hb); replace HO_338000 := am (Kd.V_below (vV (Kd.V_mono (fV6 gb339 (Kd.V_mono HO_338000.out (fun k_ hk => (⟨hk, hk.2⟩ : _ ∧ k_ ≠ gb339))) (.int .i64 ((rd_T34 l0_0 x10_1).f0)) (.int .i64 ((rd_T34 l0_0 x10_1).f1)) (.string ((rd_T34 l0_0 x10_1).f2)) (.string ((rd_T34 l0_0 x10_1).f3)) (.slice A338_4 ((rd_T34 l0_0 x10_1).f4).length c338_4) (.string ((rd_T34 l0_0 x10_1).f5))) (fun _ h_ => h_.1))) hb); replace BK337 := am (blk_below (g := gb337) (o := .cells #[.slice (some ad338) l0_0.length c0_0] 40 (0, 0)) (by exact vt (bf (vt (bf (vt (bf (vt (bf (vt (bf (vt (bf (vt BK337.out) NB337_339.out)) NB337_339.out)) NB337_339.out)) NB337_339.out)) NB337_339.out)) NB337_339.out)) hb); replace HR338_4 := am (Kd.C_below ((Kd.V_reads' (vV (Kd.V_mono (fV6 gb339 (Kd.V_mono HL338_4.out (fun k_ hk => (⟨hk, hk.2⟩ : _ ∧ k_ ≠ gb339))) (.int .i64 ((rd_T34 l0_0 x10_1).f0)) (.int .i64 ((rd_T34 l0_0 x10_1).f1)) (.string ((rd_T34 l0_0 x10_1).f2)) (.string ((rd_T34 l0_0 x10_1).f3)) (.slice A338_4 ((rd_T34 l0_0 x10_1).f4).length c338_4) (.string ((rd_T34 l0_0 x10_1).f5))) (fun _ h_ => h_.1)))).2.2) hb); replace HL338_4 := am (Kd.V_below (vV (Kd.V_mono (fV6 gb339 (Kd.V_mono HL338_4.out (fun k_ hk => (⟨hk, hk.2⟩ : _ ∧ k_ ≠ gb339))) (.int .i64 ((rd_T34 l0_0 x10_1).f0)) (.int .i64 ((rd_T34 l0_0 x10_1).f1)) (.string ((rd_T34 l0_0 x10_1).f2)) (.string ((rd_T34 l0_0 x10_1).f3)) (.slice A338_4 ((rd_T34 l0_0 x10_1).f4).length c338_4) (.string ((rd_T34 l0_0 x10_1).f5))) (fun _ h_ => h_.1))) hb); replace BK339 := am (blk_below (g := gb339) (o := .cells #[.int .i64 ((rd_T34 l0_0 x10_1).f0), .int .i64 ((rd_T34 l0_0 x10_1).f1), .string ((rd_T34 l0_0 x10_1).f2), .string ((rd_T34 l0_0 x10_1).f3), .slice A338_4 ((rd_T34 l0_0 x10_1).f4).length c338_4, .string ((rd_T34 l0_0 x10_1).f5)] 34 (0, 0)) (by exact (vt (bp (vt (bp (vt (bp (vt (bp (vt (bp (vt (bp (vt BK339.out) 0)) 1)) 2)) 3)) 4)) 5)).trans rfl) hb); replace HB := bs HB.out hb; (try clear hb); (try clear hb2); (try clear hk); (try clear hi); obtain ⟨hcz15_0, hcz15_1, hcz15_2, hcz15_3, hcz15_4, hcz15_5, hfz15_0, hfz15_1, hfz15_2, hfz15_3, hfz15_4, hfz15_5⟩ := bk6 BK339.out))
    go_ret
    exact ⟨_, by rfl, vV (Kd.V_mono HL338_4.out (fun _ hk => hk.1.1)), vb HB.out⟩
   rw [if_neg c10] at H
   have c10b0 : (t340 == a1) = false := beq_eq_false_iff_ne.mpr c10
   have c10b1 : (t340 != a1) = true := bne_iff_ne.mpr c10
   have H' := am H
   clear H
   have p338 : 0 ≤ (x10_1 : Int) := od (by with_reducible assumption)
   have q338 : x10_1 < (l0_0.length : Int) := od (by with_reducible assumption)
   obtain ⟨ad338, A338_4, c338_4, e338, hx338_0, hx338_1, hx338_2, hx338_3, hx338_4, hx338_5, hl338_4, hi338_4⟩ := at_T34 (Kd.V_reads' HO_8.out).2.2 x10_1 p338 q338
   cases e338
   obtain ⟨ce338, hce338, hMe338, hcc338⟩ := Kd.V_get HO_8.out z34 x10_1 p338 (by first | exact q338 | exact od (by with_reducible assumption) | (have e_ := (Kd.V_reads' HO_8.out).1; omega))
   obtain ⟨ua338_4, uc338_4, rfl, ul338_4, ge338_4⟩ := k34_openF hMe338
   have hv338_4 := hcc338 4 _ rfl
   rw [add_field _ _ 4 (by omega)] at hv338_4
   replace hv338_4 := Option.some.inj (hv338_4.symm.trans hx338_4)
   injection hv338_4 with hva_ hvn_ hvc_
   rw [hva_] at ge338_4
   rw [hvc_] at ul338_4
   have HL338_4 := am (show Kd.V (Kd.int .i64) 3 _ w.heap.size _ _ ((rd_T34 l0_0 x10_1).f4) from Kd.V_mk ul338_4 ge338_4)
   clear hva_ hvn_ hvc_ ge338_4 ul338_4
   clear hcc338 hce338
   have HR338_4 := am hi338_4
   have HC338_4 := am hl338_4
   clear hi338_4 hl338_4
   replace p338 := eq_true p338
   replace q338 := eq_true q338
   go_wp2_with (first | ((with_reducible refine gate_dst (N := 6) rfl ?_); refine box_event ?hg (N := 6) ?hd (cs := #[.int .i64 0, .int .i64 0, .string (⟨#[]⟩ : ByteArray), .string (⟨#[]⟩ : ByteArray), .slice none 0 0, .string (⟨#[]⟩ : ByteArray)]) (t := 34) ?hr ?_; (case hd => rfl); (case hg => rfl); (case hr => go_simp <;> rfl); intro gb339 hg w16 hbox hb; replace HO_8 := eV HO_8.out hg hb; replace HO_338000 := eV HO_338000.out hg hb; replace HL338_4 := eV HL338_4.out hg hb; replace HR338_4 := kC HR338_4.out hb; have BK339 := am hbox; have GW339 := gef hg HB.out; have GE339 := gef hg HB.out; replace HB := bs HB.out hb; have NB337_339 := nl hg BK337.out; have NB339_337 := ng hg BK337.out; replace BK337 := kb BK337.out hb; clear hb hbox hg; have hnb17 := NB339_337.out; have hnc17 := NB337_339.out; obtain ⟨hcz18_0, hcz18_1, hcz18_2, hcz18_3, hcz18_4, hcz18_5, hfz18_0, hfz18_1, hfz18_2, hfz18_3, hfz18_4, hfz18_5⟩ := bk6 BK339.out) | (go_at_call 44; (with_reducible refine (Zbx.calls ((rd_T34 l0_0 x10_1).f2) t340 _ A9.out).mono ?_); rintro e w19 ⟨rfl, hb⟩; replace HO_8 := am (Kd.V_below (vV (Kd.V_mono (fV6 gb339 (Kd.V_mono HO_8.out (fun k_ hk => (⟨hk, hk.2⟩ : _ ∧ k_ ≠ gb339))) (.int .i64 ((rd_T34 l0_0 x10_1).f0)) (.int .i64 ((rd_T34 l0_0 x10_1).f1)) (.string ((rd_T34 l0_0 x10_1).f2)) (.string ((rd_T34 l0_0 x10_1).f3)) (.slice A338_4 ((rd_T34 l0_0 x10_1).f4).length c338_4) (.string ((rd_T34 l0_0 x10_1).f5))) (fun _ h_ => h_.1))) hb); replace HO_338000 := am (Kd.V_below (vV (Kd.V_mono (fV6 gb339 (Kd.V_mono HO_338000.out (fun k_ hk => (⟨hk, hk.2⟩ : _ ∧ k_ ≠ gb339))) (.int .i64 ((rd_T34 l0_0 x10_1).f0)) (.int .i64 ((rd_T34 l0_0 x10_1).f1)) (.string ((rd_T34 l0_0 x10_1).f2)) (.string ((rd_T34 l0_0 x10_1).f3)) (.slice A338_4 ((rd_T34 l0_0 x10_1).f4).length c338_4) (.string ((rd_T34 l0_0 x10_1).f5))) (fun _ h_ => h_.1))) hb); replace BK337 := am (blk_below (g := gb337) (o := .cells #[.slice (some ad338) l0_0.length c0_0] 40 (0, 0)) (by exact vt (bf (vt (bf (vt (bf (vt (bf (vt (bf (vt (bf (vt BK337.out) NB337_339.out)) NB337_339.out)) NB337_339.out)) NB337_339.out)) NB337_339.out)) NB337_339.out)) hb); replace HR338_4 := am (Kd.C_below ((Kd.V_reads' (vV (Kd.V_mono (fV6 gb339 (Kd.V_mono HL338_4.out (fun k_ hk => (⟨hk, hk.2⟩ : _ ∧ k_ ≠ gb339))) (.int .i64 ((rd_T34 l0_0 x10_1).f0)) (.int .i64 ((rd_T34 l0_0 x10_1).f1)) (.string ((rd_T34 l0_0 x10_1).f2)) (.string ((rd_T34 l0_0 x10_1).f3)) (.slice A338_4 ((rd_T34 l0_0 x10_1).f4).length c338_4) (.string ((rd_T34 l0_0 x10_1).f5))) (fun _ h_ => h_.1)))).2.2) hb); replace HL338_4 := am (Kd.V_below (vV (Kd.V_mono (fV6 gb339 (Kd.V_mono HL338_4.out (fun k_ hk => (⟨hk, hk.2⟩ : _ ∧ k_ ≠ gb339))) (.int .i64 ((rd_T34 l0_0 x10_1).f0)) (.int .i64 ((rd_T34 l0_0 x10_1).f1)) (.string ((rd_T34 l0_0 x10_1).f2)) (.string ((rd_T34 l0_0 x10_1).f3)) (.slice A338_4 ((rd_T34 l0_0 x10_1).f4).length c338_4) (.string ((rd_T34 l0_0 x10_1).f5))) (fun _ h_ => h_.1))) hb); replace BK339 := am (blk_below (g := gb339) (o := .cells #[.int .i64 ((rd_T34 l0_0 x10_1).f0), .int .i64 ((rd_T34 l0_0 x10_1).f1), .string ((rd_T34 l0_0 x10_1).f2), .string ((rd_T34 l0_0 x10_1).f3), .slice A338_4 ((rd_T34 l0_0 x10_1).f4).length c338_4, .string ((rd_T34 l0_0 x10_1).f5)] 34 (0, 0)) (by exact (vt (bp (vt (bp (vt (bp (vt (bp (vt (bp (vt (bp (vt BK339.out) 0)) 1)) 2)) 3)) 4)) 5)).trans rfl) hb); replace HB := bs HB.out hb; (try clear hb)))
   go_roundg k1
   case measure => have := HK1.out; omega
   case rel => exact ⟨(wrap64 (x10_1 + 1)), (by first | rfl | (simp; done) | simp [*]), H', ⟨by have := HK1.out; omega⟩, ⟨vV (Kd.V_mono HO_8.out (fun _ hk => ⟨hk.1.1, hk.1.2⟩))⟩, ⟨vV (Kd.V_mono HO_338000.out (fun _ hk => ⟨hk.1.1, hk.1.2⟩))⟩, ⟨vk BK337.out⟩, ⟨vb HB.out⟩⟩
theorem len_td (l : List Int) (W : Int) (h : W ≤ (l.length : Int)) : ((l.take W.toNat).drop 2).length = W.toNat - 2 := by
 rw [List.length_drop, List.length_take]; omega
def Zaw.l0 : Nat → List Int → List Int → Int → Int → List (S34) → Option (List Int)
 | 0, _, _, _, _, _ => none
 | k + 1, x5, x15, x16, x17, x342000 => if x17 < x16 then (if 0 ≤ x17 then (if x17 < (x15.length : Int) then ((Zam.f k x342000 (rd x15 x17)).bind fun t346 => (if x5.length + t346.length < 17592186044416 then (Zaw.l0 k (x5 ++ t346) x15 x16 (wrap64 (x17 + 1)) x342000) else (none))) else (none)) else (none)) else (some x5)
def Zaw.f (k : Nat) (l0_0 : List (S34)) (a1_0 : Int) (a1_1 : Int) (a1_2 : ByteArray) (a1_3 : ByteArray) (l1_4 : List Int) (a1_5 : ByteArray) : Option (List Int) := if 1 < (l1_4.length : Int) then (if 2 ≤ (wrap64 (2 + (rd l1_4 1))) then (if (wrap64 (2 + (rd l1_4 1))) ≤ (l1_4.length : Int) then (Zaw.l0 k ([] : List Int) ((l1_4.take ((wrap64 (2 + (rd l1_4 1))) : Int).toNat).drop 2) (((l1_4.take ((wrap64 (2 + (rd l1_4 1))) : Int).toNat).drop 2).length : Int) 0 l0_0) else (none)) else (none)) else (none)
theorem Zaw.calls (k : Nat) (A0_0 : Option Addr) (c0_0 : Nat) (l0_0 : List (S34)) (a1_0 : Int) (a1_1 : Int) (a1_2 : ByteArray) (a1_3 : ByteArray) (A1_4 : Option Addr) (c1_4 : Nat) (l1_4 : List Int) (a1_5 : ByteArray) (r : List Int) (w : World) (hr0_0 : Kd.C k34 w A0_0 l0_0.length l0_0) (hc0_0 : l0_0.length ≤ c0_0) (hr1_4 : Kd.C (Kd.int .i64) w A1_4 l1_4.length l1_4) (hc1_4 : l1_4.length ≤ c1_4) (h : Zaw.f k l0_0 a1_0 a1_1 a1_2 a1_3 l1_4 a1_5 = some r) :
  Calls Tryz.prog 78 #[.agg #[.slice A0_0 l0_0.length c0_0], .agg #[.int .i64 a1_0, .int .i64 a1_1, .string a1_2, .string a1_3, .slice A1_4 l1_4.length c1_4, .string a1_5]] w fun e w' => ∃ v0_ : Value, e = .returned (v0_) ∧ Kd.R (Kd.int .i64) 3 w' w.heap.size (fun _ => True) v0_ r ∧ Below w.heap.size w w' := by
 have hu40 := Tryz.underlying40
 have hu34 := Tryz.underlying34
 have HR0_0 := am hr0_0
 have HC0_0 := am hc0_0
 clear hr0_0 hc0_0
 have HR1_4 := am hr1_4
 have HC1_4 := am hc1_4
 clear hr1_4 hc1_4
 have HB := am (Below.refl w.heap.size w)
 have H : (if 1 < (l1_4.length : Int) then (if 2 ≤ (wrap64 (2 + (rd l1_4 1))) then (if (wrap64 (2 + (rd l1_4 1))) ≤ (l1_4.length : Int) then (Zaw.l0 k ([] : List Int) ((l1_4.take ((wrap64 (2 + (rd l1_4 1))) : Int).toNat).drop 2) (((l1_4.take ((wrap64 (2 + (rd l1_4 1))) : Int).toNat).drop 2).length : Int) 0 l0_0) else (none)) else (none)) else (none)) = some r := h
 clear h
 by_cases c3 : 1 < (l1_4.length : Int)
 rotate_left
 ·rw [if_neg c3] at H
  exact absurd H (by simp)
 rw [if_pos c3] at H
 have c3b0 : decide (1 < (l1_4.length : Int)) = true := de c3
 have c3b1 : decide (1 < l1_4.length) = true := decide_eq_true (by omega)
 clear c3
 by_cases c4 : 2 ≤ (wrap64 (2 + (rd l1_4 1)))
 rotate_left
 ·rw [if_neg c4] at H
  exact absurd H (by simp)
 rw [if_pos c4] at H
 have c4b0 := eq_true c4
 have c4b1 : decide (2 ≤ (wrap64 (2 + (rd l1_4 1)))) = true := de c4
 by_cases c5 : (wrap64 (2 + (rd l1_4 1))) ≤ (l1_4.length : Int)
 rotate_left
 ·rw [if_neg c5] at H
  exact absurd H (by simp)
 rw [if_pos c5] at H
 have HLEN_ := am (len_td l1_4 (wrap64 (2 + (rd l1_4 1))) c5)
 have c5b0 := eq_true c5
 have c5b1 : decide ((wrap64 (2 + (rd l1_4 1))) ≤ (l1_4.length : Int)) = true := de c5
 have H' := am H
 clear H
 go_enter Tryz.func78, Tryz.ntmps78
 go_wp2_with (first | ((with_reducible refine gate_dst (N := 2) rfl ?_); refine box_event ?hg (N := 2) ?hd (cs := #[.slice A0_0 l0_0.length c0_0]) (t := 40) ?hr ?_; (case hd => rfl); (case hg => rfl); (case hr => go_simp <;> rfl); intro gb341 hg w6 hbox hb; have BK341 := am hbox; have GW341 := gef hg HB.out; have GE341 := gef hg HB.out; replace HB := bs HB.out hb; clear hb hbox hg) | ((with_reducible refine gate_dst (N := 3) rfl ?_); refine box_event ?hg (N := 3) ?hd (cs := #[.int .i64 a1_0, .int .i64 a1_1, .string a1_2, .string a1_3, .slice A1_4 l1_4.length c1_4, .string a1_5]) (t := 34) ?hr ?_; (case hd => rfl); (case hg => rfl); (case hr => go_simp <;> rfl); intro gb342 hg w7 hbox hb; have BK342 := am hbox; have GW342 := gef hg HB.out; have GE342 := gef hg HB.out; replace HB := bs HB.out hb; have NB341_342 := nl hg BK341.out; have NB342_341 := ng hg BK341.out; replace BK341 := kb BK341.out hb; clear hb hbox hg; have hnb8 := NB342_341.out; have hnc8 := NB341_342.out; obtain ⟨hcz9_0, hcz9_1, hcz9_2, hcz9_3, hcz9_4, hcz9_5, hfz9_0, hfz9_1, hfz9_2, hfz9_3, hfz9_4, hfz9_5⟩ := bk6 BK342.out; have p343 : 0 ≤ (1 : Int) := (by omega); have q343 : 1 < (l1_4.length : Int) := od (by with_reducible assumption); obtain ⟨ad343, e343, hx343_0⟩ := Kd.at_int HR1_4.out 1 p343 q343; cases e343; (try simp only [show (1 : Int).toNat = 1 from rfl, Nat.reduceMul, Nat.reduceEqDiff, Go.Addr.add, ↓reduceIte] at hx343_0); have qi343 : (1 < l1_4.length) = True := eq_true (by omega); (try rw [show ((1 : Int)).toNat = 1 from rfl] at hx343_0); replace hx343_0 := cb HB.out hx343_0; replace p343 := eq_true p343; replace q343 := eq_true q343; obtain ⟨i010, hi010, _, hsz10, _⟩ := info_parts info3; obtain ⟨A10, hcut10, hA10, hC10⟩ := print_mid_of (P := Tryz.prog) (Value.int .i64) 0 32 3 .i64 .i64 Tryz.underlying32 hi010 hsz10 (some ad343) c1_4 l1_4 2 (wrap64 (2 + (rd l1_4 1))) (by omega) (by first | omega | exact od (by with_reducible assumption)) (od (by with_reducible assumption)) HC1_4.out; have HR344 := am (Kd.C_of_reads (h1 := fun _ => rfl) (hA10 _ (Kd.reads_of_C HR1_4.out))); have HC344 := am hC10; clear hA10 hC10 hi010 hsz10))
 repeat (go_quiet (first | ((with_reducible refine gate_dst (N := 2) rfl ?_); refine box_event ?hg (N := 2) ?hd (cs := #[.slice A0_0 l0_0.length c0_0]) (t := 40) ?hr ?_; (case hd => rfl); (case hg => rfl); (case hr => go_simp <;> rfl); intro gb341 hg w6 hbox hb; have BK341 := am hbox; have GW341 := gef hg HB.out; have GE341 := gef hg HB.out; replace HB := bs HB.out hb; clear hb hbox hg) | ((with_reducible refine gate_dst (N := 3) rfl ?_); refine box_event ?hg (N := 3) ?hd (cs := #[.int .i64 a1_0, .int .i64 a1_1, .string a1_2, .string a1_3, .slice A1_4 l1_4.length c1_4, .string a1_5]) (t := 34) ?hr ?_; (case hd => rfl); (case hg => rfl); (case hr => go_simp <;> rfl); intro gb342 hg w7 hbox hb; have BK342 := am hbox; have GW342 := gef hg HB.out; have GE342 := gef hg HB.out; replace HB := bs HB.out hb; have NB341_342 := nl hg BK341.out; have NB342_341 := ng hg BK341.out; replace BK341 := kb BK341.out hb; clear hb hbox hg; have hnb8 := NB342_341.out; have hnc8 := NB341_342.out; obtain ⟨hcz9_0, hcz9_1, hcz9_2, hcz9_3, hcz9_4, hcz9_5, hfz9_0, hfz9_1, hfz9_2, hfz9_3, hfz9_4, hfz9_5⟩ := bk6 BK342.out; have p343 : 0 ≤ (1 : Int) := (by omega); have q343 : 1 < (l1_4.length : Int) := od (by with_reducible assumption); obtain ⟨ad343, e343, hx343_0⟩ := Kd.at_int HR1_4.out 1 p343 q343; cases e343; (try simp only [show (1 : Int).toNat = 1 from rfl, Nat.reduceMul, Nat.reduceEqDiff, Go.Addr.add, ↓reduceIte] at hx343_0); have qi343 : (1 < l1_4.length) = True := eq_true (by omega); (try rw [show ((1 : Int)).toNat = 1 from rfl] at hx343_0); replace hx343_0 := cb HB.out hx343_0; replace p343 := eq_true p343; replace q343 := eq_true q343; obtain ⟨i010, hi010, _, hsz10, _⟩ := info_parts info3; obtain ⟨A10, hcut10, hA10, hC10⟩ := print_mid_of (P := Tryz.prog) (Value.int .i64) 0 32 3 .i64 .i64 Tryz.underlying32 hi010 hsz10 (some ad343) c1_4 l1_4 2 (wrap64 (2 + (rd l1_4 1))) (by omega) (by first | omega | exact od (by with_reducible assumption)) (od (by with_reducible assumption)) HC1_4.out; have HR344 := am (Kd.C_of_reads (h1 := fun _ => rfl) (hA10 _ (Kd.reads_of_C HR1_4.out))); have HC344 := am hC10; clear hA10 hC10 hi010 hsz10)); try go_wp2_with (first | ((with_reducible refine gate_dst (N := 2) rfl ?_); refine box_event ?hg (N := 2) ?hd (cs := #[.slice A0_0 l0_0.length c0_0]) (t := 40) ?hr ?_; (case hd => rfl); (case hg => rfl); (case hr => go_simp <;> rfl); intro gb341 hg w6 hbox hb; have BK341 := am hbox; have GW341 := gef hg HB.out; have GE341 := gef hg HB.out; replace HB := bs HB.out hb; clear hb hbox hg) | ((with_reducible refine gate_dst (N := 3) rfl ?_); refine box_event ?hg (N := 3) ?hd (cs := #[.int .i64 a1_0, .int .i64 a1_1, .string a1_2, .string a1_3, .slice A1_4 l1_4.length c1_4, .string a1_5]) (t := 34) ?hr ?_; (case hd => rfl); (case hg => rfl); (case hr => go_simp <;> rfl); intro gb342 hg w7 hbox hb; have BK342 := am hbox; have GW342 := gef hg HB.out; have GE342 := gef hg HB.out; replace HB := bs HB.out hb; have NB341_342 := nl hg BK341.out; have NB342_341 := ng hg BK341.out; replace BK341 := kb BK341.out hb; clear hb hbox hg; have hnb8 := NB342_341.out; have hnc8 := NB341_342.out; obtain ⟨hcz9_0, hcz9_1, hcz9_2, hcz9_3, hcz9_4, hcz9_5, hfz9_0, hfz9_1, hfz9_2, hfz9_3, hfz9_4, hfz9_5⟩ := bk6 BK342.out; have p343 : 0 ≤ (1 : Int) := (by omega); have q343 : 1 < (l1_4.length : Int) := od (by with_reducible assumption); obtain ⟨ad343, e343, hx343_0⟩ := Kd.at_int HR1_4.out 1 p343 q343; cases e343; (try simp only [show (1 : Int).toNat = 1 from rfl, Nat.reduceMul, Nat.reduceEqDiff, Go.Addr.add, ↓reduceIte] at hx343_0); have qi343 : (1 < l1_4.length) = True := eq_true (by omega); (try rw [show ((1 : Int)).toNat = 1 from rfl] at hx343_0); replace hx343_0 := cb HB.out hx343_0; replace p343 := eq_true p343; replace q343 := eq_true q343; obtain ⟨i010, hi010, _, hsz10, _⟩ := info_parts info3; obtain ⟨A10, hcut10, hA10, hC10⟩ := print_mid_of (P := Tryz.prog) (Value.int .i64) 0 32 3 .i64 .i64 Tryz.underlying32 hi010 hsz10 (some ad343) c1_4 l1_4 2 (wrap64 (2 + (rd l1_4 1))) (by omega) (by first | omega | exact od (by with_reducible assumption)) (od (by with_reducible assumption)) HC1_4.out; have HR344 := am (Kd.C_of_reads (h1 := fun _ => rfl) (hA10 _ (Kd.reads_of_C HR1_4.out))); have HC344 := am hC10; clear hA10 hC10 hi010 hsz10)))
 go_loopg [5, 17] k (fun kq v5 v17 w' => ∃ (x5_1 : List Int) (x17_1 : Int), v17 = .int .i64 x17_1 ∧ Aside0 (Zaw.l0 kq x5_1 ((l1_4.take ((wrap64 (2 + (rd l1_4 1))) : Int).toNat).drop 2) (((l1_4.take ((wrap64 (2 + (rd l1_4 1))) : Int).toNat).drop 2).length : Int) x17_1 l0_0 = some r) ∧ Aside0 (kq ≤ k) ∧ Aside0 (Kd.R (Kd.int .i64) 3 w' w.heap.size (fun _ => True) v5 x5_1) ∧ Aside0 (w'.heap[gb341]? = some (.cells #[(.slice A0_0 l0_0.length c0_0)] 40 (0, 0))) ∧ Aside0 (w'.heap[gb342]? = some (.cells #[.int .i64 a1_0, .int .i64 a1_1, .string a1_2, .string a1_3, (.slice (some ad343) l1_4.length c1_4), .string a1_5] 34 (0, 0))) ∧ Aside0 (Below w.heap.size w w'))
 case atStart => exact ⟨(([] : List Int)), (0), (by first | rfl | (simp; done) | simp [*]), H', ⟨Nat.le_refl _⟩, ⟨by first | exact Kd.R_nil _ _ _ _ _ | exact Kd.N_nil _ _ _ _ _ | exact Kd.V_nil _ _ _ _ _ | exact Kd.Q_nil _ _ _ _ _ | exact Kd.S_nil _ _ _ _ _⟩, ⟨vk BK341.out⟩, ⟨vk BK342.out⟩, ⟨vb HB.out⟩⟩
 case round =>
  clear H'
  (try clear c1); (try clear p2); (try clear c3); (try clear c3b0); (try clear c3b1); (try clear p3); (try clear q3); (try clear hx3); (try clear qi3); (try clear c4); (try clear c4b0); (try clear c4b1); (try clear c5); (try clear c5b0); (try clear c5b1); (try clear p6); (try clear c7); (try clear c8); (try clear hcz9_0); (try clear hcz9_1); (try clear hcz9_2); (try clear hcz9_3); (try clear hcz9_4); (try clear hcz9_5); (try clear hfz9_0); (try clear hfz9_1); (try clear hfz9_2); (try clear hfz9_3); (try clear hfz9_4); (try clear hfz9_5); (try clear hx343_0); (try clear p343); (try clear q343)
  obtain ⟨x5_1, x17_1, rfl, HA, HK1, HO_5, BK341, BK342, HB⟩ := hrel
  cases gk with
  | zero => exact absurd HA.out (by simp [Zaw.l0])
  | succ k1 =>
   have H := HA.out
   clear HA
   simp only [Zaw.l0] at H
   by_cases c11 : x17_1 < (((l1_4.take ((wrap64 (2 + (rd l1_4 1))) : Int).toNat).drop 2).length : Int)
   rotate_left
   ·rw [if_neg c11] at H
    have c11b0 : decide (x17_1 < (((l1_4.take ((wrap64 (2 + (rd l1_4 1))) : Int).toNat).drop 2).length : Int)) = false := df c11
    have c11z : decide (x17_1 < ((((wrap64 (2 + (rd l1_4 1))).toNat - 2 : Nat) : Int))) = false := by rw [← HLEN_.out]; exact c11b0
    clear c11
    obtain rfl := Option.some.inj H
    go_wp2
    repeat (go_quiet (fail); try go_wp2)
    go_ret
    exact ⟨_, by rfl, vR HO_5.out, vb HB.out⟩
   rw [if_pos c11] at H
   have c11b0 : decide (x17_1 < (((l1_4.take ((wrap64 (2 + (rd l1_4 1))) : Int).toNat).drop 2).length : Int)) = true := de c11
   have c11z : decide (x17_1 < ((((wrap64 (2 + (rd l1_4 1))).toNat - 2 : Nat) : Int))) = true := by rw [← HLEN_.out]; exact c11b0
   clear c11
   by_cases c12 : 0 ≤ x17_1
   rotate_left
   ·rw [if_neg c12] at H
    exact absurd H (by simp)
   rw [if_pos c12] at H
   have c12b0 : decide (0 ≤ x17_1) = true := de c12
   clear c12
   by_cases c13 : x17_1 < (((l1_4.take ((wrap64 (2 + (rd l1_4 1))) : Int).toNat).drop 2).length : Int)
   rotate_left
   ·rw [if_neg c13] at H
    exact absurd H (by simp)
   rw [if_pos c13] at H
   have c13b0 : decide (x17_1 < (((l1_4.take ((wrap64 (2 + (rd l1_4 1))) : Int).toNat).drop 2).length : Int)) = true := de c13
   have c13z : decide (x17_1 < ((((wrap64 (2 + (rd l1_4 1))).toNat - 2 : Nat) : Int))) = true := by rw [← HLEN_.out]; exact c13b0
   clear c13
   replace H := be H
   obtain ⟨t346, A140, H⟩ := H
   try dsimp only at H
   have A14 := am A140
   clear A140
   by_cases c15 : x5_1.length + t346.length < 17592186044416
   rotate_left
   ·rw [if_neg c15] at H
    exact absurd H (by simp)
   rw [if_pos c15] at H
   have LMc15 := am c15
   clear c15
   obtain ⟨y349, hy349⟩ : ∃ y_ : List Int, y_ = (x5_1 ++ t346) := ⟨_, rfl⟩
   replace H : (Zaw.l0 k1 y349 ((l1_4.take ((wrap64 (2 + (rd l1_4 1))) : Int).toNat).drop 2) (((l1_4.take ((wrap64 (2 + (rd l1_4 1))) : Int).toNat).drop 2).length : Int) (wrap64 (x17_1 + 1)) l0_0) = some r := by first | (rw [hy349]; with_reducible exact H) | (have H2_ := (Option.bind_some _ _).symm.trans H; rw [hy349]; with_reducible exact H2_) | (have H2_ := (Option.bind_some _ _).symm.trans H; with_reducible exact H2_) | with_reducible exact H | (rw [hy349]; exact H) | exact H
   have Ny349 := am hy349
   clear hy349
   have H' := am H
   clear H
   have p345 : 0 ≤ (x17_1 : Int) := od (by with_reducible assumption)
   have q345 : x17_1 < (((l1_4.take ((wrap64 (2 + (rd l1_4 1))) : Int).toNat).drop 2).length : Int) := od (by with_reducible assumption)
   have q345z := eq_true (show x17_1 < (((wrap64 (2 + (rd l1_4 1))).toNat - 2 : Nat) : Int) from by rw [← HLEN_.out]; exact q345)
   obtain ⟨ad345, e345, hx345_0⟩ := Kd.at_int HR344.out x17_1 p345 q345
   cases e345
   replace hx345_0 := cb HB.out hx345_0
   replace p345 := eq_true p345
   replace q345 := eq_true q345
   have hnb16 := NB341_342.out
   have hnc16 := NB342_341.out
   obtain ⟨hcz17_0, hfz17_0⟩ := bk1 BK341.out
   go_wp2_with (first | (go_at_call 101; (with_reducible refine (Zam.calls k1 (fun k_ => k_ < w.heap.size) _ _ l0_0 (rd ((l1_4.take ((wrap64 (2 + (rd l1_4 1))) : Int).toNat).drop 2) x17_1) t346 _ ?side1 A14.out).mono ?_); (case side1 => exact Kd.V_mk HC0_0.out (Kd.F_below (Kd.C_F k34_heap HR0_0.out) (vb HB.out))); rintro e w18 ⟨v347, rfl, ho0, hb⟩; have HO348 := am (Kd.V_lower (Kd.V_mono (ok' := fun k_ => some k_ ≠ (u5 : Value).ownBlock ∧ k_ ≠ gb341 ∧ k_ ≠ gb342) ho0 (fun k_ hk_ => ⟨Or.elim hk_ (fun hs_ => fun e_ => Nat.not_le.2 hs_ (Kd.R_base HO_5.out k_ e_.symm)) (fun hn_ => (Kd.fresh' (Kd.R_lt (vR HO_5.out)) k_ hn_)), Or.elim hk_ (fun hs_ => fun e_ => Nat.not_le.2 hs_ (by rw [e_]; exact GW341.out)) (fun hn_ => (Kd.freshB (g := gb341) (o := .cells #[.slice A0_0 l0_0.length c0_0] 40 (0, 0)) (vk BK341.out) k_ hn_)), Or.elim hk_ (fun hs_ => fun e_ => Nat.not_le.2 hs_ (by rw [e_]; exact GW342.out)) (fun hn_ => (Kd.freshB (g := gb342) (o := .cells #[.int .i64 a1_0, .int .i64 a1_1, .string a1_2, .string a1_3, .slice (some ad343) l1_4.length c1_4, .string a1_5] 34 (0, 0)) (vk BK342.out) k_ hn_))⟩)) (below_size (vb HB.out))); replace HO_5 := kR HO_5.out hb; replace BK341 := kb BK341.out hb; replace BK342 := kb BK342.out hb; replace HB := bs HB.out hb; (try clear hb); (try clear hb2); (try clear hk); (try clear hi); (try clear ho0); obtain ⟨Ao20, co20, eo20⟩ := Kd.V_slice HO348.out; subst eo20) | ((with_reducible refine gate_builtin (b := .append) (xs := #[.tmp 21, .tmp 24]) rfl ?_); at_builtin; refine Kd.R_append_rows (Kd.int .i64) (w0 := w) w.heap.size rfl (.tmp 21) (.tmp 24) 32 3 (.int .i64 0) 8 rfl Tryz.underlying32 info3 rfl (by decide) (by omega) u5 x5_1 t346 _ _ _ (fun _ => True) (fun _ => False) rfl rfl ?aO ?aR (fun _ _ h => h) (fun _ h => h.elim) ?aF ?aB ?aS ?aL ?_; (case aR => repeat (first | exact (Kd.V_reads' HO348.out).2.2 | (with_reducible refine Kd.C_alloc ?_ _) | (with_reducible refine Kd.C_drewN ?_ _) | (with_reducible refine Kd.C_drew ?_))); (case aB => exact (vb HB.out)); (case aF => exact (fun _ _ => trivial)); (case aO => exact (vR HO_5.out)); (case aS => exact (below_size (vb HB.out))); (case aL => have := LMc15.out; omega); intro v350 w19 ho hb hg hat; rw [← Ny349.out] at ho; replace BK341 := am (blk_grown (g := gb341) (o := .cells #[.slice A0_0 l0_0.length c0_0] 40 (0, 0)) (vk BK341.out) hg (Kd.R_ne HO_5.out BK341.out (by decide))); replace BK342 := am (blk_grown (g := gb342) (o := .cells #[.int .i64 a1_0, .int .i64 a1_1, .string a1_2, .string a1_3, .slice (some ad343) l1_4.length c1_4, .string a1_5] 34 (0, 0)) (vk BK342.out) hg (Kd.R_ne HO_5.out BK342.out (by decide))); replace HO348 := am (Kd.V_afterv (ok := (fun k_ => k_ ≠ gb341 ∧ k_ ≠ gb342)) (vV (Kd.V_mono HO348.out (fun _ hk => ⟨⟨hk.2.1, hk.2.2⟩, hk.1⟩))) hg hat); replace HB := am hb; have HO351 := am (ho); clear HO_5; clear ho hb hg hat))
   repeat (go_quiet (first | (go_at_call 101; (with_reducible refine (Zam.calls k1 (fun k_ => k_ < w.heap.size) _ _ l0_0 (rd ((l1_4.take ((wrap64 (2 + (rd l1_4 1))) : Int).toNat).drop 2) x17_1) t346 _ ?side1 A14.out).mono ?_); (case side1 => exact Kd.V_mk HC0_0.out (Kd.F_below (Kd.C_F k34_heap HR0_0.out) (vb HB.out))); rintro e w18 ⟨v347, rfl, ho0, hb⟩; have HO348 := am (Kd.V_lower (Kd.V_mono (ok' := fun k_ => some k_ ≠ (u5 : Value).ownBlock ∧ k_ ≠ gb341 ∧ k_ ≠ gb342) ho0 (fun k_ hk_ => ⟨Or.elim hk_ (fun hs_ => fun e_ => Nat.not_le.2 hs_ (Kd.R_base HO_5.out k_ e_.symm)) (fun hn_ => (Kd.fresh' (Kd.R_lt (vR HO_5.out)) k_ hn_)), Or.elim hk_ (fun hs_ => fun e_ => Nat.not_le.2 hs_ (by rw [e_]; exact GW341.out)) (fun hn_ => (Kd.freshB (g := gb341) (o := .cells #[.slice A0_0 l0_0.length c0_0] 40 (0, 0)) (vk BK341.out) k_ hn_)), Or.elim hk_ (fun hs_ => fun e_ => Nat.not_le.2 hs_ (by rw [e_]; exact GW342.out)) (fun hn_ => (Kd.freshB (g := gb342) (o := .cells #[.int .i64 a1_0, .int .i64 a1_1, .string a1_2, .string a1_3, .slice (some ad343) l1_4.length c1_4, .string a1_5] 34 (0, 0)) (vk BK342.out) k_ hn_))⟩)) (below_size (vb HB.out))); replace HO_5 := kR HO_5.out hb; replace BK341 := kb BK341.out hb; replace BK342 := kb BK342.out hb; replace HB := bs HB.out hb; (try clear hb); (try clear hb2); (try clear hk); (try clear hi); (try clear ho0); obtain ⟨Ao20, co20, eo20⟩ := Kd.V_slice HO348.out; subst eo20) | ((with_reducible refine gate_builtin (b := .append) (xs := #[.tmp 21, .tmp 24]) rfl ?_); at_builtin; refine Kd.R_append_rows (Kd.int .i64) (w0 := w) w.heap.size rfl (.tmp 21) (.tmp 24) 32 3 (.int .i64 0) 8 rfl Tryz.underlying32 info3 rfl (by decide) (by omega) u5 x5_1 t346 _ _ _ (fun _ => True) (fun _ => False) rfl rfl ?aO ?aR (fun _ _ h => h) (fun _ h => h.elim) ?aF ?aB ?aS ?aL ?_; (case aR => repeat (first | exact (Kd.V_reads' HO348.out).2.2 | (with_reducible refine Kd.C_alloc ?_ _) | (with_reducible refine Kd.C_drewN ?_ _) | (with_reducible refine Kd.C_drew ?_))); (case aB => exact (vb HB.out)); (case aF => exact (fun _ _ => trivial)); (case aO => exact (vR HO_5.out)); (case aS => exact (below_size (vb HB.out))); (case aL => have := LMc15.out; omega); intro v350 w19 ho hb hg hat; rw [← Ny349.out] at ho; replace BK341 := am (blk_grown (g := gb341) (o := .cells #[.slice A0_0 l0_0.length c0_0] 40 (0, 0)) (vk BK341.out) hg (Kd.R_ne HO_5.out BK341.out (by decide))); replace BK342 := am (blk_grown (g := gb342) (o := .cells #[.int .i64 a1_0, .int .i64 a1_1, .string a1_2, .string a1_3, .slice (some ad343) l1_4.length c1_4, .string a1_5] 34 (0, 0)) (vk BK342.out) hg (Kd.R_ne HO_5.out BK342.out (by decide))); replace HO348 := am (Kd.V_afterv (ok := (fun k_ => k_ ≠ gb341 ∧ k_ ≠ gb342)) (vV (Kd.V_mono HO348.out (fun _ hk => ⟨⟨hk.2.1, hk.2.2⟩, hk.1⟩))) hg hat); replace HB := am hb; have HO351 := am (ho); clear HO_5; clear ho hb hg hat)); try go_wp2_with (first | (go_at_call 101; (with_reducible refine (Zam.calls k1 (fun k_ => k_ < w.heap.size) _ _ l0_0 (rd ((l1_4.take ((wrap64 (2 + (rd l1_4 1))) : Int).toNat).drop 2) x17_1) t346 _ ?side1 A14.out).mono ?_); (case side1 => exact Kd.V_mk HC0_0.out (Kd.F_below (Kd.C_F k34_heap HR0_0.out) (vb HB.out))); rintro e w18 ⟨v347, rfl, ho0, hb⟩; have HO348 := am (Kd.V_lower (Kd.V_mono (ok' := fun k_ => some k_ ≠ (u5 : Value).ownBlock ∧ k_ ≠ gb341 ∧ k_ ≠ gb342) ho0 (fun k_ hk_ => ⟨Or.elim hk_ (fun hs_ => fun e_ => Nat.not_le.2 hs_ (Kd.R_base HO_5.out k_ e_.symm)) (fun hn_ => (Kd.fresh' (Kd.R_lt (vR HO_5.out)) k_ hn_)), Or.elim hk_ (fun hs_ => fun e_ => Nat.not_le.2 hs_ (by rw [e_]; exact GW341.out)) (fun hn_ => (Kd.freshB (g := gb341) (o := .cells #[.slice A0_0 l0_0.length c0_0] 40 (0, 0)) (vk BK341.out) k_ hn_)), Or.elim hk_ (fun hs_ => fun e_ => Nat.not_le.2 hs_ (by rw [e_]; exact GW342.out)) (fun hn_ => (Kd.freshB (g := gb342) (o := .cells #[.int .i64 a1_0, .int .i64 a1_1, .string a1_2, .string a1_3, .slice (some ad343) l1_4.length c1_4, .string a1_5] 34 (0, 0)) (vk BK342.out) k_ hn_))⟩)) (below_size (vb HB.out))); replace HO_5 := kR HO_5.out hb; replace BK341 := kb BK341.out hb; replace BK342 := kb BK342.out hb; replace HB := bs HB.out hb; (try clear hb); (try clear hb2); (try clear hk); (try clear hi); (try clear ho0); obtain ⟨Ao20, co20, eo20⟩ := Kd.V_slice HO348.out; subst eo20) | ((with_reducible refine gate_builtin (b := .append) (xs := #[.tmp 21, .tmp 24]) rfl ?_); at_builtin; refine Kd.R_append_rows (Kd.int .i64) (w0 := w) w.heap.size rfl (.tmp 21) (.tmp 24) 32 3 (.int .i64 0) 8 rfl Tryz.underlying32 info3 rfl (by decide) (by omega) u5 x5_1 t346 _ _ _ (fun _ => True) (fun _ => False) rfl rfl ?aO ?aR (fun _ _ h => h) (fun _ h => h.elim) ?aF ?aB ?aS ?aL ?_; (case aR => repeat (first | exact (Kd.V_reads' HO348.out).2.2 | (with_reducible refine Kd.C_alloc ?_ _) | (with_reducible refine Kd.C_drewN ?_ _) | (with_reducible refine Kd.C_drew ?_))); (case aB => exact (vb HB.out)); (case aF => exact (fun _ _ => trivial)); (case aO => exact (vR HO_5.out)); (case aS => exact (below_size (vb HB.out))); (case aL => have := LMc15.out; omega); intro v350 w19 ho hb hg hat; rw [← Ny349.out] at ho; replace BK341 := am (blk_grown (g := gb341) (o := .cells #[.slice A0_0 l0_0.length c0_0] 40 (0, 0)) (vk BK341.out) hg (Kd.R_ne HO_5.out BK341.out (by decide))); replace BK342 := am (blk_grown (g := gb342) (o := .cells #[.int .i64 a1_0, .int .i64 a1_1, .string a1_2, .string a1_3, .slice (some ad343) l1_4.length c1_4, .string a1_5] 34 (0, 0)) (vk BK342.out) hg (Kd.R_ne HO_5.out BK342.out (by decide))); replace HO348 := am (Kd.V_afterv (ok := (fun k_ => k_ ≠ gb341 ∧ k_ ≠ gb342)) (vV (Kd.V_mono HO348.out (fun _ hk => ⟨⟨hk.2.1, hk.2.2⟩, hk.1⟩))) hg hat); replace HB := am hb; have HO351 := am (ho); clear HO_5; clear ho hb hg hat)))
   go_roundg k1
   case measure => have := HK1.out; omega
   case rel => exact ⟨(y349), (wrap64 (x17_1 + 1)), (by first | rfl | (simp; done) | simp [*]), H', ⟨by have := HK1.out; omega⟩, ⟨vR HO351.out⟩, ⟨vk BK341.out⟩, ⟨vk BK342.out⟩, ⟨vb HB.out⟩⟩
mutual
def Zaf.l0 : Nat → Int → Int → List (S34) → Option (List Int)
 | 0, _, _, _ => none
 | k + 1, x5, x6, x353000 => if x6 ≥ 0 then (if 0 ≤ x6 then (if x6 < (x353000.length : Int) then (if ((rd_T34 x353000 x6).f0) = 9 then (Zaf.l1 k x5 x6 ([] : List Int) 0 x353000) else (Zaf.l0 k x5 (wrap64 (x6 - 1)) x353000)) else (none)) else (none)) else (some ([] : List Int))
def Zaf.l1 : Nat → Int → Int → List Int → Int → List (S34) → Option (List Int)
 | 0, _, _, _, _, _ => none
 | k + 1, x5, x6, x7, x8, x353000 => if 0 ≤ x6 then (if x6 < (x353000.length : Int) then (if (wrap64 (x8 + 1)) < (((rd_T34 x353000 x6).f4).length : Int) then (if 0 ≤ x8 then (if x8 < (((rd_T34 x353000 x6).f4).length : Int) then (if (rd ((rd_T34 x353000 x6).f4) x8) = x5 then (if 0 ≤ (wrap64 (x8 + 1)) then (if x7.length < 17592186044416 then (Zaf.l1 k x5 x6 (x7 ++ [rd ((rd_T34 x353000 x6).f4) (wrap64 (x8 + 1))]) (wrap64 (x8 + 2)) x353000) else (none)) else (none)) else (Zaf.l1 k x5 x6 x7 (wrap64 (x8 + 2)) x353000)) else (none)) else (none)) else (some x7)) else (none)) else (none)
end
def Zaf.f (k : Nat) (l0_0 : List (S34)) (a1 : Int) : Option (List Int) := if 0 ≤ a1 then (if a1 < (l0_0.length : Int) then ((Zbx.f ((rd_T34 l0_0 a1).f2)).bind fun t354 => (Zaf.l0 k t354 (wrap64 (a1 - 1)) l0_0)) else (none)) else (none)
theorem Zaf.calls (k : Nat) (A0_0 : Option Addr) (c0_0 : Nat) (l0_0 : List (S34)) (a1 : Int) (r : List Int) (w : World) (hr0_0 : Kd.C k34 w A0_0 l0_0.length l0_0) (hc0_0 : l0_0.length ≤ c0_0) (h : Zaf.f k l0_0 a1 = some r) :
  Calls Tryz.prog 79 #[.agg #[.slice A0_0 l0_0.length c0_0], .int .i64 a1] w fun e w' => ∃ v0_ : Value, e = .returned (v0_) ∧ Kd.R (Kd.int .i64) 3 w' w.heap.size (fun _ => True) v0_ r ∧ Below w.heap.size w w' := by
 have hu40 := Tryz.underlying40
 have HR0_0 := am hr0_0
 have HC0_0 := am hc0_0
 clear hr0_0 hc0_0
 have HB := am (Below.refl w.heap.size w)
 have H : (if 0 ≤ a1 then (if a1 < (l0_0.length : Int) then ((Zbx.f ((rd_T34 l0_0 a1).f2)).bind fun t354 => (Zaf.l0 k t354 (wrap64 (a1 - 1)) l0_0)) else (none)) else (none)) = some r := h
 clear h
 by_cases c3 : 0 ≤ a1
 rotate_left
 ·rw [if_neg c3] at H
  exact absurd H (by simp)
 rw [if_pos c3] at H
 have c3b0 : decide (0 ≤ a1) = true := de c3
 clear c3
 by_cases c4 : a1 < (l0_0.length : Int)
 rotate_left
 ·rw [if_neg c4] at H
  exact absurd H (by simp)
 rw [if_pos c4] at H
 have c4b0 : decide (a1 < (l0_0.length : Int)) = true := de c4
 clear c4
 replace H := be H
 obtain ⟨t354, A50, H⟩ := H
 try dsimp only at H
 have A5 := am A50
 clear A50
 have H' := am H
 clear H
 go_enter Tryz.func79, Tryz.ntmps79
 go_wp2_with (first | ((with_reducible refine gate_dst (N := 2) rfl ?_); refine box_event ?hg (N := 2) ?hd (cs := #[.slice A0_0 l0_0.length c0_0]) (t := 40) ?hr ?_; (case hd => rfl); (case hg => rfl); (case hr => go_simp <;> rfl); intro gb352 hg w6 hbox hb; have BK352 := am hbox; have GW352 := gef hg HB.out; have GE352 := gef hg HB.out; replace HB := bs HB.out hb; clear hb hbox hg; obtain ⟨hcz7_0, hfz7_0⟩ := bk1 BK352.out; have p353 : 0 ≤ (a1 : Int) := od (by with_reducible assumption); have q353 : a1 < (l0_0.length : Int) := od (by with_reducible assumption); obtain ⟨ad353, A353_4, c353_4, e353, hx353_0, hx353_1, hx353_2, hx353_3, hx353_4, hx353_5, hl353_4, hi353_4⟩ := at_T34 HR0_0.out a1 p353 q353; cases e353; replace hx353_0 := cb HB.out hx353_0; replace hx353_1 := cb HB.out hx353_1; replace hx353_2 := cb HB.out hx353_2; replace hx353_3 := cb HB.out hx353_3; replace hx353_4 := cb HB.out hx353_4; replace hx353_5 := cb HB.out hx353_5; have HR353_4 := am hi353_4; have HC353_4 := am hl353_4; clear hi353_4 hl353_4; replace p353 := eq_true p353; replace q353 := eq_true q353) | ((with_reducible refine gate_callee (f := 44) rfl ?_); refine goesL_ (some 15) rfl rfl Tryz.func44 (by kernel_rfl) rfl #[.string ((rd_T34 l0_0 a1).f2)] rfl (by (try simp only [mT, mC, mN]); first | done | rfl) ?_; (with_reducible refine (Zbx.calls ((rd_T34 l0_0 a1).f2) t354 _ A5.out).mono ?_); rintro e w8 ⟨rfl, hb⟩; refine ⟨_, rfl, ?_⟩; replace BK352 := kb BK352.out hb; replace HB := bs HB.out hb; (try clear hb)))
 go_loopg [6] k (fun kq v6 w' => ∃ (x6_1 : Int), v6 = .int .i64 x6_1 ∧ Aside0 (Zaf.l0 kq t354 x6_1 l0_0 = some r) ∧ Aside0 (kq ≤ k) ∧ Aside0 (w'.heap[gb352]? = some (.cells #[(.slice (some ad353) l0_0.length c0_0)] 40 (0, 0))) ∧ Aside0 (Below w.heap.size w w'))
 case atStart => exact ⟨(wrap64 (a1 - 1)), (by first | rfl | (simp; done) | simp [*]), H', ⟨Nat.le_refl _⟩, ⟨vk BK352.out⟩, ⟨vb HB.out⟩⟩
 case round =>
  clear H'
  (try clear p2); (try clear c3); (try clear c3b0); (try clear p3); (try clear q3); (try clear hx3); (try clear c4); (try clear c4b0); (try clear p6); (try clear c7); (try clear hcz7_0); (try clear hfz7_0); (try clear hx353_0); (try clear hx353_1); (try clear hx353_2); (try clear hx353_3); (try clear hx353_4); (try clear hx353_5); (try clear p353); (try clear q353)
  obtain ⟨x6_1, rfl, HA, HK1, BK352, HB⟩ := hrel
  cases gk with
  | zero => exact absurd HA.out (by simp [Zaf.l0])
  | succ k1 =>
   have H := HA.out
   clear HA
   simp only [Zaf.l0] at H
   by_cases c9 : x6_1 ≥ 0
   rotate_left
   ·rw [if_neg c9] at H
    have c9b0 : decide (0 ≤ x6_1) = false := df c9
    clear c9
    obtain rfl := Option.some.inj H
    go_wp2
    go_ret
    exact ⟨_, by rfl, by first | exact Kd.R_nil _ _ _ _ _ | exact Kd.N_nil _ _ _ _ _ | exact Kd.V_nil _ _ _ _ _ | exact Kd.Q_nil _ _ _ _ _ | exact Kd.S_nil _ _ _ _ _, vb HB.out⟩
   rw [if_pos c9] at H
   have c9b0 : decide (0 ≤ x6_1) = true := de c9
   clear c9
   by_cases c10 : 0 ≤ x6_1
   rotate_left
   ·rw [if_neg c10] at H
    exact absurd H (by simp)
   rw [if_pos c10] at H
   have c10b0 : decide (0 ≤ x6_1) = true := de c10
   clear c10
   by_cases c11 : x6_1 < (l0_0.length : Int)
   rotate_left
   ·rw [if_neg c11] at H
    exact absurd H (by simp)
   rw [if_pos c11] at H
   have c11b0 : decide (x6_1 < (l0_0.length : Int)) = true := de c11
   clear c11
   by_cases c12 : ((rd_T34 l0_0 x6_1).f0) = 9
   rotate_left
   ·rw [if_neg c12] at H
    have c12b0 : (((rd_T34 l0_0 x6_1).f0) == 9) = false := beq_eq_false_iff_ne.mpr c12
    have c12b1 : (((rd_T34 l0_0 x6_1).f0) != 9) = true := bne_iff_ne.mpr c12
    have H' := am H
    clear H
    obtain ⟨hcz27_0, hfz27_0⟩ := bk1 BK352.out
    have p355 : 0 ≤ (x6_1 : Int) := od (by with_reducible assumption)
    have q355 : x6_1 < (l0_0.length : Int) := od (by with_reducible assumption)
    obtain ⟨ad355, A355_4, c355_4, e355, hx355_0, hx355_1, hx355_2, hx355_3, hx355_4, hx355_5, hl355_4, hi355_4⟩ := at_T34 HR0_0.out x6_1 p355 q355
    obtain rfl : ad353 = ad355 := (by injection e355)
    replace hx355_0 := cb HB.out hx355_0
    replace hx355_1 := cb HB.out hx355_1
    replace hx355_2 := cb HB.out hx355_2
    replace hx355_3 := cb HB.out hx355_3
    replace hx355_4 := cb HB.out hx355_4
    replace hx355_5 := cb HB.out hx355_5
    have HR355_4 := am hi355_4
    have HC355_4 := am hl355_4
    clear hi355_4 hl355_4
    replace p355 := eq_true p355
    replace q355 := eq_true q355
    go_wp2
    go_roundg k1
    case measure => have := HK1.out; omega
    case rel => exact ⟨(wrap64 (x6_1 - 1)), (by first | rfl | (simp; done) | simp [*]), H', ⟨by have := HK1.out; omega⟩, ⟨vk BK352.out⟩, ⟨vb HB.out⟩⟩
   rw [if_pos c12] at H
   have c12b0 : (((rd_T34 l0_0 x6_1).f0) == 9) = true := beq_iff_eq.mpr c12
   have c12b1 : (((rd_T34 l0_0 x6_1).f0) != 9) = false := bne_eq_false_iff_eq.mpr c12
   clear c12
   have H' := am H
   clear H
   obtain ⟨hcz13_0, hfz13_0⟩ := bk1 BK352.out
   have p355 : 0 ≤ (x6_1 : Int) := od (by with_reducible assumption)
   have q355 : x6_1 < (l0_0.length : Int) := od (by with_reducible assumption)
   obtain ⟨ad355, A355_4, c355_4, e355, hx355_0, hx355_1, hx355_2, hx355_3, hx355_4, hx355_5, hl355_4, hi355_4⟩ := at_T34 HR0_0.out x6_1 p355 q355
   obtain rfl : ad353 = ad355 := (by injection e355)
   replace hx355_0 := cb HB.out hx355_0
   replace hx355_1 := cb HB.out hx355_1
   replace hx355_2 := cb HB.out hx355_2
   replace hx355_3 := cb HB.out hx355_3
   replace hx355_4 := cb HB.out hx355_4
   replace hx355_5 := cb HB.out hx355_5
   have HR355_4 := am hi355_4
   have HC355_4 := am hl355_4
   clear hi355_4 hl355_4
   replace p355 := eq_true p355
   replace q355 := eq_true q355
   go_wp2
   go_loopg [7, 8] k1 (fun kq v7 v8 w' => ∃ (x7_2 : List Int) (x8_2 : Int), v8 = .int .i64 x8_2 ∧ Aside0 (Zaf.l1 kq t354 x6_1 x7_2 x8_2 l0_0 = some r) ∧ Aside0 (kq ≤ k1) ∧ Aside0 (Kd.R (Kd.int .i64) 3 w' w.heap.size (fun _ => True) v7 x7_2) ∧ Aside0 (w'.heap[gb352]? = some (.cells #[(.slice (some ad353) l0_0.length c0_0)] 40 (0, 0))) ∧ Aside0 (Below w.heap.size w w'))
   case atStart => exact ⟨(([] : List Int)), (0), (by first | rfl | (simp; done) | simp [*]), H', ⟨Nat.le_refl _⟩, ⟨by first | exact Kd.R_nil _ _ _ _ _ | exact Kd.N_nil _ _ _ _ _ | exact Kd.V_nil _ _ _ _ _ | exact Kd.Q_nil _ _ _ _ _ | exact Kd.S_nil _ _ _ _ _⟩, ⟨vk BK352.out⟩, ⟨vb HB.out⟩⟩
   case round =>
    clear H'
    (try clear c1); (try clear p2); (try clear c3); (try clear c3b0); (try clear p3); (try clear q3); (try clear hx3); (try clear c4); (try clear c4b0); (try clear p6); (try clear c7); (try clear c9); (try clear c9b0); (try clear c10); (try clear c10b0); (try clear c11); (try clear c11b0); (try clear c12); (try clear c12b0); (try clear c12b1); (try clear hcz13_0); (try clear hcz7_0); (try clear hfz13_0); (try clear hfz7_0); (try clear hx353_0); (try clear hx353_1); (try clear hx353_2); (try clear hx353_3); (try clear hx353_4); (try clear hx353_5); (try clear hx355_0); (try clear hx355_1); (try clear hx355_2); (try clear hx355_3); (try clear hx355_4); (try clear hx355_5); (try clear p2); (try clear p3); (try clear p353); (try clear p355); (try clear p6); (try clear q3); (try clear q353); (try clear q355)
    obtain ⟨x7_2, x8_2, rfl, HA, HK2, HO_7, BK352, HB⟩ := hrel
    cases gk with
    | zero => exact absurd HA.out (by simp [Zaf.l1])
    | succ k2 =>
     have H := HA.out
     clear HA
     simp only [Zaf.l1] at H
     by_cases c14 : 0 ≤ x6_1
     rotate_left
     ·rw [if_neg c14] at H
      exact absurd H (by simp)
     rw [if_pos c14] at H
     have c14b0 : decide (0 ≤ x6_1) = true := de c14
     clear c14
     by_cases c15 : x6_1 < (l0_0.length : Int)
     rotate_left
     ·rw [if_neg c15] at H
      exact absurd H (by simp)
     rw [if_pos c15] at H
     have c15b0 : decide (x6_1 < (l0_0.length : Int)) = true := de c15
     clear c15
     by_cases c16 : (wrap64 (x8_2 + 1)) < (((rd_T34 l0_0 x6_1).f4).length : Int)
     rotate_left
     ·rw [if_neg c16] at H
      have c16b0 : decide ((wrap64 (x8_2 + 1)) < (((rd_T34 l0_0 x6_1).f4).length : Int)) = false := df c16
      clear c16
      obtain rfl := Option.some.inj H
      obtain ⟨hcz26_0, hfz26_0⟩ := bk1 BK352.out
      have p356 : 0 ≤ (x6_1 : Int) := od (by with_reducible assumption)
      have q356 : x6_1 < (l0_0.length : Int) := od (by with_reducible assumption)
      obtain ⟨ad356, A356_4, c356_4, e356, hx356_0, hx356_1, hx356_2, hx356_3, hx356_4, hx356_5, hl356_4, hi356_4⟩ := at_T34 HR0_0.out x6_1 p356 q356
      obtain rfl : ad353 = ad356 := (by injection e356)
      replace hx356_0 := cb HB.out hx356_0
      replace hx356_1 := cb HB.out hx356_1
      replace hx356_2 := cb HB.out hx356_2
      replace hx356_3 := cb HB.out hx356_3
      replace hx356_4 := cb HB.out hx356_4
      replace hx356_5 := cb HB.out hx356_5
      have HR356_4 := am hi356_4
      have HC356_4 := am hl356_4
      clear hi356_4 hl356_4
      replace p356 := eq_true p356
      replace q356 := eq_true q356
      go_wp2
      go_ret
      exact ⟨_, by rfl, vR HO_7.out, vb HB.out⟩
     rw [if_pos c16] at H
     have c16b0 : decide ((wrap64 (x8_2 + 1)) < (((rd_T34 l0_0 x6_1).f4).length : Int)) = true := de c16
     clear c16
     by_cases c17 : 0 ≤ x8_2
     rotate_left
     ·rw [if_neg c17] at H
      exact absurd H (by simp)
     rw [if_pos c17] at H
     have c17b0 : decide (0 ≤ x8_2) = true := de c17
     clear c17
     by_cases c18 : x8_2 < (((rd_T34 l0_0 x6_1).f4).length : Int)
     rotate_left
     ·rw [if_neg c18] at H
      exact absurd H (by simp)
     rw [if_pos c18] at H
     have c18b0 : decide (x8_2 < (((rd_T34 l0_0 x6_1).f4).length : Int)) = true := de c18
     clear c18
     by_cases c19 : (rd ((rd_T34 l0_0 x6_1).f4) x8_2) = t354
     rotate_left
     ·rw [if_neg c19] at H
      have c19b0 : ((rd ((rd_T34 l0_0 x6_1).f4) x8_2) == t354) = false := beq_eq_false_iff_ne.mpr c19
      have c19b1 : ((rd ((rd_T34 l0_0 x6_1).f4) x8_2) != t354) = true := bne_iff_ne.mpr c19
      have H' := am H
      clear H
      obtain ⟨hcz25_0, hfz25_0⟩ := bk1 BK352.out
      have p356 : 0 ≤ (x6_1 : Int) := od (by with_reducible assumption)
      have q356 : x6_1 < (l0_0.length : Int) := od (by with_reducible assumption)
      obtain ⟨ad356, A356_4, c356_4, e356, hx356_0, hx356_1, hx356_2, hx356_3, hx356_4, hx356_5, hl356_4, hi356_4⟩ := at_T34 HR0_0.out x6_1 p356 q356
      obtain rfl : ad353 = ad356 := (by injection e356)
      replace hx356_0 := cb HB.out hx356_0
      replace hx356_1 := cb HB.out hx356_1
      replace hx356_2 := cb HB.out hx356_2
      replace hx356_3 := cb HB.out hx356_3
      replace hx356_4 := cb HB.out hx356_4
      replace hx356_5 := cb HB.out hx356_5
      have HR356_4 := am hi356_4
      have HC356_4 := am hl356_4
      clear hi356_4 hl356_4
      replace p356 := eq_true p356
      replace q356 := eq_true q356
      have p357 : 0 ≤ (x6_1 : Int) := od (by with_reducible assumption)
      have q357 : x6_1 < (l0_0.length : Int) := od (by with_reducible assumption)
      obtain ⟨ad357, A357_4, c357_4, e357, hx357_0, hx357_1, hx357_2, hx357_3, hx357_4, hx357_5, hl357_4, hi357_4⟩ := at_T34 HR0_0.out x6_1 p357 q357
      obtain rfl : ad353 = ad357 := (by injection e357)
      replace hx357_0 := cb HB.out hx357_0
      replace hx357_1 := cb HB.out hx357_1
      replace hx357_2 := cb HB.out hx357_2
      replace hx357_3 := cb HB.out hx357_3
      replace hx357_4 := cb HB.out hx357_4
      replace hx357_5 := cb HB.out hx357_5
      have HR357_4 := am hi357_4
      have HC357_4 := am hl357_4
      clear hi357_4 hl357_4
      replace p357 := eq_true p357
      replace q357 := eq_true q357
      have ea_ := Option.some.inj (hx356_4.symm.trans hx357_4)
      injection ea_ with ea_ en_ ec_
      subst ea_
      subst ec_
      clear en_
      have p358 : 0 ≤ (x8_2 : Int) := od (by with_reducible assumption)
      have q358 : x8_2 < (((rd_T34 l0_0 x6_1).f4).length : Int) := od (by with_reducible assumption)
      obtain ⟨ad358, e358, hx358_0⟩ := Kd.at_int HR357_4.out x8_2 p358 q358
      cases e358
      replace hx358_0 := cb HB.out hx358_0
      replace p358 := eq_true p358
      replace q358 := eq_true q358
      go_wp2
      go_roundg k2
      case measure => have := HK1.out; have := HK2.out; omega
      case rel => exact ⟨(x7_2), (wrap64 (x8_2 + 2)), (by first | rfl | (simp; done) | simp [*]), H', ⟨by have := HK1.out; have := HK2.out; omega⟩, ⟨vR HO_7.out⟩, ⟨vk BK352.out⟩, ⟨vb HB.out⟩⟩
     rw [if_pos c19] at H
     have c19b0 : ((rd ((rd_T34 l0_0 x6_1).f4) x8_2) == t354) = true := beq_iff_eq.mpr c19
     have c19b1 : ((rd ((rd_T34 l0_0 x6_1).f4) x8_2) != t354) = false := bne_eq_false_iff_eq.mpr c19
     clear c19
     obtain ⟨ji20, hji20⟩ : ∃ j_ : Int, (wrap64 (x8_2 + 1)) = j_ := ⟨_, rfl⟩
     replace H : (if 0 ≤ (ji20) then (if x7_2.length < 17592186044416 then (Zaf.l1 k2 t354 x6_1 (x7_2 ++ [rd ((rd_T34 l0_0 x6_1).f4) (ji20)]) (wrap64 (x8_2 + 2)) l0_0) else (none)) else (none)) = some r := by first | (rw [hji20] at H; exact H) | (simp only [hji20] at H ⊢; exact H)
     (try rw [hji20] at c16b0)
     have hji20w : (IntKind.i64.wrap (x8_2 + 1)) = ji20 := (i64_w _).trans hji20
     by_cases c21 : 0 ≤ (ji20)
     rotate_left
     ·rw [if_neg c21] at H
      exact absurd H (by simp)
     rw [if_pos c21] at H
     have c21b0 : decide (0 ≤ (ji20)) = true := de c21
     clear c21
     by_cases c22 : x7_2.length < 17592186044416
     rotate_left
     ·rw [if_neg c22] at H
      exact absurd H (by simp)
     rw [if_pos c22] at H
     have LMc22 := am c22
     clear c22
     obtain ⟨y361, hy361⟩ : ∃ y_ : List Int, y_ = (x7_2 ++ [rd ((rd_T34 l0_0 x6_1).f4) (ji20)]) := ⟨_, rfl⟩
     replace H : (Zaf.l1 k2 t354 x6_1 y361 (wrap64 (x8_2 + 2)) l0_0) = some r := by first | (rw [hy361]; with_reducible exact H) | (have H2_ := (Option.bind_some _ _).symm.trans H; rw [hy361]; with_reducible exact H2_) | (have H2_ := (Option.bind_some _ _).symm.trans H; with_reducible exact H2_) | with_reducible exact H | (rw [hy361]; exact H) | exact H
     have Ny361 := am hy361
     clear hy361
     have H' := am H
     clear H
     obtain ⟨hcz23_0, hfz23_0⟩ := bk1 BK352.out
     have p356 : 0 ≤ (x6_1 : Int) := od (by with_reducible assumption)
     have q356 : x6_1 < (l0_0.length : Int) := od (by with_reducible assumption)
     obtain ⟨ad356, A356_4, c356_4, e356, hx356_0, hx356_1, hx356_2, hx356_3, hx356_4, hx356_5, hl356_4, hi356_4⟩ := at_T34 HR0_0.out x6_1 p356 q356
     obtain rfl : ad353 = ad356 := (by injection e356)
     replace hx356_0 := cb HB.out hx356_0
     replace hx356_1 := cb HB.out hx356_1
     replace hx356_2 := cb HB.out hx356_2
     replace hx356_3 := cb HB.out hx356_3
     replace hx356_4 := cb HB.out hx356_4
     replace hx356_5 := cb HB.out hx356_5
     have HR356_4 := am hi356_4
     have HC356_4 := am hl356_4
     clear hi356_4 hl356_4
     replace p356 := eq_true p356
     replace q356 := eq_true q356
     have p357 : 0 ≤ (x6_1 : Int) := od (by with_reducible assumption)
     have q357 : x6_1 < (l0_0.length : Int) := od (by with_reducible assumption)
     obtain ⟨ad357, A357_4, c357_4, e357, hx357_0, hx357_1, hx357_2, hx357_3, hx357_4, hx357_5, hl357_4, hi357_4⟩ := at_T34 HR0_0.out x6_1 p357 q357
     obtain rfl : ad353 = ad357 := (by injection e357)
     replace hx357_0 := cb HB.out hx357_0
     replace hx357_1 := cb HB.out hx357_1
     replace hx357_2 := cb HB.out hx357_2
     replace hx357_3 := cb HB.out hx357_3
     replace hx357_4 := cb HB.out hx357_4
     replace hx357_5 := cb HB.out hx357_5
     have HR357_4 := am hi357_4
     have HC357_4 := am hl357_4
     clear hi357_4 hl357_4
     replace p357 := eq_true p357
     replace q357 := eq_true q357
     have ea_ := Option.some.inj (hx356_4.symm.trans hx357_4)
     injection ea_ with ea_ en_ ec_
     subst ea_
     subst ec_
     clear en_
     have p358 : 0 ≤ (x8_2 : Int) := od (by with_reducible assumption)
     have q358 : x8_2 < (((rd_T34 l0_0 x6_1).f4).length : Int) := od (by with_reducible assumption)
     obtain ⟨ad358, e358, hx358_0⟩ := Kd.at_int HR357_4.out x8_2 p358 q358
     cases e358
     replace hx358_0 := cb HB.out hx358_0
     replace p358 := eq_true p358
     replace q358 := eq_true q358
     have p359 : 0 ≤ (x6_1 : Int) := od (by with_reducible assumption)
     have q359 : x6_1 < (l0_0.length : Int) := od (by with_reducible assumption)
     obtain ⟨ad359, A359_4, c359_4, e359, hx359_0, hx359_1, hx359_2, hx359_3, hx359_4, hx359_5, hl359_4, hi359_4⟩ := at_T34 HR0_0.out x6_1 p359 q359
     obtain rfl : ad353 = ad359 := (by injection e359)
     replace hx359_0 := cb HB.out hx359_0
     replace hx359_1 := cb HB.out hx359_1
     replace hx359_2 := cb HB.out hx359_2
     replace hx359_3 := cb HB.out hx359_3
     replace hx359_4 := cb HB.out hx359_4
     replace hx359_5 := cb HB.out hx359_5
     have HR359_4 := am hi359_4
     have HC359_4 := am hl359_4
     clear hi359_4 hl359_4
     replace p359 := eq_true p359
     replace q359 := eq_true q359
     have ea_ := Option.some.inj (hx356_4.symm.trans hx359_4)
     injection ea_ with ea_ en_ ec_
     subst ea_
     subst ec_
     clear en_
     have p360 : 0 ≤ ((ji20) : Int) := od (by with_reducible assumption)
     have q360 : (ji20) < (((rd_T34 l0_0 x6_1).f4).length : Int) := od (by with_reducible assumption)
     obtain ⟨ad360, e360, hx360_0⟩ := Kd.at_int HR359_4.out (ji20) p360 q360
     cases e360
     replace hx360_0 := cb HB.out hx360_0
     replace p360 := eq_true p360
     replace q360 := eq_true q360
     go_wp2_with (first | ((with_reducible refine gate_builtin (b := .append) (xs := #[.tmp 52, .tmp 63]) rfl ?_); at_builtin; refine Kd.R_append (Kd.int .i64) (w0 := w) w.heap.size rfl (.tmp 52) (.tmp 63) 32 3 (.int .i64 0) 8 rfl Tryz.underlying32 info3 rfl (by decide) (by omega) u7 x7_2 (rd ((rd_T34 l0_0 x6_1).f4) (ji20)) [.int .i64 (rd ((rd_T34 l0_0 x6_1).f4) (ji20))] (fun _ => True) (fun _ => False) rfl rfl ?aP (fun _ hk => hk.elim) ?aF ?aO ?aB ?aS ?aL ?_; (case aP => exact rfl); (case aB => exact (vb HB.out)); (case aF => exact (fun _ _ => trivial)); (case aO => exact (vR HO_7.out)); (case aS => exact (below_size (vb HB.out))); (case aL => have := LMc22.out; omega); intro v362 w24 ho hb hg hat; rw [← Ny361.out] at ho; replace BK352 := am (blk_grown (g := gb352) (o := .cells #[.slice (some ad353) l0_0.length c0_0] 40 (0, 0)) (vk BK352.out) hg (Kd.R_ne HO_7.out BK352.out (by decide))); replace HB := am hb; have HO363 := am (ho); clear HO_7; clear ho hb hg hat))
     go_roundg k2
     case measure => have := HK1.out; have := HK2.out; omega
     case rel => exact ⟨(y361), (wrap64 (x8_2 + 2)), (by first | rfl | (simp; done) | simp [*]), H', ⟨by have := HK1.out; have := HK2.out; omega⟩, ⟨vR HO363.out⟩, ⟨vk BK352.out⟩, ⟨vb HB.out⟩⟩
def Zal.l0 : Nat → List (List Int) → List (S34) → Int → Int → List (S34) → Option ((List (List Int)))
 | 0, _, _, _, _, _ => none
 | k + 1, x3, x11, x12, x13, x365000 => if x13 < x12 then (if 0 ≤ x13 then (if x13 < (x11.length : Int) then (if ((rd_T34 x11 x13).f0) = 5 then (if x13 < (x3.length : Int) then (Zal.l0 k (x3.set (x13 : Int).toNat ((rd_T34 x11 x13).f4)) x11 x12 (wrap64 (x13 + 1)) x365000) else (none)) else (if ((rd_T34 x11 x13).f0) = 6 then ((Zaw.f k x365000 ((rd_T34 x11 x13).f0) ((rd_T34 x11 x13).f1) ((rd_T34 x11 x13).f2) ((rd_T34 x11 x13).f3) ((rd_T34 x11 x13).f4) ((rd_T34 x11 x13).f5)).bind fun t371 => (if x13 < (x3.length : Int) then (Zal.l0 k (x3.set (x13 : Int).toNat t371) x11 x12 (wrap64 (x13 + 1)) x365000) else (none))) else (if ((rd_T34 x11 x13).f0) = 10 then ((Zaf.f k x365000 x13).bind fun t375 => (if x13 < (x3.length : Int) then (Zal.l0 k (x3.set (x13 : Int).toNat t375) x11 x12 (wrap64 (x13 + 1)) x365000) else (none))) else (Zal.l0 k x3 x11 x12 (wrap64 (x13 + 1)) x365000)))) else (none)) else (none)) else (some x3)
def Zal.f (k : Nat) (l0_0 : List (S34)) : Option ((List (List Int))) := if 0 ≤ (l0_0.length : Int) then (if ((l0_0.length : Int) : Int).toNat ≤ 11728124029610 then (Zal.l0 k (List.replicate ((l0_0.length : Int) : Int).toNat []) l0_0 (l0_0.length : Int) 0 l0_0) else (none)) else (none)
theorem Zal.calls (k : Nat) (P0_0_ : Nat → Prop) (A0_0 : Option Addr) (c0_0 : Nat) (l0_0 : List (S34)) (r : List (List Int)) (w : World) (hs0_0 : Kd.V k34 34 w w.heap.size (fun k_ => P0_0_ k_) (.slice A0_0 l0_0.length c0_0) l0_0) (h : Zal.f k l0_0 = some r) :
  Calls Tryz.prog 45 #[.agg #[.slice A0_0 l0_0.length c0_0]] w fun e w' => ∃ v0_ : Value, e = .returned (v0_) ∧ Kd.N (Kd.slice 3 (Kd.int .i64)) 32 w' w.heap.size (fun k_ => (P0_0_ k_ ∨ w.heap.size ≤ k_)) v0_ r ∧ Below w.heap.size w w' := by
 have hu40 := Tryz.underlying40
 have hu34 := Tryz.underlying34
 have HO0_0 := am (show Kd.V k34 34 w w.heap.size (fun k_ => (P0_0_ k_ ∨ w.heap.size ≤ k_)) (.slice A0_0 l0_0.length c0_0) l0_0 from Kd.V_mono hs0_0 (fun k_ hk => .inl hk))
 have HB := am (Below.refl w.heap.size w)
 have H : (if 0 ≤ (l0_0.length : Int) then (if ((l0_0.length : Int) : Int).toNat ≤ 11728124029610 then (Zal.l0 k (List.replicate ((l0_0.length : Int) : Int).toNat []) l0_0 (l0_0.length : Int) 0 l0_0) else (none)) else (none)) = some r := h
 clear h
 by_cases c2 : 0 ≤ (l0_0.length : Int)
 rotate_left
 ·rw [if_neg c2] at H
  exact absurd H (by simp)
 rw [if_pos c2] at H
 have c2b0 := eq_true c2
 have c2b1 : decide (0 ≤ (l0_0.length : Int)) = true := de c2
 clear c2
 by_cases c3 : ((l0_0.length : Int) : Int).toNat ≤ 11728124029610
 rotate_left
 ·rw [if_neg c3] at H
  exact absurd H (by simp)
 rw [if_pos c3] at H
 have c3b0 := eq_true c3
 have c3b1 : decide (((l0_0.length : Int) : Int).toNat ≤ 11728124029610) = true := de c3
 clear c3
 obtain ⟨y365, hy365⟩ : ∃ y_ : List (List Int), y_ = (List.replicate ((l0_0.length : Int) : Int).toNat []) := ⟨_, rfl⟩
 replace H : (Zal.l0 k y365 l0_0 (l0_0.length : Int) 0 l0_0) = some r := by first | (rw [hy365]; with_reducible exact H) | (have H2_ := (Option.bind_some _ _).symm.trans H; rw [hy365]; with_reducible exact H2_) | (have H2_ := (Option.bind_some _ _).symm.trans H; with_reducible exact H2_) | with_reducible exact H | (rw [hy365]; exact H) | exact H
 have Ny365 := am hy365
 clear hy365
 have H' := am H
 clear H
 go_enter Tryz.func45, Tryz.ntmps45
 go_wp2_with (first | ((with_reducible refine gate_dst (N := 1) rfl ?_); refine box_event ?hg (N := 1) ?hd (cs := #[.slice A0_0 l0_0.length c0_0]) (t := 40) ?hr ?_; (case hd => rfl); (case hg => rfl); (case hr => go_simp <;> rfl); intro gb364 hg w4 hbox hb; replace HO0_0 := eV HO0_0.out hg hb; have BK364 := am hbox; have GW364 := gef hg HB.out; have GE364 := gef hg HB.out; replace HB := bs HB.out hb; clear hb hbox hg; obtain ⟨hcz5_0, hfz5_0⟩ := bk1 BK364.out) | ((with_reducible refine gate_dst (N := 9) rfl ?_); refine Kd.N_make (Kd.slice 3 (Kd.int .i64)) _ 32 rfl (N' := 9) rfl 74 _ _ rfl (l0_0.length : Int) rfl rfl Tryz.underlying74 (.slice none 0 0) 24 info32 rfl (by decide) (by omega) [] (ok := fun k_ => w4.heap.size ≤ k_) (okp := fun _ => False) (Kd.FK_slice_mk (Nat.le_refl _) (Kd.F_nil _ _ _)) (fun _ hk => hk.elim) (Nat.le_refl _) (od (by with_reducible assumption)) (Nat.le_trans (Nat.mul_le_mul_right _ (od (by with_reducible assumption) : (l0_0.length : Int).toNat ≤ 11728124029610)) (by omega)) (Below.refl _ _) (Nat.le_refl _) ?_; intro v366 w6 ho7 hb hg_ hnew_; clear hg_ hnew_; (first | rw [← Ny365.out] at ho7 | (simp only [Int.reduceToNat] at ho7; rw [← Ny365.out] at ho7)); replace HO0_0 := am (Kd.V_elder' (vV HO0_0.out) (Kd.N_base ho7) hb); have HO367 := am (Kd.N_lower (Kd.N_mono (ok' := fun k_ => (P0_0_ k_ ∨ w.heap.size ≤ k_) ∧ k_ ≠ gb364) ho7 (fun k_ hk_ => ⟨(.inr (Nat.le_trans (below_size (vb HB.out)) hk_)), (Kd.freshB (g := gb364) (o := .cells #[.slice A0_0 l0_0.length c0_0] 40 (0, 0)) (vk BK364.out) k_ hk_)⟩)) (below_size (vb HB.out))); replace BK364 := kb BK364.out hb; replace HB := bs HB.out hb; clear hb ho7; obtain ⟨hcz8_0, hfz8_0⟩ := bk1 BK364.out))
 go_loopg [13] k (fun kq v13 w' => ∃ (x3_1 : List (List Int)) (x13_1 : Int), v13 = .int .i64 x13_1 ∧ Aside0 (Zal.l0 kq x3_1 l0_0 (l0_0.length : Int) x13_1 l0_0 = some r) ∧ Aside0 (kq ≤ k) ∧ Aside0 (Kd.N (Kd.slice 3 (Kd.int .i64)) 32 w' w.heap.size (fun k_ => (P0_0_ k_ ∨ w.heap.size ≤ k_) ∧ k_ ≠ gb364) v366 x3_1) ∧ Aside0 (Kd.V k34 34 w' w.heap.size (fun k_ => (P0_0_ k_ ∨ w.heap.size ≤ k_) ∧ some k_ ≠ (v366 : Value).ownBlock ∧ k_ ≠ gb364) (.slice A0_0 l0_0.length c0_0) l0_0) ∧ Aside0 (Kd.V k34 34 w' w.heap.size (fun k_ => (P0_0_ k_ ∨ w.heap.size ≤ k_) ∧ some k_ ≠ (v366 : Value).ownBlock ∧ k_ ≠ gb364) (.slice A0_0 l0_0.length c0_0) l0_0) ∧ Aside0 (w'.heap[gb364]? = some (.cells #[(.slice A0_0 l0_0.length c0_0)] 40 (0, 0))) ∧ Aside0 (Below w.heap.size w w'))
 case atStart => exact ⟨(y365), (0), (by first | rfl | (simp; done) | simp [*]), H', ⟨Nat.le_refl _⟩, ⟨vN HO367.out⟩, ⟨vV (Kd.V_mono HO0_0.out (fun _ hk => ⟨hk.1.1, ⟨hk.2, hk.1.2⟩⟩))⟩, ⟨vV (Kd.V_mono HO0_0.out (fun _ hk => ⟨hk.1.1, ⟨hk.2, hk.1.2⟩⟩))⟩, ⟨vk BK364.out⟩, ⟨vb HB.out⟩⟩
 case round =>
  clear H'
  (try clear c2); (try clear c2b0); (try clear c2b1); (try clear p2); (try clear c3); (try clear c3b0); (try clear c3b1); (try clear c4); (try clear hcz5_0); (try clear hcz8_0); (try clear hfz5_0); (try clear hfz8_0)
  obtain ⟨x3_1, x13_1, rfl, HA, HK1, HO_3, HO_11, HO_365000, BK364, HB⟩ := hrel
  cases gk with
  | zero => exact absurd HA.out (by simp [Zal.l0])
  | succ k1 =>
   have H := HA.out
   clear HA
   simp only [Zal.l0] at H
   by_cases c9 : x13_1 < (l0_0.length : Int)
   rotate_left
   ·rw [if_neg c9] at H
    have c9b0 : decide (x13_1 < (l0_0.length : Int)) = false := df c9
    clear c9
    obtain rfl := Option.some.inj H
    go_wp2
    go_ret
    exact ⟨_, by rfl, vN (Kd.N_mono HO_3.out (fun _ hk => hk.1)), vb HB.out⟩
   rw [if_pos c9] at H
   have c9b0 : decide (x13_1 < (l0_0.length : Int)) = true := de c9
   clear c9
   by_cases c10 : 0 ≤ x13_1
   rotate_left
   ·rw [if_neg c10] at H
    exact absurd H (by simp)
   rw [if_pos c10] at H
   have c10b0 : decide (0 ≤ x13_1) = true := de c10
   clear c10
   by_cases c11 : x13_1 < (l0_0.length : Int)
   rotate_left
   ·rw [if_neg c11] at H
    exact absurd H (by simp)
   rw [if_pos c11] at H
   have c11b0 : decide (x13_1 < (l0_0.length : Int)) = true := de c11
   clear c11
   by_cases c12 : ((rd_T34 l0_0 x13_1).f0) = 5
   ·rw [if_pos c12] at H
    have c12b0 : (((rd_T34 l0_0 x13_1).f0) == 5) = true := beq_iff_eq.mpr c12
    have c12b1 : (((rd_T34 l0_0 x13_1).f0) != 5) = false := bne_eq_false_iff_eq.mpr c12
    clear c12
    by_cases c13 : x13_1 < (x3_1.length : Int)
    rotate_left
    ·rw [if_neg c13] at H
     exact absurd H (by simp)
    rw [if_pos c13] at H
    have c13b0 : decide (x13_1 < (x3_1.length : Int)) = true := de c13
    clear c13
    obtain ⟨y370, hy370⟩ : ∃ y_ : List (List Int), y_ = (x3_1.set (x13_1 : Int).toNat ((rd_T34 l0_0 x13_1).f4)) := ⟨_, rfl⟩
    replace H : (Zal.l0 k1 y370 l0_0 (l0_0.length : Int) (wrap64 (x13_1 + 1)) l0_0) = some r := by first | (rw [hy370]; with_reducible exact H) | (have H2_ := (Option.bind_some _ _).symm.trans H; rw [hy370]; with_reducible exact H2_) | (have H2_ := (Option.bind_some _ _).symm.trans H; with_reducible exact H2_) | with_reducible exact H | (rw [hy370]; exact H) | exact H
    have Ny370 := am hy370
    clear hy370
    have H' := am H
    clear H
    have p368 : 0 ≤ (x13_1 : Int) := od (by with_reducible assumption)
    have q368 : x13_1 < (l0_0.length : Int) := od (by with_reducible assumption)
    obtain ⟨ad368, A368_4, c368_4, e368, hx368_0, hx368_1, hx368_2, hx368_3, hx368_4, hx368_5, hl368_4, hi368_4⟩ := at_T34 (Kd.V_reads' HO_11.out).2.2 x13_1 p368 q368
    cases e368
    obtain ⟨ce368, hce368, hMe368, hcc368⟩ := Kd.V_get HO_11.out z34 x13_1 p368 (by first | exact q368 | exact od (by with_reducible assumption) | (have e_ := (Kd.V_reads' HO_11.out).1; omega))
    obtain ⟨ua368_4, uc368_4, rfl, ul368_4, ge368_4⟩ := k34_openF hMe368
    have hv368_4 := hcc368 4 _ rfl
    rw [add_field _ _ 4 (by omega)] at hv368_4
    replace hv368_4 := Option.some.inj (hv368_4.symm.trans hx368_4)
    injection hv368_4 with hva_ hvn_ hvc_
    rw [hva_] at ge368_4
    rw [hvc_] at ul368_4
    have HL368_4 := am (show Kd.V (Kd.int .i64) 3 _ w.heap.size _ _ ((rd_T34 l0_0 x13_1).f4) from Kd.V_mk ul368_4 ge368_4)
    clear hva_ hvn_ hvc_ ge368_4 ul368_4
    clear hcc368 hce368
    have HR368_4 := am hi368_4
    have HC368_4 := am hl368_4
    clear hi368_4 hl368_4
    replace p368 := eq_true p368
    replace q368 := eq_true q368
    go_wp2_with (first | ((with_reducible refine gate_dst (N := 5) rfl ?_); refine box_event ?hg (N := 5) ?hd (cs := #[.int .i64 0, .int .i64 0, .string (⟨#[]⟩ : ByteArray), .string (⟨#[]⟩ : ByteArray), .slice none 0 0, .string (⟨#[]⟩ : ByteArray)]) (t := 34) ?hr ?_; (case hd => rfl); (case hg => rfl); (case hr => go_simp <;> rfl); intro gb369 hg w15 hbox hb; replace HO_3 := eN HO_3.out hg hb; replace HO_11 := eV HO_11.out hg hb; replace HO_365000 := eV HO_365000.out hg hb; replace HL368_4 := eV HL368_4.out hg hb; replace HR368_4 := kC HR368_4.out hb; have BK369 := am hbox; have GW369 := gef hg HB.out; have GE369 := gef hg HB.out; replace HB := bs HB.out hb; have NB364_369 := nl hg BK364.out; have NB369_364 := ng hg BK364.out; replace BK364 := kb BK364.out hb; clear hb hbox hg; have hnb16 := NB369_364.out; have hnc16 := NB364_369.out; obtain ⟨hcz17_0, hcz17_1, hcz17_2, hcz17_3, hcz17_4, hcz17_5, hfz17_0, hfz17_1, hfz17_2, hfz17_3, hfz17_4, hfz17_5⟩ := bk6 BK369.out) | ((with_reducible refine gate_store (t := 34) (p := 5) rfl ?_); refine store_event (t := 34) (p := 5) (v := ?vo_w18) (w1 := ((((((w15.setCell ⟨gb369, 0, none⟩ (.int .i64 ((rd_T34 l0_0 x13_1).f0))).setCell ⟨gb369, 1, none⟩ (.int .i64 ((rd_T34 l0_0 x13_1).f1))).setCell ⟨gb369, 2, none⟩ (.string ((rd_T34 l0_0 x13_1).f2))).setCell ⟨gb369, 3, none⟩ (.string ((rd_T34 l0_0 x13_1).f3))).setCell ⟨gb369, 4, none⟩ (.slice A368_4 ((rd_T34 l0_0 x13_1).f4).length c368_4)).setCell ⟨gb369, 5, none⟩ (.string ((rd_T34 l0_0 x13_1).f5)))) ?hg ?ho ?hn ?hr ?_; (case ho => rfl); (case hg => rfl); (case hn => rfl); (case hr => go_simp <;> rfl); intro w18 hw; replace HO_3 : Aside0 (Kd.N (Kd.slice 3 (Kd.int .i64)) 32 w18 w.heap.size (fun k_ => (P0_0_ k_ ∨ w.heap.size ≤ k_) ∧ k_ ≠ gb364 ∧ k_ ≠ gb369) v366 x3_1) := ⟨(by rw [hw]; exact (vN (Kd.N_mono (Kd.N_far (p := ⟨gb369, 5, none⟩) (Kd.N_far (p := ⟨gb369, 4, none⟩) (Kd.N_far (p := ⟨gb369, 3, none⟩) (Kd.N_far (p := ⟨gb369, 2, none⟩) (Kd.N_far (p := ⟨gb369, 1, none⟩) (Kd.N_far (p := ⟨gb369, 0, none⟩) (Kd.N_mono HO_3.out (fun k_ hk => (⟨hk, hk.2⟩ : _ ∧ k_ ≠ gb369))) (fun _ hk => hk.2) (.int .i64 ((rd_T34 l0_0 x13_1).f0))) (fun _ hk => hk.2) (.int .i64 ((rd_T34 l0_0 x13_1).f1))) (fun _ hk => hk.2) (.string ((rd_T34 l0_0 x13_1).f2))) (fun _ hk => hk.2) (.string ((rd_T34 l0_0 x13_1).f3))) (fun _ hk => hk.2) (.slice A368_4 ((rd_T34 l0_0 x13_1).f4).length c368_4)) (fun _ hk => hk.2) (.string ((rd_T34 l0_0 x13_1).f5))) (fun _ hk => ⟨hk.1.1.1, ⟨hk.1.1.2, hk.1.2⟩⟩))))⟩; replace HO_11 : Aside0 (Kd.V k34 34 w18 w.heap.size (fun k_ => (P0_0_ k_ ∨ w.heap.size ≤ k_) ∧ some k_ ≠ (v366 : Value).ownBlock ∧ k_ ≠ gb364 ∧ k_ ≠ gb369) (.slice (some ad368) l0_0.length c0_0) l0_0) := ⟨(by rw [hw]; exact (vV (Kd.V_mono (fV6 gb369 (Kd.V_mono HO_11.out (fun k_ hk => (⟨hk, hk.2⟩ : _ ∧ k_ ≠ gb369))) (.int .i64 ((rd_T34 l0_0 x13_1).f0)) (.int .i64 ((rd_T34 l0_0 x13_1).f1)) (.string ((rd_T34 l0_0 x13_1).f2)) (.string ((rd_T34 l0_0 x13_1).f3)) (.slice A368_4 ((rd_T34 l0_0 x13_1).f4).length c368_4) (.string ((rd_T34 l0_0 x13_1).f5))) (fun _ hk => ⟨hk.1.1.1, ⟨hk.1.1.2.1, ⟨hk.1.1.2.2, hk.1.2⟩⟩⟩))))⟩; replace HO_365000 : Aside0 (Kd.V k34 34 w18 w.heap.size (fun k_ => (P0_0_ k_ ∨ w.heap.size ≤ k_) ∧ some k_ ≠ (v366 : Value).ownBlock ∧ k_ ≠ gb364 ∧ k_ ≠ gb369) (.slice (some ad368) l0_0.length c0_0) l0_0) := ⟨(by rw [hw]; exact (vV (Kd.V_mono (fV6 gb369 (Kd.V_mono HO_365000.out (fun k_ hk => (⟨hk, hk.2⟩ : _ ∧ k_ ≠ gb369))) (.int .i64 ((rd_T34 l0_0 x13_1).f0)) (.int .i64 ((rd_T34 l0_0 x13_1).f1)) (.string ((rd_T34 l0_0 x13_1).f2)) (.string ((rd_T34 l0_0 x13_1).f3)) (.slice A368_4 ((rd_T34 l0_0 x13_1).f4).length c368_4) (.string ((rd_T34 l0_0 x13_1).f5))) (fun _ hk => ⟨hk.1.1.1, ⟨hk.1.1.2.1, ⟨hk.1.1.2.2, hk.1.2⟩⟩⟩))))⟩; replace HL368_4 : Aside0 (Kd.V (Kd.int .i64) 3 w18 w.heap.size (fun k_ => (P0_0_ k_ ∨ w.heap.size ≤ k_) ∧ some k_ ≠ (v366 : Value).ownBlock ∧ k_ ≠ gb364 ∧ k_ ≠ gb369) (.slice A368_4 ((rd_T34 l0_0 x13_1).f4).length c368_4) ((rd_T34 l0_0 x13_1).f4)) := ⟨(by rw [hw]; exact (vV (Kd.V_mono (fV6 gb369 (Kd.V_mono HL368_4.out (fun k_ hk => (⟨hk, hk.2⟩ : _ ∧ k_ ≠ gb369))) (.int .i64 ((rd_T34 l0_0 x13_1).f0)) (.int .i64 ((rd_T34 l0_0 x13_1).f1)) (.string ((rd_T34 l0_0 x13_1).f2)) (.string ((rd_T34 l0_0 x13_1).f3)) (.slice A368_4 ((rd_T34 l0_0 x13_1).f4).length c368_4) (.string ((rd_T34 l0_0 x13_1).f5))) (fun _ hk => ⟨hk.1.1.1, ⟨hk.1.1.2.1, ⟨hk.1.1.2.2, hk.1.2⟩⟩⟩))))⟩; replace BK364 : Aside0 (w18.heap[gb364]? = some (.cells #[.slice (some ad368) l0_0.length c0_0] 40 (0, 0))) := ⟨(by rw [hw]; exact (by exact vt (bf (vt (bf (vt (bf (vt (bf (vt (bf (vt (bf (vt BK364.out) NB364_369.out)) NB364_369.out)) NB364_369.out)) NB364_369.out)) NB364_369.out)) NB364_369.out)))⟩; replace BK369 : Aside0 (w18.heap[gb369]? = some (.cells #[.int .i64 ((rd_T34 l0_0 x13_1).f0), .int .i64 ((rd_T34 l0_0 x13_1).f1), .string ((rd_T34 l0_0 x13_1).f2), .string ((rd_T34 l0_0 x13_1).f3), .slice A368_4 ((rd_T34 l0_0 x13_1).f4).length c368_4, .string ((rd_T34 l0_0 x13_1).f5)] 34 (0, 0))) := ⟨(by rw [hw]; exact (by exact (vt (bp (vt (bp (vt (bp (vt (bp (vt (bp (vt (bp (vt BK369.out) 0)) 1)) 2)) 3)) 4)) 5)).trans rfl))⟩; replace HB : Aside0 (Below w.heap.size w w18) := ⟨(by rw [hw]; exact (vb HB.out))⟩; clear hw; obtain ⟨hcz19_0, hcz19_1, hcz19_2, hcz19_3, hcz19_4, hcz19_5, hfz19_0, hfz19_1, hfz19_2, hfz19_3, hfz19_4, hfz19_5⟩ := bk6 BK369.out; have p14 : 0 ≤ (x13_1 : Int) := od (by with_reducible assumption); have q14 : (x13_1 : Int) < ((x3_1.length : Int) : Int) := od (by with_reducible assumption); obtain ⟨go14, co14, eo14, gb14, gl14, cl14, HG14⟩ := Kd.N_form HO_3.out (by omega); (first | cases eo14 | (injection eo14 with ea_ en_ ec_; (first | subst ea_ | (injection ea_ with ea_; subst ea_)); subst ec_; clear en_)); have GB14 := am gb14; have GG14 := am HG14; clear gb14 gl14 HG14; obtain ⟨ce14, hcl14, hM14, hcc14, hfr14⟩ := Kd.N_elem HO_3.out [] (x13_1 : Int) p14 q14; obtain ⟨ua14_0, uc14_0, rfl, ul14_0, ge14_0⟩ := Kd.FK_slice_open hM14; have hx14_0 := hcc14 0 _ rfl; have hf14_0 := hfr14 0; (try simp only [show ((Kd.slice 3 (Kd.int .i64))).sz = 1 from rfl, Nat.mul_one, Nat.add_zero] at hx14_0); (try simp only [show ((Kd.slice 3 (Kd.int .i64))).sz = 1 from rfl, Nat.mul_one, Nat.add_zero] at hf14_0); clear hcl14 hcc14 hfr14 hM14; replace p14 := eq_true p14; replace q14 := eq_true q14; have HX20 := am (show Kd.N (Kd.slice 3 (Kd.int .i64)) 32 w18 w.heap.size (fun k_ => (P0_0_ k_ ∨ w.heap.size ≤ k_) ∧ k_ ≠ gb364 ∧ k_ ≠ gb369) (.slice (some ⟨go14, 0, none⟩) x3_1.length co14) x3_1 from (vN HO_3.out)); obtain ⟨ce20, hcl20, hM20, hcc20, hfr20⟩ := Kd.N_elem HX20.out [] (x13_1 : Int) (od (by with_reducible assumption)) (by have h_ : (x13_1 : Int) < ((x3_1.length : Int) : Int) := od (by with_reducible assumption); first | exact h_ | (have e_ := (Kd.N_reads' HO_3.out).1; omega) | simpa using h_); obtain ⟨ua20_0, uc20_0, rfl, ul20_0, ge20_0⟩ := Kd.FK_slice_open hM20; have HP20 := Kd.N_seg HX20.out (x13_1 : Int) (od (by with_reducible assumption)) (by have h_ : (x13_1 : Int) < ((x3_1.length : Int) : Int) := od (by with_reducible assumption); first | exact h_ | (have e_ := (Kd.N_reads' HO_3.out).1; omega) | simpa using h_) (seg := [.slice A368_4 ((rd_T34 l0_0 x13_1).f4).length c368_4]) (j := 0) hcl20 hcc20 (show 1 ≤ 1 from by decide) (x' := (rd_T34 l0_0 x13_1).f4) (Kd.FK_slice_mk (Kd.V_reads' (Kd.V_mono (ok' := (fun k_ => ((fun k_ => (P0_0_ k_ ∨ w.heap.size ≤ k_) ∧ k_ ≠ gb364 ∧ k_ ≠ gb369)) k_ ∧ k_ ≠ go14)) (HL368_4.out) (fun k_ hk => ⟨⟨hk.1, ⟨hk.2.2.1, hk.2.2.2⟩⟩, fun e_ => (hk.2.1) (by rw [e_]; rfl)⟩))).2.1 (Kd.V_F (Kd.V_mono (ok' := (fun k_ => ((fun k_ => (P0_0_ k_ ∨ w.heap.size ≤ k_) ∧ k_ ≠ gb364 ∧ k_ ≠ gb369)) k_ ∧ k_ ≠ go14)) (HL368_4.out) (fun k_ hk => ⟨⟨hk.1, ⟨hk.2.2.1, hk.2.2.2⟩⟩, fun e_ => (hk.2.1) (by rw [e_]; rfl)⟩)))) (fun _ hk => hk); have hx20_0 := hcc20 0 _ rfl; (try simp only [show ((Kd.slice 3 (Kd.int .i64))).sz = 1 from rfl, Nat.mul_one, Nat.add_zero] at hx20_0); have hf20_0 := hfr20 0; (try simp only [show ((Kd.slice 3 (Kd.int .i64))).sz = 1 from rfl, Nat.mul_one, Nat.add_zero] at hf20_0); clear hcl20 hcc20 hfr20 hM20; (try simp only [show ((Kd.slice 3 (Kd.int .i64))).sz = 1 from rfl, Nat.mul_one, Nat.add_zero] at HP20); (try simp only [show ((Kd.slice 3 (Kd.int .i64))).sz = 1 from rfl, Nat.mul_one, Nat.add_zero] at HP20)) | ((with_reducible refine gate_store (t := 32) (p := 26) rfl ?_); refine store_event (t := 32) (p := 26) (v := ?vo_w21) (w1 := (w18.setCell ⟨go14, (x13_1 : Int).toNat, none⟩ (.slice A368_4 ((rd_T34 l0_0 x13_1).f4).length c368_4))) ?hg ?ho ?hn ?hr ?_; (case ho => rfl); (case hg => rfl); (case hn => rfl); (case hr => go_simp <;> rfl); intro w21 hw; have hg : w18.grownBy w21 (some go14) := (by rw [hw]; exact HP20.2); have hp_ : Kd.N (Kd.slice 3 (Kd.int .i64)) 32 w21 w.heap.size (fun k_ => (P0_0_ k_ ∨ w.heap.size ≤ k_) ∧ k_ ≠ gb364 ∧ k_ ≠ gb369) (.slice (some ⟨go14, 0, none⟩) x3_1.length co14) y370 := (by rw [hw, Ny370.out]; exact HP20.1); clear HP20; replace HO_11 := am (Kd.V_afterv (v := (.slice (some ⟨go14, 0, none⟩) x3_1.length co14)) (v1 := (.slice (some ⟨go14, 0, none⟩) x3_1.length co14)) (ok := (fun k_ => (P0_0_ k_ ∨ w.heap.size ≤ k_) ∧ k_ ≠ gb364 ∧ k_ ≠ gb369)) (vV (Kd.V_mono HO_11.out (fun _ hk => ⟨⟨hk.1, ⟨hk.2.2.1, hk.2.2.2⟩⟩, hk.2.1⟩))) hg (.inl rfl)); replace HO_365000 := am (Kd.V_afterv (v := (.slice (some ⟨go14, 0, none⟩) x3_1.length co14)) (v1 := (.slice (some ⟨go14, 0, none⟩) x3_1.length co14)) (ok := (fun k_ => (P0_0_ k_ ∨ w.heap.size ≤ k_) ∧ k_ ≠ gb364 ∧ k_ ≠ gb369)) (vV (Kd.V_mono HO_365000.out (fun _ hk => ⟨⟨hk.1, ⟨hk.2.2.1, hk.2.2.2⟩⟩, hk.2.1⟩))) hg (.inl rfl)); replace BK364 := am (blk_grown (g := gb364) (o := .cells #[.slice (some ad368) l0_0.length c0_0] 40 (0, 0)) (vk BK364.out) hg (Kd.N_ne HO_3.out BK364.out (by decide))); replace HL368_4 := am (Kd.V_afterv (v := (.slice (some ⟨go14, 0, none⟩) x3_1.length co14)) (v1 := (.slice (some ⟨go14, 0, none⟩) x3_1.length co14)) (ok := (fun k_ => (P0_0_ k_ ∨ w.heap.size ≤ k_) ∧ k_ ≠ gb364 ∧ k_ ≠ gb369)) (vV (Kd.V_mono HL368_4.out (fun _ hk => ⟨⟨hk.1, ⟨hk.2.2.1, hk.2.2.2⟩⟩, hk.2.1⟩))) hg (.inl rfl)); replace BK369 := am (blk_grown (g := gb369) (o := .cells #[.int .i64 ((rd_T34 l0_0 x13_1).f0), .int .i64 ((rd_T34 l0_0 x13_1).f1), .string ((rd_T34 l0_0 x13_1).f2), .string ((rd_T34 l0_0 x13_1).f3), .slice A368_4 ((rd_T34 l0_0 x13_1).f4).length c368_4, .string ((rd_T34 l0_0 x13_1).f5)] 34 (0, 0)) (vk BK369.out) hg (Kd.N_ne HO_3.out BK369.out (by decide))); replace HO_3 := am (hp_); replace HB := am ((by rw [hw]; exact below_set (HB.out) GB14.out : Below w.heap.size w w21)); clear hg hw hp_))
    go_roundg k1
    case measure => have := HK1.out; omega
    case rel => exact ⟨(y370), (wrap64 (x13_1 + 1)), (by first | rfl | (simp; done) | simp [*]), H', ⟨by have := HK1.out; omega⟩, ⟨vN (Kd.N_mono HO_3.out (fun _ hk => ⟨hk.1, hk.2.1⟩))⟩, ⟨vV (Kd.V_mono HO_11.out (fun _ hk => ⟨hk.1.1, ⟨hk.2, hk.1.2.1⟩⟩))⟩, ⟨vV (Kd.V_mono HO_365000.out (fun _ hk => ⟨hk.1.1, ⟨hk.2, hk.1.2.1⟩⟩))⟩, ⟨vk BK364.out⟩, ⟨vb HB.out⟩⟩
   rw [if_neg c12] at H
   have c12b0 : (((rd_T34 l0_0 x13_1).f0) == 5) = false := beq_eq_false_iff_ne.mpr c12
   have c12b1 : (((rd_T34 l0_0 x13_1).f0) != 5) = true := bne_iff_ne.mpr c12
   by_cases c22 : ((rd_T34 l0_0 x13_1).f0) = 6
   ·rw [if_pos c22] at H
    have c22b0 : (((rd_T34 l0_0 x13_1).f0) == 6) = true := beq_iff_eq.mpr c22
    have c22b1 : (((rd_T34 l0_0 x13_1).f0) != 6) = false := bne_eq_false_iff_eq.mpr c22
    clear c22
    replace H := be H
    obtain ⟨t371, A230, H⟩ := H
    try dsimp only at H
    have A23 := am A230
    clear A230
    by_cases c24 : x13_1 < (x3_1.length : Int)
    rotate_left
    ·rw [if_neg c24] at H
     exact absurd H (by simp)
    rw [if_pos c24] at H
    have c24b0 : decide (x13_1 < (x3_1.length : Int)) = true := de c24
    clear c24
    obtain ⟨y374, hy374⟩ : ∃ y_ : List (List Int), y_ = (x3_1.set (x13_1 : Int).toNat t371) := ⟨_, rfl⟩
    replace H : (Zal.l0 k1 y374 l0_0 (l0_0.length : Int) (wrap64 (x13_1 + 1)) l0_0) = some r := by first | (rw [hy374]; with_reducible exact H) | (have H2_ := (Option.bind_some _ _).symm.trans H; rw [hy374]; with_reducible exact H2_) | (have H2_ := (Option.bind_some _ _).symm.trans H; with_reducible exact H2_) | with_reducible exact H | (rw [hy374]; exact H) | exact H
    have Ny374 := am hy374
    clear hy374
    have H' := am H
    clear H
    have p368 : 0 ≤ (x13_1 : Int) := od (by with_reducible assumption)
    have q368 : x13_1 < (l0_0.length : Int) := od (by with_reducible assumption)
    obtain ⟨ad368, A368_4, c368_4, e368, hx368_0, hx368_1, hx368_2, hx368_3, hx368_4, hx368_5, hl368_4, hi368_4⟩ := at_T34 (Kd.V_reads' HO_11.out).2.2 x13_1 p368 q368
    cases e368
    obtain ⟨ce368, hce368, hMe368, hcc368⟩ := Kd.V_get HO_11.out z34 x13_1 p368 (by first | exact q368 | exact od (by with_reducible assumption) | (have e_ := (Kd.V_reads' HO_11.out).1; omega))
    obtain ⟨ua368_4, uc368_4, rfl, ul368_4, ge368_4⟩ := k34_openF hMe368
    have hv368_4 := hcc368 4 _ rfl
    rw [add_field _ _ 4 (by omega)] at hv368_4
    replace hv368_4 := Option.some.inj (hv368_4.symm.trans hx368_4)
    injection hv368_4 with hva_ hvn_ hvc_
    rw [hva_] at ge368_4
    rw [hvc_] at ul368_4
    have HL368_4 := am (show Kd.V (Kd.int .i64) 3 _ w.heap.size _ _ ((rd_T34 l0_0 x13_1).f4) from Kd.V_mk ul368_4 ge368_4)
    clear hva_ hvn_ hvc_ ge368_4 ul368_4
    clear hcc368 hce368
    have HR368_4 := am hi368_4
    have HC368_4 := am hl368_4
    clear hi368_4 hl368_4
    replace p368 := eq_true p368
    replace q368 := eq_true q368
    go_wp2_with (first | ((with_reducible refine gate_dst (N := 5) rfl ?_); refine box_event ?hg (N := 5) ?hd (cs := #[.int .i64 0, .int .i64 0, .string (⟨#[]⟩ : ByteArray), .string (⟨#[]⟩ : ByteArray), .slice none 0 0, .string (⟨#[]⟩ : ByteArray)]) (t := 34) ?hr ?_; (case hd => rfl); (case hg => rfl); (case hr => go_simp <;> rfl); intro gb369 hg w26 hbox hb; replace HO_3 := eN HO_3.out hg hb; replace HO_11 := eV HO_11.out hg hb; replace HO_365000 := eV HO_365000.out hg hb; replace HL368_4 := eV HL368_4.out hg hb; replace HR368_4 := kC HR368_4.out hb; have BK369 := am hbox; have GW369 := gef hg HB.out; have GE369 := gef hg HB.out; replace HB := bs HB.out hb; have NB364_369 := nl hg BK364.out; have NB369_364 := ng hg BK364.out; replace BK364 := kb BK364.out hb; clear hb hbox hg; have hnb27 := NB369_364.out; have hnc27 := NB364_369.out; have hcz28_0 : w26.cell? ⟨gb369, 0, none⟩ = some (.int .i64 0) := (blk_cell BK369.out 0).trans rfl; have hcz28_1 : w26.cell? ⟨gb369, 1, none⟩ = some (.int .i64 0) := (blk_cell BK369.out 1).trans rfl; have hcz28_2 : w26.cell? ⟨gb369, 2, none⟩ = some (.string (⟨#[]⟩ : ByteArray)) := (blk_cell BK369.out 2).trans rfl; have hcz28_3 : w26.cell? ⟨gb369, 3, none⟩ = some (.string (⟨#[]⟩ : ByteArray)) := (blk_cell BK369.out 3).trans rfl; have hcz28_4 : w26.cell? ⟨gb369, 4, none⟩ = some (.slice none 0 0) := (blk_cell BK369.out 4).trans rfl; have hcz28_5 : w26.cell? ⟨gb369, 5, none⟩ = some (.string (⟨#[]⟩ : ByteArray)) := (blk_cell BK369.out 5).trans rfl; have hfz28_0 := blk_frozen BK369.out 0; have hfz28_1 := blk_frozen BK369.out 1; have hfz28_2 := blk_frozen BK369.out 2; have hfz28_3 := blk_frozen BK369.out 3; have hfz28_4 := blk_frozen BK369.out 4; have hfz28_5 := blk_frozen BK369.out 5; obtain ⟨hcz29_0, hfz29_0⟩ := bk1 BK364.out) | ((with_reducible refine gate_callee (f := 78) rfl ?_); refine goesL_ (some 33) rfl rfl Tryz.func78 (by kernel_rfl) rfl #[.agg #[.slice (some ad368) l0_0.length c0_0], .agg #[.int .i64 ((rd_T34 l0_0 x13_1).f0), .int .i64 ((rd_T34 l0_0 x13_1).f1), .string ((rd_T34 l0_0 x13_1).f2), .string ((rd_T34 l0_0 x13_1).f3), .slice A368_4 ((rd_T34 l0_0 x13_1).f4).length c368_4, .string ((rd_T34 l0_0 x13_1).f5)]] rfl (by (try simp only [mT, mC, mN]); first | done | rfl) ?_; (with_reducible refine (Zaw.calls k1 _ _ l0_0 ((rd_T34 l0_0 x13_1).f0) ((rd_T34 l0_0 x13_1).f1) ((rd_T34 l0_0 x13_1).f2) ((rd_T34 l0_0 x13_1).f3) _ _ ((rd_T34 l0_0 x13_1).f4) ((rd_T34 l0_0 x13_1).f5) t371 _ ?side1 ?side2 ?side3 ?side4 A23.out).mono ?_); (case side1 => refine (Kd.V_reads' (e := 34) (base := w.heap.size) (ok := fun k_ => (((P0_0_ k_ ∨ w.heap.size ≤ k_) ∧ (some k_ ≠ (v366 : Value).ownBlock ∧ k_ ≠ gb364)) ∧ k_ ≠ gb369)) (n := l0_0.length) (c := c0_0) ?_).2.2; exact (vV (Kd.V_mono (fV6 gb369 (Kd.V_mono HO_365000.out (fun k_ hk => (⟨hk, hk.2⟩ : _ ∧ k_ ≠ gb369))) (.int .i64 ((rd_T34 l0_0 x13_1).f0)) (.int .i64 ((rd_T34 l0_0 x13_1).f1)) (.string ((rd_T34 l0_0 x13_1).f2)) (.string ((rd_T34 l0_0 x13_1).f3)) (.slice A368_4 ((rd_T34 l0_0 x13_1).f4).length c368_4) (.string ((rd_T34 l0_0 x13_1).f5))) (fun _ h_ => h_.1)))); (case side2 => exact (Kd.V_reads' HO_365000.out).2.1); (case side3 => repeat (first | exact ((Kd.V_reads' (vV (Kd.V_mono (fV6 gb369 (Kd.V_mono HL368_4.out (fun k_ hk => (⟨hk, hk.2⟩ : _ ∧ k_ ≠ gb369))) (.int .i64 ((rd_T34 l0_0 x13_1).f0)) (.int .i64 ((rd_T34 l0_0 x13_1).f1)) (.string ((rd_T34 l0_0 x13_1).f2)) (.string ((rd_T34 l0_0 x13_1).f3)) (.slice A368_4 ((rd_T34 l0_0 x13_1).f4).length c368_4) (.string ((rd_T34 l0_0 x13_1).f5))) (fun _ h_ => h_.1)))).2.2) | (with_reducible refine Kd.C_alloc ?_ _) | (with_reducible refine Kd.C_drewN ?_ _) | (with_reducible refine Kd.C_drew ?_))); (case side4 => exact HC368_4.out); rintro e w30 ⟨v372, rfl, ho0, hb⟩; refine ⟨_, rfl, ?_⟩; replace HO_3 := am (Kd.N_elder' (vN (Kd.N_mono (Kd.N_far (p := ⟨gb369, 5, none⟩) (Kd.N_far (p := ⟨gb369, 4, none⟩) (Kd.N_far (p := ⟨gb369, 3, none⟩) (Kd.N_far (p := ⟨gb369, 2, none⟩) (Kd.N_far (p := ⟨gb369, 1, none⟩) (Kd.N_far (p := ⟨gb369, 0, none⟩) (Kd.N_mono HO_3.out (fun k_ hk => (⟨hk, hk.2⟩ : _ ∧ k_ ≠ gb369))) (fun _ hk => hk.2) (.int .i64 ((rd_T34 l0_0 x13_1).f0))) (fun _ hk => hk.2) (.int .i64 ((rd_T34 l0_0 x13_1).f1))) (fun _ hk => hk.2) (.string ((rd_T34 l0_0 x13_1).f2))) (fun _ hk => hk.2) (.string ((rd_T34 l0_0 x13_1).f3))) (fun _ hk => hk.2) (.slice A368_4 ((rd_T34 l0_0 x13_1).f4).length c368_4)) (fun _ hk => hk.2) (.string ((rd_T34 l0_0 x13_1).f5))) (fun _ h_ => h_.1))) (Kd.R_base ho0) hb); replace HO_11 := am (Kd.V_elder' (vV (Kd.V_mono (fV6 gb369 (Kd.V_mono HO_11.out (fun k_ hk => (⟨hk, hk.2⟩ : _ ∧ k_ ≠ gb369))) (.int .i64 ((rd_T34 l0_0 x13_1).f0)) (.int .i64 ((rd_T34 l0_0 x13_1).f1)) (.string ((rd_T34 l0_0 x13_1).f2)) (.string ((rd_T34 l0_0 x13_1).f3)) (.slice A368_4 ((rd_T34 l0_0 x13_1).f4).length c368_4) (.string ((rd_T34 l0_0 x13_1).f5))) (fun _ h_ => h_.1))) (Kd.R_base ho0) hb); replace HO_365000 := am (Kd.V_elder' (vV (Kd.V_mono (fV6 gb369 (Kd.V_mono HO_365000.out (fun k_ hk => (⟨hk, hk.2⟩ : _ ∧ k_ ≠ gb369))) (.int .i64 ((rd_T34 l0_0 x13_1).f0)) (.int .i64 ((rd_T34 l0_0 x13_1).f1)) (.string ((rd_T34 l0_0 x13_1).f2)) (.string ((rd_T34 l0_0 x13_1).f3)) (.slice A368_4 ((rd_T34 l0_0 x13_1).f4).length c368_4) (.string ((rd_T34 l0_0 x13_1).f5))) (fun _ h_ => h_.1))) (Kd.R_base ho0) hb); have HO373 := am (Kd.R_lower (Kd.R_newM (M := fun k_ => (w.heap.size ≤ k_)) ho0 (below_size (vb HB.out)) (fun k_ h_ => h_)) (below_size (vb HB.out))); replace BK364 := am (blk_below (g := gb364) (o := .cells #[.slice (some ad368) l0_0.length c0_0] 40 (0, 0)) (by exact vt (bf (vt (bf (vt (bf (vt (bf (vt (bf (vt (bf (vt BK364.out) NB364_369.out)) NB364_369.out)) NB364_369.out)) NB364_369.out)) NB364_369.out)) NB364_369.out)) hb); replace HR368_4 := am (Kd.C_below ((Kd.V_reads' (vV (Kd.V_mono (fV6 gb369 (Kd.V_mono HL368_4.out (fun k_ hk => (⟨hk, hk.2⟩ : _ ∧ k_ ≠ gb369))) (.int .i64 ((rd_T34 l0_0 x13_1).f0)) (.int .i64 ((rd_T34 l0_0 x13_1).f1)) (.string ((rd_T34 l0_0 x13_1).f2)) (.string ((rd_T34 l0_0 x13_1).f3)) (.slice A368_4 ((rd_T34 l0_0 x13_1).f4).length c368_4) (.string ((rd_T34 l0_0 x13_1).f5))) (fun _ h_ => h_.1)))).2.2) hb); replace HL368_4 := am (Kd.V_elder' (vV (Kd.V_mono (fV6 gb369 (Kd.V_mono HL368_4.out (fun k_ hk => (⟨hk, hk.2⟩ : _ ∧ k_ ≠ gb369))) (.int .i64 ((rd_T34 l0_0 x13_1).f0)) (.int .i64 ((rd_T34 l0_0 x13_1).f1)) (.string ((rd_T34 l0_0 x13_1).f2)) (.string ((rd_T34 l0_0 x13_1).f3)) (.slice A368_4 ((rd_T34 l0_0 x13_1).f4).length c368_4) (.string ((rd_T34 l0_0 x13_1).f5))) (fun _ h_ => h_.1))) (Kd.R_base ho0) hb); replace BK369 := am (blk_below (g := gb369) (o := .cells #[.int .i64 ((rd_T34 l0_0 x13_1).f0), .int .i64 ((rd_T34 l0_0 x13_1).f1), .string ((rd_T34 l0_0 x13_1).f2), .string ((rd_T34 l0_0 x13_1).f3), .slice A368_4 ((rd_T34 l0_0 x13_1).f4).length c368_4, .string ((rd_T34 l0_0 x13_1).f5)] 34 (0, 0)) (by exact (vt (bp (vt (bp (vt (bp (vt (bp (vt (bp (vt (bp (vt BK369.out) 0)) 1)) 2)) 3)) 4)) 5)).trans rfl) hb); replace HB := bs HB.out hb; (try clear hb); (try clear hb2); (try clear hk); (try clear hi); (try clear ho0); have p25 : 0 ≤ (x13_1 : Int) := od (by with_reducible assumption); have q25 : (x13_1 : Int) < ((x3_1.length : Int) : Int) := od (by with_reducible assumption); obtain ⟨go25, co25, eo25, gb25, gl25, cl25, HG25⟩ := Kd.N_form HO_3.out (by omega); (first | cases eo25 | (injection eo25 with ea_ en_ ec_; (first | subst ea_ | (injection ea_ with ea_; subst ea_)); subst ec_; clear en_)); have GB25 := am gb25; have GG25 := am HG25; clear gb25 gl25 HG25; obtain ⟨ce25, hcl25, hM25, hcc25, hfr25⟩ := Kd.N_elem HO_3.out [] (x13_1 : Int) p25 q25; obtain ⟨ua25_0, uc25_0, rfl, ul25_0, ge25_0⟩ := Kd.FK_slice_open hM25; have hx25_0 := hcc25 0 _ rfl; have hf25_0 := hfr25 0; (try simp only [show ((Kd.slice 3 (Kd.int .i64))).sz = 1 from rfl, Nat.mul_one, Nat.add_zero] at hx25_0); (try simp only [show ((Kd.slice 3 (Kd.int .i64))).sz = 1 from rfl, Nat.mul_one, Nat.add_zero] at hf25_0); clear hcl25 hcc25 hfr25 hM25; replace p25 := eq_true p25; replace q25 := eq_true q25; have n_ := am (Kd.N_mono (ok' := (fun k_ => (P0_0_ k_ ∨ w.heap.size ≤ k_) ∧ some k_ ≠ (v372 : Value).ownBlock ∧ k_ ≠ gb364 ∧ k_ ≠ gb369)) HO_3.out (fun k_ hk => ⟨hk.1.1.1, ⟨hk.2, ⟨hk.1.1.2, hk.1.2⟩⟩⟩)); clear HO_3; have HO_3 := n_; clear n_; have HX31 := am (show Kd.N (Kd.slice 3 (Kd.int .i64)) 32 w30 w.heap.size (fun k_ => (P0_0_ k_ ∨ w.heap.size ≤ k_) ∧ k_ ≠ gb364 ∧ k_ ≠ gb369) (.slice (some ⟨go25, 0, none⟩) x3_1.length co25) x3_1 from (vN (Kd.N_mono HO_3.out (fun _ hk => ⟨hk.1, ⟨hk.2.2.1, hk.2.2.2⟩⟩)))); obtain ⟨ce31, hcl31, hM31, hcc31, hfr31⟩ := Kd.N_elem HX31.out [] (x13_1 : Int) (od (by with_reducible assumption)) (by have h_ : (x13_1 : Int) < ((x3_1.length : Int) : Int) := od (by with_reducible assumption); first | exact h_ | (have e_ := (Kd.N_reads' HO_3.out).1; omega) | simpa using h_); obtain ⟨ua31_0, uc31_0, rfl, ul31_0, ge31_0⟩ := Kd.FK_slice_open hM31; have HP31 := Kd.N_seg HX31.out (x13_1 : Int) (od (by with_reducible assumption)) (by have h_ : (x13_1 : Int) < ((x3_1.length : Int) : Int) := od (by with_reducible assumption); first | exact h_ | (have e_ := (Kd.N_reads' HO_3.out).1; omega) | simpa using h_) (seg := [v372]) (j := 0) hcl31 hcc31 (show 1 ≤ 1 from by decide) (x' := t371) (by obtain ⟨Aq_, cq_, eq_⟩ := Kd.R_slice HO373.out; have HQ_ := HO373.out; rw [eq_] at HQ_ ⊢; exact Kd.FK_slice_mk (Kd.R_reads' (Kd.R_mono (ok' := (fun k_ => ((fun k_ => (P0_0_ k_ ∨ w.heap.size ≤ k_) ∧ k_ ≠ gb364 ∧ k_ ≠ gb369)) k_ ∧ k_ ≠ go25)) (Kd.R_types (Kd.R_types (Kd.R_apart' (HQ_) (Kd.N_typed HO_3.out) (by decide)) BK364.out (by decide)) BK369.out (by decide)) (fun k_ hk => ⟨⟨(.inr (hk.1.1.1.1)), ⟨hk.1.2, hk.2⟩⟩, fun e_ => (hk.1.1.2) (by rw [e_]; rfl)⟩))).2.1 (Kd.R_F (Kd.R_mono (ok' := (fun k_ => ((fun k_ => (P0_0_ k_ ∨ w.heap.size ≤ k_) ∧ k_ ≠ gb364 ∧ k_ ≠ gb369)) k_ ∧ k_ ≠ go25)) (Kd.R_types (Kd.R_types (Kd.R_apart' (HQ_) (Kd.N_typed HO_3.out) (by decide)) BK364.out (by decide)) BK369.out (by decide)) (fun k_ hk => ⟨⟨(.inr (hk.1.1.1.1)), ⟨hk.1.2, hk.2⟩⟩, fun e_ => (hk.1.1.2) (by rw [e_]; rfl)⟩)))) (fun _ hk => hk); have hx31_0 := hcc31 0 _ rfl; (try simp only [show ((Kd.slice 3 (Kd.int .i64))).sz = 1 from rfl, Nat.mul_one, Nat.add_zero] at hx31_0); have hf31_0 := hfr31 0; (try simp only [show ((Kd.slice 3 (Kd.int .i64))).sz = 1 from rfl, Nat.mul_one, Nat.add_zero] at hf31_0); clear hcl31 hcc31 hfr31 hM31; (try simp only [show ((Kd.slice 3 (Kd.int .i64))).sz = 1 from rfl, Nat.mul_one, Nat.add_zero] at HP31); (try simp only [show ((Kd.slice 3 (Kd.int .i64))).sz = 1 from rfl, Nat.mul_one, Nat.add_zero] at HP31)) | ((with_reducible refine gate_store (t := 32) (p := 34) rfl ?_); refine store_event (t := 32) (p := 34) (v := ?vo_w32) (w1 := (w30.setCell ⟨go25, (x13_1 : Int).toNat, none⟩ (v372))) ?hg ?ho ?hn ?hr ?_; (case ho => rfl); (case hg => rfl); (case hn => rfl); (case hr => obtain ⟨Aq_, cq_, eq_⟩ := Kd.R_slice HO373.out; rw [eq_]; first | (go_simp; done) | (go_simp; rfl)); intro w32 hw; have hg : w30.grownBy w32 (some go25) := (by rw [hw]; exact HP31.2); have hp_ : Kd.N (Kd.slice 3 (Kd.int .i64)) 32 w32 w.heap.size (fun k_ => (P0_0_ k_ ∨ w.heap.size ≤ k_) ∧ k_ ≠ gb364 ∧ k_ ≠ gb369) (.slice (some ⟨go25, 0, none⟩) x3_1.length co25) y374 := (by rw [hw, Ny374.out]; exact HP31.1); clear HP31; replace HO_11 := am (Kd.V_afterv (v := (.slice (some ⟨go25, 0, none⟩) x3_1.length co25)) (v1 := (.slice (some ⟨go25, 0, none⟩) x3_1.length co25)) (ok := (fun k_ => (P0_0_ k_ ∨ w.heap.size ≤ k_) ∧ some k_ ≠ (v372 : Value).ownBlock ∧ k_ ≠ gb364 ∧ k_ ≠ gb369)) (vV (Kd.V_mono HO_11.out (fun _ hk => ⟨⟨hk.1.1.1, ⟨hk.2, ⟨hk.1.1.2.2, hk.1.2⟩⟩⟩, hk.1.1.2.1⟩))) hg (.inl rfl)); replace HO_365000 := am (Kd.V_afterv (v := (.slice (some ⟨go25, 0, none⟩) x3_1.length co25)) (v1 := (.slice (some ⟨go25, 0, none⟩) x3_1.length co25)) (ok := (fun k_ => (P0_0_ k_ ∨ w.heap.size ≤ k_) ∧ some k_ ≠ (v372 : Value).ownBlock ∧ k_ ≠ gb364 ∧ k_ ≠ gb369)) (vV (Kd.V_mono HO_365000.out (fun _ hk => ⟨⟨hk.1.1.1, ⟨hk.2, ⟨hk.1.1.2.2, hk.1.2⟩⟩⟩, hk.1.1.2.1⟩))) hg (.inl rfl)); replace BK364 := am (blk_grown (g := gb364) (o := .cells #[.slice (some ad368) l0_0.length c0_0] 40 (0, 0)) (vk BK364.out) hg (Kd.N_ne HO_3.out BK364.out (by decide))); replace HL368_4 := am (Kd.V_afterv (v := (.slice (some ⟨go25, 0, none⟩) x3_1.length co25)) (v1 := (.slice (some ⟨go25, 0, none⟩) x3_1.length co25)) (ok := (fun k_ => (P0_0_ k_ ∨ w.heap.size ≤ k_) ∧ some k_ ≠ (v372 : Value).ownBlock ∧ k_ ≠ gb364 ∧ k_ ≠ gb369)) (vV (Kd.V_mono HL368_4.out (fun _ hk => ⟨⟨hk.1.1.1, ⟨hk.2, ⟨hk.1.1.2.2, hk.1.2⟩⟩⟩, hk.1.1.2.1⟩))) hg (.inl rfl)); replace BK369 := am (blk_grown (g := gb369) (o := .cells #[.int .i64 ((rd_T34 l0_0 x13_1).f0), .int .i64 ((rd_T34 l0_0 x13_1).f1), .string ((rd_T34 l0_0 x13_1).f2), .string ((rd_T34 l0_0 x13_1).f3), .slice A368_4 ((rd_T34 l0_0 x13_1).f4).length c368_4, .string ((rd_T34 l0_0 x13_1).f5)] 34 (0, 0)) (vk BK369.out) hg (Kd.N_ne HO_3.out BK369.out (by decide))); replace HO_3 := am (hp_); replace HB := am ((by rw [hw]; exact below_set (HB.out) GB25.out : Below w.heap.size w w32)); clear HO373; clear hg hw hp_))
    go_roundg k1
    case measure => have := HK1.out; omega
    case rel => exact ⟨(y374), (wrap64 (x13_1 + 1)), (by first | rfl | (simp; done) | simp [*]), H', ⟨by have := HK1.out; omega⟩, ⟨vN (Kd.N_mono HO_3.out (fun _ hk => ⟨hk.1, hk.2.1⟩))⟩, ⟨vV (Kd.V_mono HO_11.out (fun _ hk => ⟨hk.1.1, ⟨hk.2, hk.1.2.2.1⟩⟩))⟩, ⟨vV (Kd.V_mono HO_365000.out (fun _ hk => ⟨hk.1.1, ⟨hk.2, hk.1.2.2.1⟩⟩))⟩, ⟨vk BK364.out⟩, ⟨vb HB.out⟩⟩
   rw [if_neg c22] at H
   have c22b0 : (((rd_T34 l0_0 x13_1).f0) == 6) = false := beq_eq_false_iff_ne.mpr c22
   have c22b1 : (((rd_T34 l0_0 x13_1).f0) != 6) = true := bne_iff_ne.mpr c22
   by_cases c33 : ((rd_T34 l0_0 x13_1).f0) = 10
   rotate_left
   ·rw [if_neg c33] at H
    have c33b0 : (((rd_T34 l0_0 x13_1).f0) == 10) = false := beq_eq_false_iff_ne.mpr c33
    have c33b1 : (((rd_T34 l0_0 x13_1).f0) != 10) = true := bne_iff_ne.mpr c33
    have H' := am H
    clear H
    have p368 : 0 ≤ (x13_1 : Int) := od (by with_reducible assumption)
    have q368 : x13_1 < (l0_0.length : Int) := od (by with_reducible assumption)
    obtain ⟨ad368, A368_4, c368_4, e368, hx368_0, hx368_1, hx368_2, hx368_3, hx368_4, hx368_5, hl368_4, hi368_4⟩ := at_T34 (Kd.V_reads' HO_11.out).2.2 x13_1 p368 q368
    cases e368
    obtain ⟨ce368, hce368, hMe368, hcc368⟩ := Kd.V_get HO_11.out z34 x13_1 p368 (by first | exact q368 | exact od (by with_reducible assumption) | (have e_ := (Kd.V_reads' HO_11.out).1; omega))
    obtain ⟨ua368_4, uc368_4, rfl, ul368_4, ge368_4⟩ := k34_openF hMe368
    have hv368_4 := hcc368 4 _ rfl
    rw [add_field _ _ 4 (by omega)] at hv368_4
    replace hv368_4 := Option.some.inj (hv368_4.symm.trans hx368_4)
    injection hv368_4 with hva_ hvn_ hvc_
    rw [hva_] at ge368_4
    rw [hvc_] at ul368_4
    have HL368_4 := am (show Kd.V (Kd.int .i64) 3 _ w.heap.size _ _ ((rd_T34 l0_0 x13_1).f4) from Kd.V_mk ul368_4 ge368_4)
    clear hva_ hvn_ hvc_ ge368_4 ul368_4
    clear hcc368 hce368
    have HR368_4 := am hi368_4
    have HC368_4 := am hl368_4
    clear hi368_4 hl368_4
    replace p368 := eq_true p368
    replace q368 := eq_true q368
    go_wp2_with (first | ((with_reducible refine gate_dst (N := 5) rfl ?_); refine box_event ?hg (N := 5) ?hd (cs := #[.int .i64 0, .int .i64 0, .string (⟨#[]⟩ : ByteArray), .string (⟨#[]⟩ : ByteArray), .slice none 0 0, .string (⟨#[]⟩ : ByteArray)]) (t := 34) ?hr ?_; (case hd => rfl); (case hg => rfl); (case hr => go_simp <;> rfl); intro gb369 hg w44 hbox hb; replace HO_3 := eN HO_3.out hg hb; replace HO_11 := eV HO_11.out hg hb; replace HO_365000 := eV HO_365000.out hg hb; replace HL368_4 := eV HL368_4.out hg hb; replace HR368_4 := kC HR368_4.out hb; have BK369 := am hbox; have GW369 := gef hg HB.out; have GE369 := gef hg HB.out; replace HB := bs HB.out hb; have NB364_369 := nl hg BK364.out; have NB369_364 := ng hg BK364.out; replace BK364 := kb BK364.out hb; clear hb hbox hg; have hnb45 := NB369_364.out; have hnc45 := NB364_369.out; obtain ⟨hcz46_0, hcz46_1, hcz46_2, hcz46_3, hcz46_4, hcz46_5, hfz46_0, hfz46_1, hfz46_2, hfz46_3, hfz46_4, hfz46_5⟩ := bk6 BK369.out))
    go_roundg k1
    case measure => have := HK1.out; omega
    case rel => exact ⟨(x3_1), (wrap64 (x13_1 + 1)), (by first | rfl | (simp; done) | simp [*]), H', ⟨by have := HK1.out; omega⟩, ⟨vN (Kd.N_mono (Kd.N_far (p := ⟨gb369, 5, none⟩) (Kd.N_far (p := ⟨gb369, 4, none⟩) (Kd.N_far (p := ⟨gb369, 3, none⟩) (Kd.N_far (p := ⟨gb369, 2, none⟩) (Kd.N_far (p := ⟨gb369, 1, none⟩) (Kd.N_far (p := ⟨gb369, 0, none⟩) (Kd.N_mono HO_3.out (fun k_ hk => (⟨hk, hk.2⟩ : _ ∧ k_ ≠ gb369))) (fun _ hk => hk.2) (.int .i64 ((rd_T34 l0_0 x13_1).f0))) (fun _ hk => hk.2) (.int .i64 ((rd_T34 l0_0 x13_1).f1))) (fun _ hk => hk.2) (.string ((rd_T34 l0_0 x13_1).f2))) (fun _ hk => hk.2) (.string ((rd_T34 l0_0 x13_1).f3))) (fun _ hk => hk.2) (.slice A368_4 ((rd_T34 l0_0 x13_1).f4).length c368_4)) (fun _ hk => hk.2) (.string ((rd_T34 l0_0 x13_1).f5))) (fun _ hk => ⟨hk.1.1.1, hk.1.1.2⟩))⟩, ⟨vV (Kd.V_mono (fV6 gb369 (Kd.V_mono HO_11.out (fun k_ hk => (⟨hk, hk.2⟩ : _ ∧ k_ ≠ gb369))) (.int .i64 ((rd_T34 l0_0 x13_1).f0)) (.int .i64 ((rd_T34 l0_0 x13_1).f1)) (.string ((rd_T34 l0_0 x13_1).f2)) (.string ((rd_T34 l0_0 x13_1).f3)) (.slice A368_4 ((rd_T34 l0_0 x13_1).f4).length c368_4) (.string ((rd_T34 l0_0 x13_1).f5))) (fun _ hk => ⟨hk.1.1.1, ⟨hk.1.1.2.1, hk.1.1.2.2⟩⟩))⟩, ⟨vV (Kd.V_mono (fV6 gb369 (Kd.V_mono HO_365000.out (fun k_ hk => (⟨hk, hk.2⟩ : _ ∧ k_ ≠ gb369))) (.int .i64 ((rd_T34 l0_0 x13_1).f0)) (.int .i64 ((rd_T34 l0_0 x13_1).f1)) (.string ((rd_T34 l0_0 x13_1).f2)) (.string ((rd_T34 l0_0 x13_1).f3)) (.slice A368_4 ((rd_T34 l0_0 x13_1).f4).length c368_4) (.string ((rd_T34 l0_0 x13_1).f5))) (fun _ hk => ⟨hk.1.1.1, ⟨hk.1.1.2.1, hk.1.1.2.2⟩⟩))⟩, ⟨by exact vt (bf (vt (bf (vt (bf (vt (bf (vt (bf (vt (bf (vt BK364.out) NB364_369.out)) NB364_369.out)) NB364_369.out)) NB364_369.out)) NB364_369.out)) NB364_369.out)⟩, ⟨vb HB.out⟩⟩
   rw [if_pos c33] at H
   have c33b0 : (((rd_T34 l0_0 x13_1).f0) == 10) = true := beq_iff_eq.mpr c33
   have c33b1 : (((rd_T34 l0_0 x13_1).f0) != 10) = false := bne_eq_false_iff_eq.mpr c33
   clear c33
   replace H := be H
   obtain ⟨t375, A340, H⟩ := H
   try dsimp only at H
   have A34 := am A340
   clear A340
   by_cases c35 : x13_1 < (x3_1.length : Int)
   rotate_left
   ·rw [if_neg c35] at H
    exact absurd H (by simp)
   rw [if_pos c35] at H
   have c35b0 : decide (x13_1 < (x3_1.length : Int)) = true := de c35
   clear c35
   obtain ⟨y378, hy378⟩ : ∃ y_ : List (List Int), y_ = (x3_1.set (x13_1 : Int).toNat t375) := ⟨_, rfl⟩
   replace H : (Zal.l0 k1 y378 l0_0 (l0_0.length : Int) (wrap64 (x13_1 + 1)) l0_0) = some r := by first | (rw [hy378]; with_reducible exact H) | (have H2_ := (Option.bind_some _ _).symm.trans H; rw [hy378]; with_reducible exact H2_) | (have H2_ := (Option.bind_some _ _).symm.trans H; with_reducible exact H2_) | with_reducible exact H | (rw [hy378]; exact H) | exact H
   have Ny378 := am hy378
   clear hy378
   have H' := am H
   clear H
   have p368 : 0 ≤ (x13_1 : Int) := od (by with_reducible assumption)
   have q368 : x13_1 < (l0_0.length : Int) := od (by with_reducible assumption)
   obtain ⟨ad368, A368_4, c368_4, e368, hx368_0, hx368_1, hx368_2, hx368_3, hx368_4, hx368_5, hl368_4, hi368_4⟩ := at_T34 (Kd.V_reads' HO_11.out).2.2 x13_1 p368 q368
   cases e368
   obtain ⟨ce368, hce368, hMe368, hcc368⟩ := Kd.V_get HO_11.out z34 x13_1 p368 (by first | exact q368 | exact od (by with_reducible assumption) | (have e_ := (Kd.V_reads' HO_11.out).1; omega))
   obtain ⟨ua368_4, uc368_4, rfl, ul368_4, ge368_4⟩ := k34_openF hMe368
   have hv368_4 := hcc368 4 _ rfl
   rw [add_field _ _ 4 (by omega)] at hv368_4
   replace hv368_4 := Option.some.inj (hv368_4.symm.trans hx368_4)
   injection hv368_4 with hva_ hvn_ hvc_
   rw [hva_] at ge368_4
   rw [hvc_] at ul368_4
   have HL368_4 := am (show Kd.V (Kd.int .i64) 3 _ w.heap.size _ _ ((rd_T34 l0_0 x13_1).f4) from Kd.V_mk ul368_4 ge368_4)
   clear hva_ hvn_ hvc_ ge368_4 ul368_4
   clear hcc368 hce368
   have HR368_4 := am hi368_4
   have HC368_4 := am hl368_4
   clear hi368_4 hl368_4
   replace p368 := eq_true p368
   replace q368 := eq_true q368
   go_wp2_with (first | ((with_reducible refine gate_dst (N := 5) rfl ?_); refine box_event ?hg (N := 5) ?hd (cs := #[.int .i64 0, .int .i64 0, .string (⟨#[]⟩ : ByteArray), .string (⟨#[]⟩ : ByteArray), .slice none 0 0, .string (⟨#[]⟩ : ByteArray)]) (t := 34) ?hr ?_; (case hd => rfl); (case hg => rfl); (case hr => go_simp <;> rfl); intro gb369 hg w37 hbox hb; replace HO_3 := eN HO_3.out hg hb; replace HO_11 := eV HO_11.out hg hb; replace HO_365000 := eV HO_365000.out hg hb; replace HL368_4 := eV HL368_4.out hg hb; replace HR368_4 := kC HR368_4.out hb; have BK369 := am hbox; have GW369 := gef hg HB.out; have GE369 := gef hg HB.out; replace HB := bs HB.out hb; have NB364_369 := nl hg BK364.out; have NB369_364 := ng hg BK364.out; replace BK364 := kb BK364.out hb; clear hb hbox hg; have hnb38 := NB369_364.out; have hnc38 := NB364_369.out; have hcz39_0 : w37.cell? ⟨gb369, 0, none⟩ = some (.int .i64 0) := (blk_cell BK369.out 0).trans rfl; have hcz39_1 : w37.cell? ⟨gb369, 1, none⟩ = some (.int .i64 0) := (blk_cell BK369.out 1).trans rfl; have hcz39_2 : w37.cell? ⟨gb369, 2, none⟩ = some (.string (⟨#[]⟩ : ByteArray)) := (blk_cell BK369.out 2).trans rfl; have hcz39_3 : w37.cell? ⟨gb369, 3, none⟩ = some (.string (⟨#[]⟩ : ByteArray)) := (blk_cell BK369.out 3).trans rfl; have hcz39_4 : w37.cell? ⟨gb369, 4, none⟩ = some (.slice none 0 0) := (blk_cell BK369.out 4).trans rfl; have hcz39_5 : w37.cell? ⟨gb369, 5, none⟩ = some (.string (⟨#[]⟩ : ByteArray)) := (blk_cell BK369.out 5).trans rfl; have hfz39_0 := blk_frozen BK369.out 0; have hfz39_1 := blk_frozen BK369.out 1; have hfz39_2 := blk_frozen BK369.out 2; have hfz39_3 := blk_frozen BK369.out 3; have hfz39_4 := blk_frozen BK369.out 4; have hfz39_5 := blk_frozen BK369.out 5; obtain ⟨hcz40_0, hfz40_0⟩ := bk1 BK364.out) | ((with_reducible refine gate_callee (f := 79) rfl ?_); refine goesL_ (some 41) rfl rfl Tryz.func79 (by kernel_rfl) rfl #[.agg #[.slice (some ad368) l0_0.length c0_0], .int .i64 x13_1] rfl (by (try simp only [mT, mC, mN]); first | done | rfl) ?_; (with_reducible refine (Zaf.calls k1 _ _ l0_0 x13_1 t375 _ ?side1 ?side2 A34.out).mono ?_); (case side1 => refine (Kd.V_reads' (e := 34) (base := w.heap.size) (ok := fun k_ => (((P0_0_ k_ ∨ w.heap.size ≤ k_) ∧ (some k_ ≠ (v366 : Value).ownBlock ∧ k_ ≠ gb364)) ∧ k_ ≠ gb369)) (n := l0_0.length) (c := c0_0) ?_).2.2; exact (vV (Kd.V_mono (fV6 gb369 (Kd.V_mono HO_365000.out (fun k_ hk => (⟨hk, hk.2⟩ : _ ∧ k_ ≠ gb369))) (.int .i64 ((rd_T34 l0_0 x13_1).f0)) (.int .i64 ((rd_T34 l0_0 x13_1).f1)) (.string ((rd_T34 l0_0 x13_1).f2)) (.string ((rd_T34 l0_0 x13_1).f3)) (.slice A368_4 ((rd_T34 l0_0 x13_1).f4).length c368_4) (.string ((rd_T34 l0_0 x13_1).f5))) (fun _ h_ => h_.1)))); (case side2 => exact (Kd.V_reads' HO_365000.out).2.1); rintro e w41 ⟨v376, rfl, ho0, hb⟩; refine ⟨_, rfl, ?_⟩; replace HO_3 := am (Kd.N_elder' (vN (Kd.N_mono (Kd.N_far (p := ⟨gb369, 5, none⟩) (Kd.N_far (p := ⟨gb369, 4, none⟩) (Kd.N_far (p := ⟨gb369, 3, none⟩) (Kd.N_far (p := ⟨gb369, 2, none⟩) (Kd.N_far (p := ⟨gb369, 1, none⟩) (Kd.N_far (p := ⟨gb369, 0, none⟩) (Kd.N_mono HO_3.out (fun k_ hk => (⟨hk, hk.2⟩ : _ ∧ k_ ≠ gb369))) (fun _ hk => hk.2) (.int .i64 ((rd_T34 l0_0 x13_1).f0))) (fun _ hk => hk.2) (.int .i64 ((rd_T34 l0_0 x13_1).f1))) (fun _ hk => hk.2) (.string ((rd_T34 l0_0 x13_1).f2))) (fun _ hk => hk.2) (.string ((rd_T34 l0_0 x13_1).f3))) (fun _ hk => hk.2) (.slice A368_4 ((rd_T34 l0_0 x13_1).f4).length c368_4)) (fun _ hk => hk.2) (.string ((rd_T34 l0_0 x13_1).f5))) (fun _ h_ => h_.1))) (Kd.R_base ho0) hb); replace HO_11 := am (Kd.V_elder' (vV (Kd.V_mono (fV6 gb369 (Kd.V_mono HO_11.out (fun k_ hk => (⟨hk, hk.2⟩ : _ ∧ k_ ≠ gb369))) (.int .i64 ((rd_T34 l0_0 x13_1).f0)) (.int .i64 ((rd_T34 l0_0 x13_1).f1)) (.string ((rd_T34 l0_0 x13_1).f2)) (.string ((rd_T34 l0_0 x13_1).f3)) (.slice A368_4 ((rd_T34 l0_0 x13_1).f4).length c368_4) (.string ((rd_T34 l0_0 x13_1).f5))) (fun _ h_ => h_.1))) (Kd.R_base ho0) hb); replace HO_365000 := am (Kd.V_elder' (vV (Kd.V_mono (fV6 gb369 (Kd.V_mono HO_365000.out (fun k_ hk => (⟨hk, hk.2⟩ : _ ∧ k_ ≠ gb369))) (.int .i64 ((rd_T34 l0_0 x13_1).f0)) (.int .i64 ((rd_T34 l0_0 x13_1).f1)) (.string ((rd_T34 l0_0 x13_1).f2)) (.string ((rd_T34 l0_0 x13_1).f3)) (.slice A368_4 ((rd_T34 l0_0 x13_1).f4).length c368_4) (.string ((rd_T34 l0_0 x13_1).f5))) (fun _ h_ => h_.1))) (Kd.R_base ho0) hb); have HO377 := am (Kd.R_lower (Kd.R_newM (M := fun k_ => (w.heap.size ≤ k_)) ho0 (below_size (vb HB.out)) (fun k_ h_ => h_)) (below_size (vb HB.out))); replace BK364 := am (blk_below (g := gb364) (o := .cells #[.slice (some ad368) l0_0.length c0_0] 40 (0, 0)) (by exact vt (bf (vt (bf (vt (bf (vt (bf (vt (bf (vt (bf (vt BK364.out) NB364_369.out)) NB364_369.out)) NB364_369.out)) NB364_369.out)) NB364_369.out)) NB364_369.out)) hb); replace HR368_4 := am (Kd.C_below ((Kd.V_reads' (vV (Kd.V_mono (fV6 gb369 (Kd.V_mono HL368_4.out (fun k_ hk => (⟨hk, hk.2⟩ : _ ∧ k_ ≠ gb369))) (.int .i64 ((rd_T34 l0_0 x13_1).f0)) (.int .i64 ((rd_T34 l0_0 x13_1).f1)) (.string ((rd_T34 l0_0 x13_1).f2)) (.string ((rd_T34 l0_0 x13_1).f3)) (.slice A368_4 ((rd_T34 l0_0 x13_1).f4).length c368_4) (.string ((rd_T34 l0_0 x13_1).f5))) (fun _ h_ => h_.1)))).2.2) hb); replace HL368_4 := am (Kd.V_elder' (vV (Kd.V_mono (fV6 gb369 (Kd.V_mono HL368_4.out (fun k_ hk => (⟨hk, hk.2⟩ : _ ∧ k_ ≠ gb369))) (.int .i64 ((rd_T34 l0_0 x13_1).f0)) (.int .i64 ((rd_T34 l0_0 x13_1).f1)) (.string ((rd_T34 l0_0 x13_1).f2)) (.string ((rd_T34 l0_0 x13_1).f3)) (.slice A368_4 ((rd_T34 l0_0 x13_1).f4).length c368_4) (.string ((rd_T34 l0_0 x13_1).f5))) (fun _ h_ => h_.1))) (Kd.R_base ho0) hb); replace BK369 := am (blk_below (g := gb369) (o := .cells #[.int .i64 ((rd_T34 l0_0 x13_1).f0), .int .i64 ((rd_T34 l0_0 x13_1).f1), .string ((rd_T34 l0_0 x13_1).f2), .string ((rd_T34 l0_0 x13_1).f3), .slice A368_4 ((rd_T34 l0_0 x13_1).f4).length c368_4, .string ((rd_T34 l0_0 x13_1).f5)] 34 (0, 0)) (by exact (vt (bp (vt (bp (vt (bp (vt (bp (vt (bp (vt (bp (vt BK369.out) 0)) 1)) 2)) 3)) 4)) 5)).trans rfl) hb); replace HB := bs HB.out hb; (try clear hb); (try clear hb2); (try clear hk); (try clear hi); (try clear ho0); have p36 : 0 ≤ (x13_1 : Int) := od (by with_reducible assumption); have q36 : (x13_1 : Int) < ((x3_1.length : Int) : Int) := od (by with_reducible assumption); obtain ⟨go36, co36, eo36, gb36, gl36, cl36, HG36⟩ := Kd.N_form HO_3.out (by omega); (first | cases eo36 | (injection eo36 with ea_ en_ ec_; (first | subst ea_ | (injection ea_ with ea_; subst ea_)); subst ec_; clear en_)); have GB36 := am gb36; have GG36 := am HG36; clear gb36 gl36 HG36; obtain ⟨ce36, hcl36, hM36, hcc36, hfr36⟩ := Kd.N_elem HO_3.out [] (x13_1 : Int) p36 q36; obtain ⟨ua36_0, uc36_0, rfl, ul36_0, ge36_0⟩ := Kd.FK_slice_open hM36; have hx36_0 := hcc36 0 _ rfl; have hf36_0 := hfr36 0; (try simp only [show ((Kd.slice 3 (Kd.int .i64))).sz = 1 from rfl, Nat.mul_one, Nat.add_zero] at hx36_0); (try simp only [show ((Kd.slice 3 (Kd.int .i64))).sz = 1 from rfl, Nat.mul_one, Nat.add_zero] at hf36_0); clear hcl36 hcc36 hfr36 hM36; replace p36 := eq_true p36; replace q36 := eq_true q36; have n_ := am (Kd.N_mono (ok' := (fun k_ => (P0_0_ k_ ∨ w.heap.size ≤ k_) ∧ some k_ ≠ (v376 : Value).ownBlock ∧ k_ ≠ gb364 ∧ k_ ≠ gb369)) HO_3.out (fun k_ hk => ⟨hk.1.1.1, ⟨hk.2, ⟨hk.1.1.2, hk.1.2⟩⟩⟩)); clear HO_3; have HO_3 := n_; clear n_; have HX42 := am (show Kd.N (Kd.slice 3 (Kd.int .i64)) 32 w41 w.heap.size (fun k_ => (P0_0_ k_ ∨ w.heap.size ≤ k_) ∧ k_ ≠ gb364 ∧ k_ ≠ gb369) (.slice (some ⟨go36, 0, none⟩) x3_1.length co36) x3_1 from (vN (Kd.N_mono HO_3.out (fun _ hk => ⟨hk.1, ⟨hk.2.2.1, hk.2.2.2⟩⟩)))); obtain ⟨ce42, hcl42, hM42, hcc42, hfr42⟩ := Kd.N_elem HX42.out [] (x13_1 : Int) (od (by with_reducible assumption)) (by have h_ : (x13_1 : Int) < ((x3_1.length : Int) : Int) := od (by with_reducible assumption); first | exact h_ | (have e_ := (Kd.N_reads' HO_3.out).1; omega) | simpa using h_); obtain ⟨ua42_0, uc42_0, rfl, ul42_0, ge42_0⟩ := Kd.FK_slice_open hM42; have HP42 := Kd.N_seg HX42.out (x13_1 : Int) (od (by with_reducible assumption)) (by have h_ : (x13_1 : Int) < ((x3_1.length : Int) : Int) := od (by with_reducible assumption); first | exact h_ | (have e_ := (Kd.N_reads' HO_3.out).1; omega) | simpa using h_) (seg := [v376]) (j := 0) hcl42 hcc42 (show 1 ≤ 1 from by decide) (x' := t375) (by obtain ⟨Aq_, cq_, eq_⟩ := Kd.R_slice HO377.out; have HQ_ := HO377.out; rw [eq_] at HQ_ ⊢; exact Kd.FK_slice_mk (Kd.R_reads' (Kd.R_mono (ok' := (fun k_ => ((fun k_ => (P0_0_ k_ ∨ w.heap.size ≤ k_) ∧ k_ ≠ gb364 ∧ k_ ≠ gb369)) k_ ∧ k_ ≠ go36)) (Kd.R_types (Kd.R_types (Kd.R_apart' (HQ_) (Kd.N_typed HO_3.out) (by decide)) BK364.out (by decide)) BK369.out (by decide)) (fun k_ hk => ⟨⟨(.inr (hk.1.1.1.1)), ⟨hk.1.2, hk.2⟩⟩, fun e_ => (hk.1.1.2) (by rw [e_]; rfl)⟩))).2.1 (Kd.R_F (Kd.R_mono (ok' := (fun k_ => ((fun k_ => (P0_0_ k_ ∨ w.heap.size ≤ k_) ∧ k_ ≠ gb364 ∧ k_ ≠ gb369)) k_ ∧ k_ ≠ go36)) (Kd.R_types (Kd.R_types (Kd.R_apart' (HQ_) (Kd.N_typed HO_3.out) (by decide)) BK364.out (by decide)) BK369.out (by decide)) (fun k_ hk => ⟨⟨(.inr (hk.1.1.1.1)), ⟨hk.1.2, hk.2⟩⟩, fun e_ => (hk.1.1.2) (by rw [e_]; rfl)⟩)))) (fun _ hk => hk); have hx42_0 := hcc42 0 _ rfl; (try simp only [show ((Kd.slice 3 (Kd.int .i64))).sz = 1 from rfl, Nat.mul_one, Nat.add_zero] at hx42_0); have hf42_0 := hfr42 0; (try simp only [show ((Kd.slice 3 (Kd.int .i64))).sz = 1 from rfl, Nat.mul_one, Nat.add_zero] at hf42_0); clear hcl42 hcc42 hfr42 hM42; (try simp only [show ((Kd.slice 3 (Kd.int .i64))).sz = 1 from rfl, Nat.mul_one, Nat.add_zero] at HP42); (try simp only [show ((Kd.slice 3 (Kd.int .i64))).sz = 1 from rfl, Nat.mul_one, Nat.add_zero] at HP42)) | ((with_reducible refine gate_store (t := 32) (p := 42) rfl ?_); refine store_event (t := 32) (p := 42) (v := ?vo_w43) (w1 := (w41.setCell ⟨go36, (x13_1 : Int).toNat, none⟩ (v376))) ?hg ?ho ?hn ?hr ?_; (case ho => rfl); (case hg => rfl); (case hn => rfl); (case hr => obtain ⟨Aq_, cq_, eq_⟩ := Kd.R_slice HO377.out; rw [eq_]; first | (go_simp; done) | (go_simp; rfl)); intro w43 hw; have hg : w41.grownBy w43 (some go36) := (by rw [hw]; exact HP42.2); have hp_ : Kd.N (Kd.slice 3 (Kd.int .i64)) 32 w43 w.heap.size (fun k_ => (P0_0_ k_ ∨ w.heap.size ≤ k_) ∧ k_ ≠ gb364 ∧ k_ ≠ gb369) (.slice (some ⟨go36, 0, none⟩) x3_1.length co36) y378 := (by rw [hw, Ny378.out]; exact HP42.1); clear HP42; replace HO_11 := am (Kd.V_afterv (v := (.slice (some ⟨go36, 0, none⟩) x3_1.length co36)) (v1 := (.slice (some ⟨go36, 0, none⟩) x3_1.length co36)) (ok := (fun k_ => (P0_0_ k_ ∨ w.heap.size ≤ k_) ∧ some k_ ≠ (v376 : Value).ownBlock ∧ k_ ≠ gb364 ∧ k_ ≠ gb369)) (vV (Kd.V_mono HO_11.out (fun _ hk => ⟨⟨hk.1.1.1, ⟨hk.2, ⟨hk.1.1.2.2, hk.1.2⟩⟩⟩, hk.1.1.2.1⟩))) hg (.inl rfl)); replace HO_365000 := am (Kd.V_afterv (v := (.slice (some ⟨go36, 0, none⟩) x3_1.length co36)) (v1 := (.slice (some ⟨go36, 0, none⟩) x3_1.length co36)) (ok := (fun k_ => (P0_0_ k_ ∨ w.heap.size ≤ k_) ∧ some k_ ≠ (v376 : Value).ownBlock ∧ k_ ≠ gb364 ∧ k_ ≠ gb369)) (vV (Kd.V_mono HO_365000.out (fun _ hk => ⟨⟨hk.1.1.1, ⟨hk.2, ⟨hk.1.1.2.2, hk.1.2⟩⟩⟩, hk.1.1.2.1⟩))) hg (.inl rfl)); replace BK364 := am (blk_grown (g := gb364) (o := .cells #[.slice (some ad368) l0_0.length c0_0] 40 (0, 0)) (vk BK364.out) hg (Kd.N_ne HO_3.out BK364.out (by decide))); replace HL368_4 := am (Kd.V_afterv (v := (.slice (some ⟨go36, 0, none⟩) x3_1.length co36)) (v1 := (.slice (some ⟨go36, 0, none⟩) x3_1.length co36)) (ok := (fun k_ => (P0_0_ k_ ∨ w.heap.size ≤ k_) ∧ some k_ ≠ (v376 : Value).ownBlock ∧ k_ ≠ gb364 ∧ k_ ≠ gb369)) (vV (Kd.V_mono HL368_4.out (fun _ hk => ⟨⟨hk.1.1.1, ⟨hk.2, ⟨hk.1.1.2.2, hk.1.2⟩⟩⟩, hk.1.1.2.1⟩))) hg (.inl rfl)); replace BK369 := am (blk_grown (g := gb369) (o := .cells #[.int .i64 ((rd_T34 l0_0 x13_1).f0), .int .i64 ((rd_T34 l0_0 x13_1).f1), .string ((rd_T34 l0_0 x13_1).f2), .string ((rd_T34 l0_0 x13_1).f3), .slice A368_4 ((rd_T34 l0_0 x13_1).f4).length c368_4, .string ((rd_T34 l0_0 x13_1).f5)] 34 (0, 0)) (vk BK369.out) hg (Kd.N_ne HO_3.out BK369.out (by decide))); replace HO_3 := am (hp_); replace HB := am ((by rw [hw]; exact below_set (HB.out) GB36.out : Below w.heap.size w w43)); clear HO377; clear hg hw hp_))
   go_roundg k1
   case measure => have := HK1.out; omega
   case rel => exact ⟨(y378), (wrap64 (x13_1 + 1)), (by first | rfl | (simp; done) | simp [*]), H', ⟨by have := HK1.out; omega⟩, ⟨vN (Kd.N_mono HO_3.out (fun _ hk => ⟨hk.1, hk.2.1⟩))⟩, ⟨vV (Kd.V_mono HO_11.out (fun _ hk => ⟨hk.1.1, ⟨hk.2, hk.1.2.2.1⟩⟩))⟩, ⟨vV (Kd.V_mono HO_365000.out (fun _ hk => ⟨hk.1.1, ⟨hk.2, hk.1.2.2.1⟩⟩))⟩, ⟨vk BK364.out⟩, ⟨vb HB.out⟩⟩
def Zan.f (k : Nat) (l0_0 : List (S34)) (a1 : Int) : Option (Int × Bool) := (Zax.f k l0_0 a1).bind fun bt380 => (if bt380.2.2.2.2.2.2 = true then (if bt380.1 = 4 then (some (0, false)) else ((Zbx.f bt380.2.2.1).bind fun t390 => (some (t390, true)))) else (some (0, false)))
theorem Zan.calls (k : Nat) (A0_0 : Option Addr) (c0_0 : Nat) (l0_0 : List (S34)) (a1 : Int) (r1 : Int) (r2 : Bool) (w : World) (hr0_0 : Kd.C k34 w A0_0 l0_0.length l0_0) (hc0_0 : l0_0.length ≤ c0_0) (h : Zan.f k l0_0 a1 = some (r1, r2)) :
  Calls Tryz.prog 80 #[.agg #[.slice A0_0 l0_0.length c0_0], .int .i64 a1] w fun e w' => e = .returned (.tuple #[.int .i64 r1, .bool r2]) ∧ Below w.heap.size w w' := by
 have hu40 := Tryz.underlying40
 have hu34 := Tryz.underlying34
 have HR0_0 := am hr0_0
 have HC0_0 := am hc0_0
 clear hr0_0 hc0_0
 have HB := am (Below.refl w.heap.size w)
 have H : ((Zax.f k l0_0 a1).bind fun bt380 => (if bt380.2.2.2.2.2.2 = true then (if bt380.1 = 4 then (some (0, false)) else ((Zbx.f bt380.2.2.1).bind fun t390 => (some (t390, true)))) else (some (0, false)))) = some (r1, r2) := h
 clear h
 replace H := be H
 obtain ⟨⟨t380, t381, t382, t383, t384, t387, t388⟩, A30, H⟩ := H
 try dsimp only at H
 have A3 := am A30
 clear A30
 by_cases c4 : t388 = true
 rotate_left
 ·replace c4 := Bool.eq_false_iff.mpr c4
  subst c4
  rw [if_neg (show ¬ (false = true) by decide)] at H
  simp only [Option.some.injEq, Prod.mk.injEq] at H
  obtain ⟨rfl, rfl⟩ := H
  go_enter Tryz.func80, Tryz.ntmps80
  go_wp2_with (first | ((with_reducible refine gate_dst (N := 2) rfl ?_); refine box_event ?hg (N := 2) ?hd (cs := #[.slice A0_0 l0_0.length c0_0]) (t := 40) ?hr ?_; (case hd => rfl); (case hg => rfl); (case hr => go_simp <;> rfl); intro gb379 hg w22 hbox hb; have BK379 := am hbox; have GW379 := gef hg HB.out; have GE379 := gef hg HB.out; replace HB := bs HB.out hb; clear hb hbox hg; obtain ⟨hcz23_0, hfz23_0⟩ := bk1 BK379.out) | ((with_reducible refine gate_callee (f := 66) rfl ?_); refine goesL_ (some 11) rfl rfl Tryz.func66 (by kernel_rfl) rfl #[.agg #[.slice A0_0 l0_0.length c0_0], .int .i64 a1] rfl (by (try simp only [mT, mC, mN]); first | done | rfl) ?_; (with_reducible refine (Zax.calls k (fun k_ => k_ < w.heap.size) _ _ l0_0 a1 t380 t381 t382 t383 t384 t387 false _ ?side1 A3.out).mono ?_); (case side1 => exact Kd.V_mk HC0_0.out (Kd.F_below (Kd.C_F k34_heap HR0_0.out) (vb HB.out))); rintro e w24 ⟨v385, rfl, ho0, hb⟩; refine ⟨_, rfl, ?_⟩; have HO386 := am (Kd.V_lower (Kd.V_mono (ok' := fun k_ => k_ ≠ gb379) ho0 (fun k_ hk_ => Or.elim hk_ (fun hs_ => fun e_ => Nat.not_le.2 hs_ (by rw [e_]; exact GW379.out)) (fun hn_ => (Kd.freshB (g := gb379) (o := .cells #[.slice A0_0 l0_0.length c0_0] 40 (0, 0)) (vk BK379.out) k_ hn_)))) (below_size (vb HB.out))); replace BK379 := kb BK379.out hb; replace HB := bs HB.out hb; (try clear hb)) | ((with_reducible refine gate_dst (N := 6) rfl ?_); refine box_event ?hg (N := 6) ?hd (cs := #[.int .i64 0, .int .i64 0, .string (⟨#[]⟩ : ByteArray), .string (⟨#[]⟩ : ByteArray), .slice none 0 0, .string (⟨#[]⟩ : ByteArray)]) (t := 34) ?hr ?_; (case hd => rfl); (case hg => rfl); (case hr => go_simp <;> rfl); intro gb389 hg w25 hbox hb; replace HO386 := eV HO386.out hg hb; have BK389 := am hbox; have GW389 := gef hg HB.out; have GE389 := gef hg HB.out; replace HB := bs HB.out hb; have NB379_389 := nl hg BK379.out; have NB389_379 := ng hg BK379.out; replace BK379 := kb BK379.out hb; clear hb hbox hg; have hnb26 := NB389_379.out; have hnc26 := NB379_389.out; obtain ⟨hcz27_0, hcz27_1, hcz27_2, hcz27_3, hcz27_4, hcz27_5, hfz27_0, hfz27_1, hfz27_2, hfz27_3, hfz27_4, hfz27_5⟩ := bk6 BK389.out; obtain ⟨Ao28, co28, eo28⟩ := Kd.V_slice HO386.out; subst eo28))
  go_ret2
  exact ⟨by rfl, vb HB.out⟩
 subst c4
 rw [if_pos rfl] at H
 by_cases c5 : t380 = 4
 ·rw [if_pos c5] at H
  have c5b0 : (t380 == 4) = true := beq_iff_eq.mpr c5
  have c5b1 : (t380 != 4) = false := bne_eq_false_iff_eq.mpr c5
  clear c5
  simp only [Option.some.injEq, Prod.mk.injEq] at H
  obtain ⟨rfl, rfl⟩ := H
  go_enter Tryz.func80, Tryz.ntmps80
  go_wp2_with (first | ((with_reducible refine gate_dst (N := 2) rfl ?_); refine box_event ?hg (N := 2) ?hd (cs := #[.slice A0_0 l0_0.length c0_0]) (t := 40) ?hr ?_; (case hd => rfl); (case hg => rfl); (case hr => go_simp <;> rfl); intro gb379 hg w6 hbox hb; have BK379 := am hbox; have GW379 := gef hg HB.out; have GE379 := gef hg HB.out; replace HB := bs HB.out hb; clear hb hbox hg; obtain ⟨hcz7_0, hfz7_0⟩ := bk1 BK379.out) | ((with_reducible refine gate_callee (f := 66) rfl ?_); refine goesL_ (some 11) rfl rfl Tryz.func66 (by kernel_rfl) rfl #[.agg #[.slice A0_0 l0_0.length c0_0], .int .i64 a1] rfl (by (try simp only [mT, mC, mN]); first | done | rfl) ?_; (with_reducible refine (Zax.calls k (fun k_ => k_ < w.heap.size) _ _ l0_0 a1 t380 t381 t382 t383 t384 t387 true _ ?side1 A3.out).mono ?_); (case side1 => exact Kd.V_mk HC0_0.out (Kd.F_below (Kd.C_F k34_heap HR0_0.out) (vb HB.out))); rintro e w8 ⟨v385, rfl, ho0, hb⟩; refine ⟨_, rfl, ?_⟩; have HO386 := am (Kd.V_lower (Kd.V_mono (ok' := fun k_ => k_ ≠ gb379) ho0 (fun k_ hk_ => Or.elim hk_ (fun hs_ => fun e_ => Nat.not_le.2 hs_ (by rw [e_]; exact GW379.out)) (fun hn_ => (Kd.freshB (g := gb379) (o := .cells #[.slice A0_0 l0_0.length c0_0] 40 (0, 0)) (vk BK379.out) k_ hn_)))) (below_size (vb HB.out))); replace BK379 := kb BK379.out hb; replace HB := bs HB.out hb; (try clear hb)) | ((with_reducible refine gate_dst (N := 6) rfl ?_); refine box_event ?hg (N := 6) ?hd (cs := #[.int .i64 0, .int .i64 0, .string (⟨#[]⟩ : ByteArray), .string (⟨#[]⟩ : ByteArray), .slice none 0 0, .string (⟨#[]⟩ : ByteArray)]) (t := 34) ?hr ?_; (case hd => rfl); (case hg => rfl); (case hr => go_simp <;> rfl); intro gb389 hg w9 hbox hb; replace HO386 := eV HO386.out hg hb; have BK389 := am hbox; have GW389 := gef hg HB.out; have GE389 := gef hg HB.out; replace HB := bs HB.out hb; have NB379_389 := nl hg BK379.out; have NB389_379 := ng hg BK379.out; replace BK379 := kb BK379.out hb; clear hb hbox hg; have hnb10 := NB389_379.out; have hnc10 := NB379_389.out; obtain ⟨hcz11_0, hcz11_1, hcz11_2, hcz11_3, hcz11_4, hcz11_5, hfz11_0, hfz11_1, hfz11_2, hfz11_3, hfz11_4, hfz11_5⟩ := bk6 BK389.out; obtain ⟨Ao12, co12, eo12⟩ := Kd.V_slice HO386.out; subst eo12))
  go_ret2
  exact ⟨by rfl, vb HB.out⟩
 rw [if_neg c5] at H
 have c5b0 : (t380 == 4) = false := beq_eq_false_iff_ne.mpr c5
 have c5b1 : (t380 != 4) = true := bne_iff_ne.mpr c5
 replace H := be H
 obtain ⟨t390, A130, H⟩ := H
 try dsimp only at H
 have A13 := am A130
 clear A130
 simp only [Option.some.injEq, Prod.mk.injEq] at H
 obtain ⟨rfl, rfl⟩ := H
 go_enter Tryz.func80, Tryz.ntmps80
 go_wp2_with (first | ((with_reducible refine gate_dst (N := 2) rfl ?_); refine box_event ?hg (N := 2) ?hd (cs := #[.slice A0_0 l0_0.length c0_0]) (t := 40) ?hr ?_; (case hd => rfl); (case hg => rfl); (case hr => go_simp <;> rfl); intro gb379 hg w14 hbox hb; have BK379 := am hbox; have GW379 := gef hg HB.out; have GE379 := gef hg HB.out; replace HB := bs HB.out hb; clear hb hbox hg; obtain ⟨hcz15_0, hfz15_0⟩ := bk1 BK379.out) | ((with_reducible refine gate_callee (f := 66) rfl ?_); refine goesL_ (some 11) rfl rfl Tryz.func66 (by kernel_rfl) rfl #[.agg #[.slice A0_0 l0_0.length c0_0], .int .i64 a1] rfl (by (try simp only [mT, mC, mN]); first | done | rfl) ?_; (with_reducible refine (Zax.calls k (fun k_ => k_ < w.heap.size) _ _ l0_0 a1 t380 t381 t382 t383 t384 t387 true _ ?side1 A3.out).mono ?_); (case side1 => exact Kd.V_mk HC0_0.out (Kd.F_below (Kd.C_F k34_heap HR0_0.out) (vb HB.out))); rintro e w16 ⟨v385, rfl, ho0, hb⟩; refine ⟨_, rfl, ?_⟩; have HO386 := am (Kd.V_lower (Kd.V_mono (ok' := fun k_ => k_ ≠ gb379) ho0 (fun k_ hk_ => Or.elim hk_ (fun hs_ => fun e_ => Nat.not_le.2 hs_ (by rw [e_]; exact GW379.out)) (fun hn_ => (Kd.freshB (g := gb379) (o := .cells #[.slice A0_0 l0_0.length c0_0] 40 (0, 0)) (vk BK379.out) k_ hn_)))) (below_size (vb HB.out))); replace BK379 := kb BK379.out hb; replace HB := bs HB.out hb; (try clear hb)) | ((with_reducible refine gate_dst (N := 6) rfl ?_); refine box_event ?hg (N := 6) ?hd (cs := #[.int .i64 0, .int .i64 0, .string (⟨#[]⟩ : ByteArray), .string (⟨#[]⟩ : ByteArray), .slice none 0 0, .string (⟨#[]⟩ : ByteArray)]) (t := 34) ?hr ?_; (case hd => rfl); (case hg => rfl); (case hr => go_simp <;> rfl); intro gb389 hg w17 hbox hb; replace HO386 := eV HO386.out hg hb; have BK389 := am hbox; have GW389 := gef hg HB.out; have GE389 := gef hg HB.out; replace HB := bs HB.out hb; have NB379_389 := nl hg BK379.out; have NB389_379 := ng hg BK379.out; replace BK379 := kb BK379.out hb; clear hb hbox hg; have hnb18 := NB389_379.out; have hnc18 := NB379_389.out; obtain ⟨hcz19_0, hcz19_1, hcz19_2, hcz19_3, hcz19_4, hcz19_5, hfz19_0, hfz19_1, hfz19_2, hfz19_3, hfz19_4, hfz19_5⟩ := bk6 BK389.out; obtain ⟨Ao20, co20, eo20⟩ := Kd.V_slice HO386.out; subst eo20) | ((with_reducible refine gate_callee (f := 44) rfl ?_); refine goesL_ (some 23) rfl rfl Tryz.func44 (by kernel_rfl) rfl #[.string t382] rfl (by (try simp only [mT, mC, mN]); first | done | rfl) ?_; (with_reducible refine (Zbx.calls t382 t390 _ A13.out).mono ?_); rintro e w21 ⟨rfl, hb⟩; refine ⟨_, rfl, ?_⟩; replace HO386 := am (Kd.V_below (vV (Kd.V_mono (fV6 gb389 (Kd.V_mono HO386.out (fun k_ hk => (⟨hk, hk.2⟩ : _ ∧ k_ ≠ gb389))) (.int .i64 t380) (.int .i64 t381) (.string t382) (.string t383) (.slice Ao20 t384.length co20) (.string t387)) (fun _ h_ => h_.1))) hb); replace BK379 := am (blk_below (g := gb379) (o := .cells #[.slice A0_0 l0_0.length c0_0] 40 (0, 0)) (by exact vt (bf (vt (bf (vt (bf (vt (bf (vt (bf (vt (bf (vt BK379.out) NB379_389.out)) NB379_389.out)) NB379_389.out)) NB379_389.out)) NB379_389.out)) NB379_389.out)) hb); replace BK389 := am (blk_below (g := gb389) (o := .cells #[.int .i64 t380, .int .i64 t381, .string t382, .string t383, .slice Ao20 t384.length co20, .string t387] 34 (0, 0)) (by exact (vt (bp (vt (bp (vt (bp (vt (bp (vt (bp (vt (bp (vt BK389.out) 0)) 1)) 2)) 3)) 4)) 5)).trans rfl) hb); replace HB := bs HB.out hb; (try clear hb)))
 go_ret2
 exact ⟨by rfl, vb HB.out⟩
def Zaj.l0 : Nat → List Int → Int → Int → Int → Option (Int)
 | 0, _, _, _, _ => none
 | k + 1, x0, x1, x7, x8 => if x8 < x7 then (if 0 ≤ x8 then (if x8 < (x0.length : Int) then (if x1 = (rd x0 x8) then (some x8) else (Zaj.l0 k x0 x1 x7 (wrap64 (x8 + 1)))) else (none)) else (none)) else (some (-1))
def Zaj.f (k : Nat) (l0 : List Int) (a1 : Int) : Option (Int) := Zaj.l0 k l0 a1 (l0.length : Int) 0
theorem Zaj.calls (k : Nat) (A0 : Option Addr) (c0 : Nat) (l0 : List Int) (a1 : Int) (r : Int) (w : World) (hr0 : Kd.C (Kd.int .i64) w A0 l0.length l0) (hc0 : l0.length ≤ c0) (h : Zaj.f k l0 a1 = some r) :
  Calls Tryz.prog 102 #[.slice A0 l0.length c0, .int .i64 a1] w fun e w' => e = .returned (.int .i64 r) ∧ Drawn0 w w' := by
 have HR0 := am hr0
 have HC0 := am hc0
 clear hr0 hc0
 have H : (Zaj.l0 k l0 a1 (l0.length : Int) 0) = some r := h
 clear h
 have H' := am H
 clear H
 go_enter Tryz.func102, Tryz.ntmps102
 go_wp2
 go_loopg [8] k (fun kq v8 w' => ∃ (x8_1 : Int), v8 = .int .i64 x8_1 ∧ Aside0 (Zaj.l0 kq l0 a1 (l0.length : Int) x8_1 = some r) ∧ Aside0 (kq ≤ k) ∧ Drawn0 w w')
 case atStart => exact ⟨(0), (by first | rfl | (simp; done) | simp [*]), H', ⟨Nat.le_refl _⟩, by repeat (first | exact Drawn0.refl _ | apply Drawn0.step)⟩
 case round =>
  clear H'
  (try clear c1); (try clear p2)
  obtain ⟨x8_1, rfl, HA, HK1, ⟨m1, rfl⟩⟩ := hrel
  cases gk with
  | zero => exact absurd HA.out (by simp [Zaj.l0])
  | succ k1 =>
   have H := HA.out
   clear HA
   simp only [Zaj.l0] at H
   by_cases c3 : x8_1 < (l0.length : Int)
   rotate_left
   ·rw [if_neg c3] at H
    have c3b0 : decide (x8_1 < (l0.length : Int)) = false := df c3
    clear c3
    obtain rfl := Option.some.inj H
    go_wp2
    go_ret
    exact ⟨by first | rfl | (simp; done) | (simp [*]; done), by repeat (first | exact Drawn0.refl _ | apply Drawn0.step)⟩
   rw [if_pos c3] at H
   have c3b0 : decide (x8_1 < (l0.length : Int)) = true := de c3
   clear c3
   by_cases c4 : 0 ≤ x8_1
   rotate_left
   ·rw [if_neg c4] at H
    exact absurd H (by simp)
   rw [if_pos c4] at H
   have c4b0 : decide (0 ≤ x8_1) = true := de c4
   clear c4
   by_cases c5 : x8_1 < (l0.length : Int)
   rotate_left
   ·rw [if_neg c5] at H
    exact absurd H (by simp)
   rw [if_pos c5] at H
   have c5b0 : decide (x8_1 < (l0.length : Int)) = true := de c5
   clear c5
   by_cases c6 : a1 = (rd l0 x8_1)
   ·rw [if_pos c6] at H
    have c6b0 : (a1 == (rd l0 x8_1)) = true := beq_iff_eq.mpr c6
    have c6b1 : (a1 != (rd l0 x8_1)) = false := bne_eq_false_iff_eq.mpr c6
    clear c6
    obtain rfl := Option.some.inj H
    have p391 : 0 ≤ (x8_1 : Int) := od (by with_reducible assumption)
    have q391 : x8_1 < (l0.length : Int) := od (by with_reducible assumption)
    obtain ⟨ad391, e391, hx391_0⟩ := Kd.at_int HR0.out x8_1 p391 q391
    cases e391
    replace p391 := eq_true p391
    replace q391 := eq_true q391
    go_wp2
    go_ret
    exact ⟨by first | rfl | (simp; done) | (simp [*]; done), by repeat (first | exact Drawn0.refl _ | apply Drawn0.step)⟩
   rw [if_neg c6] at H
   have c6b0 : (a1 == (rd l0 x8_1)) = false := beq_eq_false_iff_ne.mpr c6
   have c6b1 : (a1 != (rd l0 x8_1)) = true := bne_iff_ne.mpr c6
   have H' := am H
   clear H
   have p391 : 0 ≤ (x8_1 : Int) := od (by with_reducible assumption)
   have q391 : x8_1 < (l0.length : Int) := od (by with_reducible assumption)
   obtain ⟨ad391, e391, hx391_0⟩ := Kd.at_int HR0.out x8_1 p391 q391
   cases e391
   replace p391 := eq_true p391
   replace q391 := eq_true q391
   go_wp2
   go_roundg k1
   case measure => have := HK1.out; omega
   case rel => exact ⟨(wrap64 (x8_1 + 1)), (by first | rfl | (simp; done) | simp [*]), H', ⟨by have := HK1.out; omega⟩, by repeat (first | exact Drawn0.refl _ | apply Drawn0.step)⟩
def Zab.f (k : Nat) (l0 : List Int) (a1 : Int) : Option (Bool) := (Zaj.f k l0 a1).bind fun t392 => (some (decide (t392 ≥ 0)))
theorem Zab.calls (k : Nat) (A0 : Option Addr) (c0 : Nat) (l0 : List Int) (a1 : Int) (r : Bool) (w : World) (hr0 : Kd.C (Kd.int .i64) w A0 l0.length l0) (hc0 : l0.length ≤ c0) (h : Zab.f k l0 a1 = some r) :
  Calls Tryz.prog 81 #[.slice A0 l0.length c0, .int .i64 a1] w fun e w' => e = .returned (.bool r) ∧ Drawn0 w w' := by
 have HR0 := am hr0
 have HC0 := am hc0
 clear hr0 hc0
 have H : ((Zaj.f k l0 a1).bind fun t392 => (some (decide (t392 ≥ 0)))) = some r := h
 clear h
 replace H := be H
 obtain ⟨t392, A30, H⟩ := H
 try dsimp only at H
 have A3 := am A30
 clear A30
 obtain rfl := Option.some.inj H
 go_enter Tryz.func81, Tryz.ntmps81
 go_wp2_with (first | ((with_reducible refine gate_callee (f := 102) rfl ?_); refine goesL_ (some 7) rfl rfl Tryz.func102 (by kernel_rfl) rfl #[.slice A0 l0.length c0, .int .i64 a1] rfl (by (try simp only [mT, mC, mN]); first | done | rfl) ?_; (with_reducible refine (Zaj.calls k _ _ l0 a1 t392 _ ?side1 ?side2 A3.out).mono ?_); (case side1 => exact vC HR0.out); (case side2 => exact HC0.out); rintro e w' ⟨rfl, ⟨nd, rfl⟩⟩; refine ⟨_, rfl, ?_⟩))
 go_ret
 exact ⟨by first | rfl | (simp; done) | (simp [*]; done), by repeat (first | exact Drawn0.refl _ | apply Drawn0.step)⟩
end Go.Proofs.YtjgifmakhnkmdaaGreatDoor.XRep
