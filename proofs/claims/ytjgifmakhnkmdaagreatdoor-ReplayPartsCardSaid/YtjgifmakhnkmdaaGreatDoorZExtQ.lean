import Derived.Test.YtjgifmakhnkmdaaGreatDoorZExtO
namespace Go.Proofs.YtjgifmakhnkmdaaGreatDoor.XRep
open Go.RowKit Go.Proofs.YtjgifmakhnkmdaaGreatDoorW.PrintWords Go.Proofs.YtjgifmakhnkmdaaGreatDoorW.PrintLast Go.Proofs.YtjgifmakhnkmdaaGreatDoorW.PrintMore
set_option linter.unusedVariables false
set_option linter.unusedSimpArgs false
theorem at_F34 {w : World} {ok : Nat → Prop} {A : Option Addr} {n : Nat} {xs : List S34} (h : Kd.F k34 w ok A n xs) (i : Int) (h0 : 0 ≤ i) (h1 : i < n) : ∃ ad A4 c4, A = some ad ∧ w.cell? (ad.add (i.toNat * 6)) = some (.int .i64 (rd_T34 xs i).f0) ∧ w.cell? ⟨(ad.add (i.toNat * 6)).block, (ad.add (i.toNat * 6)).off + 1, none⟩ = some (.int .i64 (rd_T34 xs i).f1) ∧ w.cell? ⟨(ad.add (i.toNat * 6)).block, (ad.add (i.toNat * 6)).off + 2, none⟩ = some (.string (rd_T34 xs i).f2) ∧ w.cell? ⟨(ad.add (i.toNat * 6)).block, (ad.add (i.toNat * 6)).off + 3, none⟩ = some (.string (rd_T34 xs i).f3) ∧ w.cell? ⟨(ad.add (i.toNat * 6)).block, (ad.add (i.toNat * 6)).off + 4, none⟩ = some (.slice A4 (rd_T34 xs i).f4.length c4) ∧ w.cell? ⟨(ad.add (i.toNat * 6)).block, (ad.add (i.toNat * 6)).off + 5, none⟩ = some (.string (rd_T34 xs i).f5) ∧ (rd_T34 xs i).f4.length ≤ c4 ∧ Kd.F (Kd.int .i64) w ok A4 (rd_T34 xs i).f4.length (rd_T34 xs i).f4 := by
 obtain ⟨ad, c, e, _, hK, hc0⟩ := Kd.F_get h z34 i h0 h1
 have hc : ∀ j u, c[j]? = some u → w.cell? (ad.add (i.toNat * 6 + j)) = some u := hc0.1
 obtain ⟨A4, c4, rfl, l4, g4⟩ := k34_openF hK
 exact ⟨ad, A4, c4, e, hc 0 _ rfl, by rw [← add_field _ _ 1 (by omega)]; exact hc 1 _ rfl, by rw [← add_field _ _ 2 (by omega)]; exact hc 2 _ rfl, by rw [← add_field _ _ 3 (by omega)]; exact hc 3 _ rfl, by rw [← add_field _ _ 4 (by omega)]; exact hc 4 _ rfl, by rw [← add_field _ _ 5 (by omega)]; exact hc 5 _ rfl, l4, g4⟩
theorem evSet_grown {w W : World} {p eb : Nat} (h : w.grownBy W (some p)) (hg : w.heap.size ≤ eb) (e : S34) (A4 : Option Addr) (c4 : Nat) : w.grownBy (evSet W eb e A4 c4) (some p) :=
 grown_set2 (j := 5) (grown_set2 (j := 4) (grown_set2 (j := 3) (grown_set2 (j := 2) (grown_set2 (j := 1) (grown_set2 (j := 0) h hg _) hg _) hg _) hg _) hg _) hg _
theorem grown_then {w W W2 : World} {p : Nat} (h : w.grownBy W none) (h2 : W.grownBy W2 (some p)) : w.grownBy W2 (some p) :=
 ⟨h2.os.trans h.os, h2.tape.trans h.tape, h2.output.trans h.output, Nat.le_trans h.size h2.size, fun i hi hp => (h2.block i (Nat.lt_of_lt_of_le hi h.size) hp).trans (h.block i hi (by simp))⟩
theorem evSet_set {w : World} {eb kt b n : Nat} {L : List Lit} (h : SetAt w kt b n L) (hne : b ≠ eb) (e : S34) (A4 : Option Addr) (c4 : Nat) : SetAt (evSet w eb e A4 c4) kt b n L :=
 SetAt.setCell (SetAt.setCell (SetAt.setCell (SetAt.setCell (SetAt.setCell (SetAt.setCell h hne _) hne _) hne _) hne _) hne _) hne _
def numOfCode (s : ByteArray) : Int := (splitOf s).2.1
def partP (gs : List (List Int)) (fam : List Int) (logs permits : List ByteArray) (orders : List Int) (began : Bool) (i : Nat) (e : S34) : S34 × Bool × Bool :=
 if e.f0 = 1 then (e, memS e.f2 permits, began) else
 if e.f0 = 2 ∨ e.f0 = 3 ∨ e.f0 = 4 then (e, memS e.f2 logs, began) else
 if e.f0 = 5 ∨ e.f0 = 6 ∨ e.f0 = 10 then (e, (rd_L10 gs i).any (fun x => decide (x ∈ fam)), began) else
 if e.f0 = 7 ∨ e.f0 = 13 ∨ e.f0 = 14 then (e, decide (numOfCode e.f2 ∈ fam), began) else
 if e.f0 = 8 then (e, decide (numOfCode e.f2 ∈ orders), began) else
 if e.f0 = 9 then (⟨e.f0, e.f1, e.f2, e.f3, pairsOf fam e.f4, e.f5⟩, began || !(pairsOf fam e.f4).isEmpty, began || !(pairsOf fam e.f4).isEmpty) else (e, false, began)
set_option maxHeartbeats 8000000 in
set_option maxRecDepth 100000 in
theorem Zco.calls (p bf bl bp bo : Nat) (Ag : Option Addr) (cg nf nl np no : Nat) (A : Option Addr) (c : Nat) (s : List S34) (gs : List (List Int)) (fam : List Int) (logs permits : List ByteArray) (orders : List Int) (began : Bool) (i : Nat) (e : S34) (w : World)
  (hp : w.heap[p]? = some (.cells #[.slice A s.length c, .slice Ag gs.length cg, .map (some bf), .map (some bl), .map (some bp), .map (some bo), .bool began] 79 (0, 0))) (hsf : SetI w bf nf fam) (hsl : SetS w bl nl logs) (hsp : SetS w bp np permits) (hso : SetI w bo no orders) (hcg : gs.length ≤ cg) (hF : Kd.F (Kd.slice 3 (Kd.int .i64)) w (fun k => k ≠ p) Ag gs.length gs)
  (okS_ : Nat → Prop) (hs : Kd.F k34 w okS_ A s.length s) (hi : i < s.length) (he : e = rd_T34 s i) (hgl : gs.length = s.length) (hgo : ∀ g ∈ gs, ∀ x ∈ g, okI x = true) (hok : evOk e = true) (hnum : okI (numOfCode e.f2) = true) :
  Calls Tryz.prog 22 #[.pointer (some ⟨p, 0, none⟩), .int .i64 i] w fun en w' =>
   ∃ v4, en = .returned (.tuple #[.agg #[.int .i64 e.f0, .int .i64 e.f1, .string e.f2, .string e.f3, v4, .string e.f5], .bool (partP gs fam logs permits orders began i e).2.1]) ∧ Kd.V (Kd.int .i64) 3 w' w.heap.size (fun k => okS_ k ∨ w.heap.size ≤ k) v4 (partP gs fam logs permits orders began i e).1.f4 ∧ w.grownBy w' (some p) ∧
    w'.heap[p]? = some (.cells #[.slice A s.length c, .slice Ag gs.length cg, .map (some bf), .map (some bl), .map (some bp), .map (some bo), .bool (partP gs fam logs permits orders began i e).2.2] 79 (0, 0)) := by
 obtain ⟨⟨e2, b2, bg2⟩, hPP⟩ : ∃ r, r = partP gs fam logs permits orders began i e := ⟨_, rfl⟩
 rw [← hPP]
 have PP := Aside0.mk hPP
 clear hPP
 simp only [evOk, Bool.and_eq_true, decide_eq_true_eq, List.all_eq_true] at hok
 obtain ⟨⟨⟨hok2, hok3⟩, hok4⟩, hok5⟩ := hok
 obtain ⟨ad, A4, c4, eA, y0, y1, y2, y3, y4, y5, hl4, hC4⟩ := at_F34 hs (i : Int) (by omega) (by omega)
 cases eA
 simp only [Int.toNat_natCast] at y0 y1 y2 y3 y4 y5
 rw [← he] at y0 y1 y2 y3 y4 y5 hl4 hC4
 have HP := Aside0.mk hp
 have HSF := Aside0.mk (And.intro hsf (And.intro hsl (And.intro hsp hso)))
 have HCG := Aside0.mk hcg
 have HF := Aside0.mk hF
 have HS := Aside0.mk hs
 have HGL := Aside0.mk hgl
 have HGO := Aside0.mk hgo
 have K2 := Aside0.mk hok2
 have K4 := Aside0.mk hok4
 have K5 := Aside0.mk hok5
 have HN := Aside0.mk hnum
 have C4 := Aside0.mk hC4
 have L4 := Aside0.mk hl4
 have pp0 : w.cell? ⟨p, 0, none⟩ = some (.slice (some ad) s.length c) := cell_of hp 0 rfl
 clear hp hsf hsl hsp hso hcg hF hs hgl hgo hok2 hok3 hok4 hok5 hnum hC4 hl4 he
 go_enter Tryz.func22, Tryz.ntmps22
 go_upto_region 2 with (first | ((with_reducible refine gate_dst (N := 4) rfl ?_); refine box_event ?hg (N := 4) ?hd (cs := evz) (t := 34) ?hr ?_; (case hd => rfl); (case hg => rfl); (case hr => first | (go_simp; done) | (go_simp; rfl)); intro rb hg w1 hbox hb; have BZ := Aside0.mk hbox; have GZ := Aside0.mk hg; have HB := Aside0.mk hb; clear hbox hg; have y0 := cell_kept hb y0; have y1 := cell_kept hb y1; have y2 := cell_kept hb y2; have y3 := cell_kept hb y3; have y4 := cell_kept hb y4; have y5 := cell_kept hb y5; have pp0 := cell_kept hb pp0; clear hb) | ((with_reducible refine gate_dst (N := 6) rfl ?_); refine box_event ?hg (N := 6) ?hd (cs := evz) (t := 34) ?hr ?_; (case hd => rfl); (case hg => rfl); (case hr => first | (go_simp; done) | (go_simp; rfl)); intro eb hg w2 hbox hb; have BE := Aside0.mk hbox; have GE := Aside0.mk (show rb < eb by rw [hg]; exact blk_lt BZ.out); have HB2 := Aside0.mk (below_step HB.out hb); have BZ2 := Aside0.mk (blk_below BZ.out hb); clear hbox hg hb; have z0 : w2.cell? ⟨eb, 0, none⟩ = some (.int .i64 0) := cell_of BE.out 0 rfl; have zf0 := blk_frozen BE.out 0; have z1 : w2.cell? ⟨eb, 1, none⟩ = some (.int .i64 0) := cell_of BE.out 1 rfl; have zf1 := blk_frozen BE.out 1; have z2 : w2.cell? ⟨eb, 2, none⟩ = some (.string ⟨#[]⟩) := cell_of BE.out 2 rfl; have zf2 := blk_frozen BE.out 2; have z3 : w2.cell? ⟨eb, 3, none⟩ = some (.string ⟨#[]⟩) := cell_of BE.out 3 rfl; have zf3 := blk_frozen BE.out 3; have z4 : w2.cell? ⟨eb, 4, none⟩ = some (.slice none 0 0) := cell_of BE.out 4 rfl; have zf4 := blk_frozen BE.out 4; have z5 : w2.cell? ⟨eb, 5, none⟩ = some (.string ⟨#[]⟩) := cell_of BE.out 5 rfl; have zf5 := blk_frozen BE.out 5))
 change Code.wp _ _ _ _ (evSet w2 eb e A4 c4)
 have BE3 := Aside0.mk (evSet_blk BE.out e A4 c4)
 have hrb : w.heap.size ≤ rb := Nat.le_of_eq GZ.out.symm
 have heb : rb < eb := GE.out
 have hpw : p < w.heap.size := blk_lt HP.out
 have HB3 := Aside0.mk (evSet_below (eb := eb) HB2.out (by omega) e A4 c4)
 have BZ3 := Aside0.mk (evSet_far BZ2.out (show rb ≠ eb by omega) e A4 c4)
 clear z0 z1 z2 z3 z4 z5 zf0 zf1 zf2 zf3 zf4 zf5 y0 y1 y2 y3 y4 y5 pp0 HB2 BZ2 BE BZ HB
 have HRB := Aside0.mk hrb
 generalize evSet w2 eb e A4 c4 = w3 at BE3 HB3 BZ3 ⊢
 have HP3 := Aside0.mk (blk_below HP.out HB3.out)
 have hnb : bf < w.heap.size ∧ bl < w.heap.size ∧ bp < w.heap.size ∧ bo < w.heap.size := ⟨SetAt.lt HSF.out.1, SetAt.lt HSF.out.2.1, SetAt.lt HSF.out.2.2.1, SetAt.lt HSF.out.2.2.2⟩
 have q0 : w3.cell? ⟨eb, 0, none⟩ = some (.int .i64 e.f0) := cell_of BE3.out 0 rfl
 by_cases cc : e.f0 = 1
 ·rw [cc] at q0
  have EF := Aside0.mk cc
  clear cc
  go_upto_region 4 with (fail)
  clear q0
  have hnr : bp ≠ rb := by omega
  have k0 : w3.cell? ⟨eb, 0, none⟩ = some (.int .i64 e.f0) := cell_of BE3.out 0 rfl
  have k1 : w3.cell? ⟨eb, 1, none⟩ = some (.int .i64 e.f1) := cell_of BE3.out 1 rfl
  have k2 : w3.cell? ⟨eb, 2, none⟩ = some (.string e.f2) := cell_of BE3.out 2 rfl
  have k3 : w3.cell? ⟨eb, 3, none⟩ = some (.string e.f3) := cell_of BE3.out 3 rfl
  have k4 : w3.cell? ⟨eb, 4, none⟩ = some (.slice A4 e.f4.length c4) := cell_of BE3.out 4 rfl
  have k5 : w3.cell? ⟨eb, 5, none⟩ = some (.string e.f5) := cell_of BE3.out 5 rfl
  have z0 : w3.cell? ⟨rb, 0, none⟩ = some (.int .i64 0) := cell_of BZ3.out 0 rfl
  have z1 : w3.cell? ⟨rb, 1, none⟩ = some (.int .i64 0) := cell_of BZ3.out 1 rfl
  have z2 : w3.cell? ⟨rb, 2, none⟩ = some (.string ⟨#[]⟩) := cell_of BZ3.out 2 rfl
  have z3 : w3.cell? ⟨rb, 3, none⟩ = some (.string ⟨#[]⟩) := cell_of BZ3.out 3 rfl
  have z4 : w3.cell? ⟨rb, 4, none⟩ = some (.slice none 0 0) := cell_of BZ3.out 4 rfl
  have z5 : w3.cell? ⟨rb, 5, none⟩ = some (.string ⟨#[]⟩) := cell_of BZ3.out 5 rfl
  have zf0 := blk_frozen BZ3.out 0
  have zf1 := blk_frozen BZ3.out 1
  have zf2 := blk_frozen BZ3.out 2
  have zf3 := blk_frozen BZ3.out 3
  have zf4 := blk_frozen BZ3.out 4
  have zf5 := blk_frozen BZ3.out 5
  have pc : w3.cell? ⟨p, 4, none⟩ = some (.map (some bp)) := cell_of HP3.out 4 rfl
  have lk1 := SetS.look (SetAt.below (show SetS w3 bp np permits from SetAt.below HSF.out.2.2.1 HB3.out) (below_drew (Below.refl w3.heap.size w3))) e.f2 K2.out
  have lk2 := SetS.look (SetAt.below (evSet_set (show SetS w3 bp np permits from SetAt.below HSF.out.2.2.1 HB3.out) hnr e A4 c4) (below_drew (Below.refl _ _))) e.f2 K2.out
  dsimp only [evSet] at lk2
  have n1 : rb ≠ eb := by omega
  have n2 : rb ≠ p := by omega
  have n3 : eb ≠ rb := by omega
  have n4 : p ≠ rb := by omega
  clear hrb heb hpw hnb
  go_region
  clear k0 k1 k2 k3 k4 k5 z0 z1 z2 z3 z4 z5 zf0 zf1 zf2 zf3 zf4 zf5 pc lk1 lk2
  go_wp2
  refine bodyPost_ret (results_ct rfl _ _ rb 34 _ (0, 0) _ rfl (blk_drew (evSet_blk BZ3.out e A4 c4)) Tryz.underlying34 rfl (by kernel_rfl)) rfl ?_
  have hbz := below_drew (evSet_below (eb := rb) HB3.out HRB.out e A4 c4)
  have ep : (e2, b2, bg2) = (e, memS e.f2 permits, began) := PP.out.trans (by unfold partP; simp [EF.out])
  obtain ⟨rfl, rfl, rfl⟩ : e2 = e ∧ b2 = memS e.f2 permits ∧ bg2 = began := by simpa using ep
  exact ⟨.slice A4 e2.f4.length c4, rfl, Kd.V_mono (Kd.V_mk L4.out (Kd.F_below C4.out hbz)) (fun k hk => .inl hk), (grown_of_below hbz).but _, blk_below HP.out hbz⟩
 by_cases cc : e.f0 = 2 ∨ e.f0 = 3 ∨ e.f0 = 4
 ·rcases cc with c | c | c
  all_goals
   rw [c] at q0
   have EF := Aside0.mk c
   clear c
   go_upto_region 8 with (fail)
   clear q0
   have hnr : bl ≠ rb := by omega
   have k0 : w3.cell? ⟨eb, 0, none⟩ = some (.int .i64 e.f0) := cell_of BE3.out 0 rfl
   have k1 : w3.cell? ⟨eb, 1, none⟩ = some (.int .i64 e.f1) := cell_of BE3.out 1 rfl
   have k2 : w3.cell? ⟨eb, 2, none⟩ = some (.string e.f2) := cell_of BE3.out 2 rfl
   have k3 : w3.cell? ⟨eb, 3, none⟩ = some (.string e.f3) := cell_of BE3.out 3 rfl
   have k4 : w3.cell? ⟨eb, 4, none⟩ = some (.slice A4 e.f4.length c4) := cell_of BE3.out 4 rfl
   have k5 : w3.cell? ⟨eb, 5, none⟩ = some (.string e.f5) := cell_of BE3.out 5 rfl
   have z0 : w3.cell? ⟨rb, 0, none⟩ = some (.int .i64 0) := cell_of BZ3.out 0 rfl
   have z1 : w3.cell? ⟨rb, 1, none⟩ = some (.int .i64 0) := cell_of BZ3.out 1 rfl
   have z2 : w3.cell? ⟨rb, 2, none⟩ = some (.string ⟨#[]⟩) := cell_of BZ3.out 2 rfl
   have z3 : w3.cell? ⟨rb, 3, none⟩ = some (.string ⟨#[]⟩) := cell_of BZ3.out 3 rfl
   have z4 : w3.cell? ⟨rb, 4, none⟩ = some (.slice none 0 0) := cell_of BZ3.out 4 rfl
   have z5 : w3.cell? ⟨rb, 5, none⟩ = some (.string ⟨#[]⟩) := cell_of BZ3.out 5 rfl
   have zf0 := blk_frozen BZ3.out 0
   have zf1 := blk_frozen BZ3.out 1
   have zf2 := blk_frozen BZ3.out 2
   have zf3 := blk_frozen BZ3.out 3
   have zf4 := blk_frozen BZ3.out 4
   have zf5 := blk_frozen BZ3.out 5
   have pc : w3.cell? ⟨p, 3, none⟩ = some (.map (some bl)) := cell_of HP3.out 3 rfl
   have lk1 := SetS.look (SetAt.below (show SetS w3 bl nl logs from SetAt.below HSF.out.2.1 HB3.out) (below_drew (Below.refl w3.heap.size w3))) e.f2 K2.out
   have lk2 := SetS.look (SetAt.below (evSet_set (show SetS w3 bl nl logs from SetAt.below HSF.out.2.1 HB3.out) hnr e A4 c4) (below_drew (Below.refl _ _))) e.f2 K2.out
   dsimp only [evSet] at lk2
   have n1 : rb ≠ eb := by omega
   have n2 : rb ≠ p := by omega
   have n3 : eb ≠ rb := by omega
   have n4 : p ≠ rb := by omega
   clear hrb heb hpw hnb
   go_region
   clear k0 k1 k2 k3 k4 k5 z0 z1 z2 z3 z4 z5 zf0 zf1 zf2 zf3 zf4 zf5 pc lk1 lk2
   go_wp2
   refine bodyPost_ret (results_ct rfl _ _ rb 34 _ (0, 0) _ rfl (blk_drew (evSet_blk BZ3.out e A4 c4)) Tryz.underlying34 rfl (by kernel_rfl)) rfl ?_
   have hbz := below_drew (evSet_below (eb := rb) HB3.out HRB.out e A4 c4)
   have ep : (e2, b2, bg2) = (e, memS e.f2 logs, began) := PP.out.trans (by unfold partP; simp [EF.out])
   obtain ⟨rfl, rfl, rfl⟩ : e2 = e ∧ b2 = memS e.f2 logs ∧ bg2 = began := by simpa using ep
   exact ⟨.slice A4 e2.f4.length c4, rfl, Kd.V_mono (Kd.V_mk L4.out (Kd.F_below C4.out hbz)) (fun k hk => .inl hk), (grown_of_below hbz).but _, blk_below HP.out hbz⟩
 by_cases cc : e.f0 = 5 ∨ e.f0 = 6 ∨ e.f0 = 10
 ·rcases cc with c | c | c
  all_goals
   rw [c] at q0
   have EF := Aside0.mk c
   clear c
   go_upto_region 12 with (fail)
   clear q0
   have hnr : bf ≠ rb := by omega
   obtain ⟨adg, Agi, cgi, eAg, xg, lg, gC⟩ := at_L10 (Kd.F_now HF.out) (i : Int) (by omega) (by have := HGL.out; omega)
   cases eAg
   simp only [Int.toNat_natCast] at xg
   have hgi : (i : Int) < (gs.length : Int) := by have := HGL.out; omega
   have egj : rd_L10 gs (i : Int) = gs[i]'(by omega) := by simp [rd_L10, List.getD_eq_getElem?_getD, List.getElem?_eq_getElem (show i < gs.length by omega)]
   have KG := Aside0.mk (HGO.out (rd_L10 gs (i : Int)) (by rw [egj]; exact List.getElem_mem _))
   have XG := Aside0.mk xg
   have LG := Aside0.mk lg
   have CG := Aside0.mk gC
   clear xg lg gC egj
   have n1 : rb ≠ eb := by omega
   have n2 : rb ≠ p := by omega
   have n3 : eb ≠ rb := by omega
   have n4 : p ≠ rb := by omega
   clear hrb heb hpw hnb
   have SD : Aside0 ((w3.drew).cell? ⟨eb, 0, none⟩ = some (.int .i64 e.f0) ∧ (w3.drew).cell? ⟨eb, 1, none⟩ = some (.int .i64 e.f1) ∧ (w3.drew).cell? ⟨eb, 2, none⟩ = some (.string e.f2) ∧ (w3.drew).cell? ⟨eb, 3, none⟩ = some (.string e.f3) ∧ (w3.drew).cell? ⟨eb, 4, none⟩ = some (.slice A4 e.f4.length c4) ∧ (w3.drew).cell? ⟨eb, 5, none⟩ = some (.string e.f5) ∧ (w3.drew).cell? ⟨p, 2, none⟩ = some (.map (some bf)) ∧ (w3.drew).cell? ⟨p, 1, none⟩ = some (.slice (some adg) gs.length cg) ∧ (w3.drew).cell? (adg.add i) = some (.slice Agi (rd_L10 gs i).length cgi)) := ⟨⟨cell_of (blk_drew BE3.out) 0 rfl, cell_of (blk_drew BE3.out) 1 rfl, cell_of (blk_drew BE3.out) 2 rfl, cell_of (blk_drew BE3.out) 3 rfl, cell_of (blk_drew BE3.out) 4 rfl, cell_of (blk_drew BE3.out) 5 rfl, cell_of (blk_drew HP3.out) 2 rfl, cell_of (blk_drew HP3.out) 1 rfl, cell_kept (below_drew HB3.out) XG.out⟩⟩
   go_region_held3 (fun w' => w'.cell? ⟨eb, 0, none⟩ = some (.int .i64 e.f0) ∧ w'.cell? ⟨eb, 1, none⟩ = some (.int .i64 e.f1) ∧ w'.cell? ⟨eb, 2, none⟩ = some (.string e.f2) ∧ w'.cell? ⟨eb, 3, none⟩ = some (.string e.f3) ∧ w'.cell? ⟨eb, 4, none⟩ = some (.slice A4 e.f4.length c4) ∧ w'.cell? ⟨eb, 5, none⟩ = some (.string e.f5) ∧ w'.cell? ⟨p, 2, none⟩ = some (.map (some bf)) ∧ w'.cell? ⟨p, 1, none⟩ = some (.slice (some adg) gs.length cg) ∧ w'.cell? (adg.add i) = some (.slice Agi (rd_L10 gs i).length cgi)) (first | with_reducible exact SD.out | with_reducible exact S5.out | with_reducible exact SC.out) (first | (go_at_call 47; refine (Zci.calls Agi cgi (rd_L10 gs i) bf nf fam w3.drew (Kd.C_below CG.out (below_drew HB3.out)) LG.out KG.out (SetAt.below (show SetI w3 bf nf fam from SetAt.below HSF.out.1 HB3.out) (below_drew (Below.refl w3.heap.size w3)))).mono ?_; rintro e5 w5 ⟨rfl, hb5⟩; have BE5 := Aside0.mk (blk_below (blk_drew BE3.out) hb5); have BZ5 := Aside0.mk (blk_below (blk_drew BZ3.out) hb5); have HP5 := Aside0.mk (blk_below (blk_drew HP3.out) hb5); have HB5 := Aside0.mk (below_step (below_drew HB3.out) hb5); have S5 : Aside0 ((w5).cell? ⟨eb, 0, none⟩ = some (.int .i64 e.f0) ∧ (w5).cell? ⟨eb, 1, none⟩ = some (.int .i64 e.f1) ∧ (w5).cell? ⟨eb, 2, none⟩ = some (.string e.f2) ∧ (w5).cell? ⟨eb, 3, none⟩ = some (.string e.f3) ∧ (w5).cell? ⟨eb, 4, none⟩ = some (.slice A4 e.f4.length c4) ∧ (w5).cell? ⟨eb, 5, none⟩ = some (.string e.f5) ∧ (w5).cell? ⟨p, 2, none⟩ = some (.map (some bf)) ∧ (w5).cell? ⟨p, 1, none⟩ = some (.slice (some adg) gs.length cg) ∧ (w5).cell? (adg.add i) = some (.slice Agi (rd_L10 gs i).length cgi)) := ⟨⟨cell_of BE5.out 0 rfl, cell_of BE5.out 1 rfl, cell_of BE5.out 2 rfl, cell_of BE5.out 3 rfl, cell_of BE5.out 4 rfl, cell_of BE5.out 5 rfl, cell_of HP5.out 2 rfl, cell_of HP5.out 1 rfl, cell_kept HB5.out XG.out⟩⟩; have SC : Aside0 ((((((((w5).setCell ⟨rb, 0, none⟩ (.int .i64 e.f0)).setCell ⟨rb, 1, none⟩ (.int .i64 e.f1)).setCell ⟨rb, 2, none⟩ (.string e.f2)).setCell ⟨rb, 3, none⟩ (.string e.f3)).setCell ⟨rb, 4, none⟩ (.slice A4 e.f4.length c4)).setCell ⟨rb, 5, none⟩ (.string e.f5)).cell? ⟨eb, 0, none⟩ = some (.int .i64 e.f0) ∧ (((((((w5).setCell ⟨rb, 0, none⟩ (.int .i64 e.f0)).setCell ⟨rb, 1, none⟩ (.int .i64 e.f1)).setCell ⟨rb, 2, none⟩ (.string e.f2)).setCell ⟨rb, 3, none⟩ (.string e.f3)).setCell ⟨rb, 4, none⟩ (.slice A4 e.f4.length c4)).setCell ⟨rb, 5, none⟩ (.string e.f5)).cell? ⟨eb, 1, none⟩ = some (.int .i64 e.f1) ∧ (((((((w5).setCell ⟨rb, 0, none⟩ (.int .i64 e.f0)).setCell ⟨rb, 1, none⟩ (.int .i64 e.f1)).setCell ⟨rb, 2, none⟩ (.string e.f2)).setCell ⟨rb, 3, none⟩ (.string e.f3)).setCell ⟨rb, 4, none⟩ (.slice A4 e.f4.length c4)).setCell ⟨rb, 5, none⟩ (.string e.f5)).cell? ⟨eb, 2, none⟩ = some (.string e.f2) ∧ (((((((w5).setCell ⟨rb, 0, none⟩ (.int .i64 e.f0)).setCell ⟨rb, 1, none⟩ (.int .i64 e.f1)).setCell ⟨rb, 2, none⟩ (.string e.f2)).setCell ⟨rb, 3, none⟩ (.string e.f3)).setCell ⟨rb, 4, none⟩ (.slice A4 e.f4.length c4)).setCell ⟨rb, 5, none⟩ (.string e.f5)).cell? ⟨eb, 3, none⟩ = some (.string e.f3) ∧ (((((((w5).setCell ⟨rb, 0, none⟩ (.int .i64 e.f0)).setCell ⟨rb, 1, none⟩ (.int .i64 e.f1)).setCell ⟨rb, 2, none⟩ (.string e.f2)).setCell ⟨rb, 3, none⟩ (.string e.f3)).setCell ⟨rb, 4, none⟩ (.slice A4 e.f4.length c4)).setCell ⟨rb, 5, none⟩ (.string e.f5)).cell? ⟨eb, 4, none⟩ = some (.slice A4 e.f4.length c4) ∧ (((((((w5).setCell ⟨rb, 0, none⟩ (.int .i64 e.f0)).setCell ⟨rb, 1, none⟩ (.int .i64 e.f1)).setCell ⟨rb, 2, none⟩ (.string e.f2)).setCell ⟨rb, 3, none⟩ (.string e.f3)).setCell ⟨rb, 4, none⟩ (.slice A4 e.f4.length c4)).setCell ⟨rb, 5, none⟩ (.string e.f5)).cell? ⟨eb, 5, none⟩ = some (.string e.f5) ∧ (((((((w5).setCell ⟨rb, 0, none⟩ (.int .i64 e.f0)).setCell ⟨rb, 1, none⟩ (.int .i64 e.f1)).setCell ⟨rb, 2, none⟩ (.string e.f2)).setCell ⟨rb, 3, none⟩ (.string e.f3)).setCell ⟨rb, 4, none⟩ (.slice A4 e.f4.length c4)).setCell ⟨rb, 5, none⟩ (.string e.f5)).cell? ⟨p, 2, none⟩ = some (.map (some bf)) ∧ (((((((w5).setCell ⟨rb, 0, none⟩ (.int .i64 e.f0)).setCell ⟨rb, 1, none⟩ (.int .i64 e.f1)).setCell ⟨rb, 2, none⟩ (.string e.f2)).setCell ⟨rb, 3, none⟩ (.string e.f3)).setCell ⟨rb, 4, none⟩ (.slice A4 e.f4.length c4)).setCell ⟨rb, 5, none⟩ (.string e.f5)).cell? ⟨p, 1, none⟩ = some (.slice (some adg) gs.length cg) ∧ (((((((w5).setCell ⟨rb, 0, none⟩ (.int .i64 e.f0)).setCell ⟨rb, 1, none⟩ (.int .i64 e.f1)).setCell ⟨rb, 2, none⟩ (.string e.f2)).setCell ⟨rb, 3, none⟩ (.string e.f3)).setCell ⟨rb, 4, none⟩ (.slice A4 e.f4.length c4)).setCell ⟨rb, 5, none⟩ (.string e.f5)).cell? (adg.add i) = some (.slice Agi (rd_L10 gs i).length cgi)) := ⟨⟨cell_of (evSet_far BE5.out n3 e A4 c4) 0 rfl, cell_of (evSet_far BE5.out n3 e A4 c4) 1 rfl, cell_of (evSet_far BE5.out n3 e A4 c4) 2 rfl, cell_of (evSet_far BE5.out n3 e A4 c4) 3 rfl, cell_of (evSet_far BE5.out n3 e A4 c4) 4 rfl, cell_of (evSet_far BE5.out n3 e A4 c4) 5 rfl, cell_of (evSet_far HP5.out n4 e A4 c4) 2 rfl, cell_of (evSet_far HP5.out n4 e A4 c4) 1 rfl, cell_kept (evSet_below (eb := rb) HB5.out HRB.out e A4 c4) XG.out⟩⟩; clear hb5; have z0 : w5.cell? ⟨rb, 0, none⟩ = some (.int .i64 0) := cell_of BZ5.out 0 rfl; have z1 : w5.cell? ⟨rb, 1, none⟩ = some (.int .i64 0) := cell_of BZ5.out 1 rfl; have z2 : w5.cell? ⟨rb, 2, none⟩ = some (.string ⟨#[]⟩) := cell_of BZ5.out 2 rfl; have z3 : w5.cell? ⟨rb, 3, none⟩ = some (.string ⟨#[]⟩) := cell_of BZ5.out 3 rfl; have z4 : w5.cell? ⟨rb, 4, none⟩ = some (.slice none 0 0) := cell_of BZ5.out 4 rfl; have z5 : w5.cell? ⟨rb, 5, none⟩ = some (.string ⟨#[]⟩) := cell_of BZ5.out 5 rfl; have zf0 := blk_frozen BZ5.out 0; have zf1 := blk_frozen BZ5.out 1; have zf2 := blk_frozen BZ5.out 2; have zf3 := blk_frozen BZ5.out 3; have zf4 := blk_frozen BZ5.out 4; have zf5 := blk_frozen BZ5.out 5))
   all_goals (go_wp2)
   all_goals (refine bodyPost_ret (results_ct rfl _ _ rb 34 _ (0, 0) _ rfl (evSet_blk BZ5.out e A4 c4) Tryz.underlying34 rfl (by kernel_rfl)) rfl ?_)
   all_goals (have hbz := evSet_below (eb := rb) HB5.out HRB.out e A4 c4)
   all_goals (have ep : (e2, b2, bg2) = (e, (rd_L10 gs i).any (fun x => decide (x ∈ fam)), began) := PP.out.trans (by unfold partP; simp [EF.out]))
   all_goals (obtain ⟨rfl, rfl, rfl⟩ : e2 = e ∧ b2 = (rd_L10 gs i).any (fun x => decide (x ∈ fam)) ∧ bg2 = began := by simpa using ep)
   all_goals (exact ⟨.slice A4 e2.f4.length c4, rfl, Kd.V_mono (Kd.V_mk L4.out (Kd.F_below C4.out hbz)) (fun k hk => .inl hk), (grown_of_below hbz).but _, blk_below HP.out hbz⟩)
 by_cases cc : e.f0 = 7 ∨ e.f0 = 13 ∨ e.f0 = 14
 ·rcases cc with c | c | c
  all_goals
   rw [c] at q0
   have EF := Aside0.mk c
   clear c
   go_upto_region 16 with (fail)
   clear q0
   have hnr : bf ≠ rb := by omega
   have n1 : rb ≠ eb := by omega
   have n2 : rb ≠ p := by omega
   have n3 : eb ≠ rb := by omega
   have n4 : p ≠ rb := by omega
   clear hrb heb hpw hnb
   have SD : Aside0 ((w3.drew).cell? ⟨eb, 0, none⟩ = some (.int .i64 e.f0) ∧ (w3.drew).cell? ⟨eb, 1, none⟩ = some (.int .i64 e.f1) ∧ (w3.drew).cell? ⟨eb, 2, none⟩ = some (.string e.f2) ∧ (w3.drew).cell? ⟨eb, 3, none⟩ = some (.string e.f3) ∧ (w3.drew).cell? ⟨eb, 4, none⟩ = some (.slice A4 e.f4.length c4) ∧ (w3.drew).cell? ⟨eb, 5, none⟩ = some (.string e.f5) ∧ (w3.drew).cell? ⟨p, 2, none⟩ = some (.map (some bf)) ∧ (Instr.lookup 77 (.map (some bf)) (.int .i64 (numOfCode e.f2)) false).run Tryz.prog (w3.drew) = .ok (.bool (decide (numOfCode e.f2 ∈ fam))) (w3.drew)) := ⟨⟨cell_of (blk_drew BE3.out) 0 rfl, cell_of (blk_drew BE3.out) 1 rfl, cell_of (blk_drew BE3.out) 2 rfl, cell_of (blk_drew BE3.out) 3 rfl, cell_of (blk_drew BE3.out) 4 rfl, cell_of (blk_drew BE3.out) 5 rfl, cell_of (blk_drew HP3.out) 2 rfl, SetI.look (SetAt.below (show SetI w3 bf nf fam from SetAt.below HSF.out.1 HB3.out) (below_drew (Below.refl w3.heap.size w3))) _ HN.out⟩⟩
   go_region_held3 (fun w' => w'.cell? ⟨eb, 0, none⟩ = some (.int .i64 e.f0) ∧ w'.cell? ⟨eb, 1, none⟩ = some (.int .i64 e.f1) ∧ w'.cell? ⟨eb, 2, none⟩ = some (.string e.f2) ∧ w'.cell? ⟨eb, 3, none⟩ = some (.string e.f3) ∧ w'.cell? ⟨eb, 4, none⟩ = some (.slice A4 e.f4.length c4) ∧ w'.cell? ⟨eb, 5, none⟩ = some (.string e.f5) ∧ w'.cell? ⟨p, 2, none⟩ = some (.map (some bf)) ∧ (Instr.lookup 77 (.map (some bf)) (.int .i64 (numOfCode e.f2)) false).run Tryz.prog w' = .ok (.bool (decide (numOfCode e.f2 ∈ fam))) w') (first | with_reducible exact SD.out | with_reducible exact S5.out | with_reducible exact SC.out) (first | (go_at_call 44; refine (Zbx.calls e.f2 (numOfCode e.f2) _ rfl).mono ?_; rintro e5 w5 ⟨rfl, hb5⟩; have BE5 := Aside0.mk (blk_below (blk_drew BE3.out) hb5); have BZ5 := Aside0.mk (blk_below (blk_drew BZ3.out) hb5); have HP5 := Aside0.mk (blk_below (blk_drew HP3.out) hb5); have HB5 := Aside0.mk (below_step (below_drew HB3.out) hb5); have SL5 := Aside0.mk (SetAt.below (show SetI w3 bf nf fam from SetAt.below HSF.out.1 HB3.out) (below_step (below_drew (Below.refl w3.heap.size w3)) hb5)); have S5 : Aside0 ((w5).cell? ⟨eb, 0, none⟩ = some (.int .i64 e.f0) ∧ (w5).cell? ⟨eb, 1, none⟩ = some (.int .i64 e.f1) ∧ (w5).cell? ⟨eb, 2, none⟩ = some (.string e.f2) ∧ (w5).cell? ⟨eb, 3, none⟩ = some (.string e.f3) ∧ (w5).cell? ⟨eb, 4, none⟩ = some (.slice A4 e.f4.length c4) ∧ (w5).cell? ⟨eb, 5, none⟩ = some (.string e.f5) ∧ (w5).cell? ⟨p, 2, none⟩ = some (.map (some bf)) ∧ (Instr.lookup 77 (.map (some bf)) (.int .i64 (numOfCode e.f2)) false).run Tryz.prog (w5) = .ok (.bool (decide (numOfCode e.f2 ∈ fam))) (w5)) := ⟨⟨cell_of BE5.out 0 rfl, cell_of BE5.out 1 rfl, cell_of BE5.out 2 rfl, cell_of BE5.out 3 rfl, cell_of BE5.out 4 rfl, cell_of BE5.out 5 rfl, cell_of HP5.out 2 rfl, SetI.look SL5.out _ HN.out⟩⟩; have SC : Aside0 ((((((((w5).setCell ⟨rb, 0, none⟩ (.int .i64 e.f0)).setCell ⟨rb, 1, none⟩ (.int .i64 e.f1)).setCell ⟨rb, 2, none⟩ (.string e.f2)).setCell ⟨rb, 3, none⟩ (.string e.f3)).setCell ⟨rb, 4, none⟩ (.slice A4 e.f4.length c4)).setCell ⟨rb, 5, none⟩ (.string e.f5)).cell? ⟨eb, 0, none⟩ = some (.int .i64 e.f0) ∧ (((((((w5).setCell ⟨rb, 0, none⟩ (.int .i64 e.f0)).setCell ⟨rb, 1, none⟩ (.int .i64 e.f1)).setCell ⟨rb, 2, none⟩ (.string e.f2)).setCell ⟨rb, 3, none⟩ (.string e.f3)).setCell ⟨rb, 4, none⟩ (.slice A4 e.f4.length c4)).setCell ⟨rb, 5, none⟩ (.string e.f5)).cell? ⟨eb, 1, none⟩ = some (.int .i64 e.f1) ∧ (((((((w5).setCell ⟨rb, 0, none⟩ (.int .i64 e.f0)).setCell ⟨rb, 1, none⟩ (.int .i64 e.f1)).setCell ⟨rb, 2, none⟩ (.string e.f2)).setCell ⟨rb, 3, none⟩ (.string e.f3)).setCell ⟨rb, 4, none⟩ (.slice A4 e.f4.length c4)).setCell ⟨rb, 5, none⟩ (.string e.f5)).cell? ⟨eb, 2, none⟩ = some (.string e.f2) ∧ (((((((w5).setCell ⟨rb, 0, none⟩ (.int .i64 e.f0)).setCell ⟨rb, 1, none⟩ (.int .i64 e.f1)).setCell ⟨rb, 2, none⟩ (.string e.f2)).setCell ⟨rb, 3, none⟩ (.string e.f3)).setCell ⟨rb, 4, none⟩ (.slice A4 e.f4.length c4)).setCell ⟨rb, 5, none⟩ (.string e.f5)).cell? ⟨eb, 3, none⟩ = some (.string e.f3) ∧ (((((((w5).setCell ⟨rb, 0, none⟩ (.int .i64 e.f0)).setCell ⟨rb, 1, none⟩ (.int .i64 e.f1)).setCell ⟨rb, 2, none⟩ (.string e.f2)).setCell ⟨rb, 3, none⟩ (.string e.f3)).setCell ⟨rb, 4, none⟩ (.slice A4 e.f4.length c4)).setCell ⟨rb, 5, none⟩ (.string e.f5)).cell? ⟨eb, 4, none⟩ = some (.slice A4 e.f4.length c4) ∧ (((((((w5).setCell ⟨rb, 0, none⟩ (.int .i64 e.f0)).setCell ⟨rb, 1, none⟩ (.int .i64 e.f1)).setCell ⟨rb, 2, none⟩ (.string e.f2)).setCell ⟨rb, 3, none⟩ (.string e.f3)).setCell ⟨rb, 4, none⟩ (.slice A4 e.f4.length c4)).setCell ⟨rb, 5, none⟩ (.string e.f5)).cell? ⟨eb, 5, none⟩ = some (.string e.f5) ∧ (((((((w5).setCell ⟨rb, 0, none⟩ (.int .i64 e.f0)).setCell ⟨rb, 1, none⟩ (.int .i64 e.f1)).setCell ⟨rb, 2, none⟩ (.string e.f2)).setCell ⟨rb, 3, none⟩ (.string e.f3)).setCell ⟨rb, 4, none⟩ (.slice A4 e.f4.length c4)).setCell ⟨rb, 5, none⟩ (.string e.f5)).cell? ⟨p, 2, none⟩ = some (.map (some bf)) ∧ (Instr.lookup 77 (.map (some bf)) (.int .i64 (numOfCode e.f2)) false).run Tryz.prog (((((((w5).setCell ⟨rb, 0, none⟩ (.int .i64 e.f0)).setCell ⟨rb, 1, none⟩ (.int .i64 e.f1)).setCell ⟨rb, 2, none⟩ (.string e.f2)).setCell ⟨rb, 3, none⟩ (.string e.f3)).setCell ⟨rb, 4, none⟩ (.slice A4 e.f4.length c4)).setCell ⟨rb, 5, none⟩ (.string e.f5)) = .ok (.bool (decide (numOfCode e.f2 ∈ fam))) (((((((w5).setCell ⟨rb, 0, none⟩ (.int .i64 e.f0)).setCell ⟨rb, 1, none⟩ (.int .i64 e.f1)).setCell ⟨rb, 2, none⟩ (.string e.f2)).setCell ⟨rb, 3, none⟩ (.string e.f3)).setCell ⟨rb, 4, none⟩ (.slice A4 e.f4.length c4)).setCell ⟨rb, 5, none⟩ (.string e.f5))) := ⟨⟨cell_of (evSet_far BE5.out n3 e A4 c4) 0 rfl, cell_of (evSet_far BE5.out n3 e A4 c4) 1 rfl, cell_of (evSet_far BE5.out n3 e A4 c4) 2 rfl, cell_of (evSet_far BE5.out n3 e A4 c4) 3 rfl, cell_of (evSet_far BE5.out n3 e A4 c4) 4 rfl, cell_of (evSet_far BE5.out n3 e A4 c4) 5 rfl, cell_of (evSet_far HP5.out n4 e A4 c4) 2 rfl, SetI.look (evSet_set SL5.out hnr e A4 c4) _ HN.out⟩⟩; clear hb5; have z0 : w5.cell? ⟨rb, 0, none⟩ = some (.int .i64 0) := cell_of BZ5.out 0 rfl; have z1 : w5.cell? ⟨rb, 1, none⟩ = some (.int .i64 0) := cell_of BZ5.out 1 rfl; have z2 : w5.cell? ⟨rb, 2, none⟩ = some (.string ⟨#[]⟩) := cell_of BZ5.out 2 rfl; have z3 : w5.cell? ⟨rb, 3, none⟩ = some (.string ⟨#[]⟩) := cell_of BZ5.out 3 rfl; have z4 : w5.cell? ⟨rb, 4, none⟩ = some (.slice none 0 0) := cell_of BZ5.out 4 rfl; have z5 : w5.cell? ⟨rb, 5, none⟩ = some (.string ⟨#[]⟩) := cell_of BZ5.out 5 rfl; have zf0 := blk_frozen BZ5.out 0; have zf1 := blk_frozen BZ5.out 1; have zf2 := blk_frozen BZ5.out 2; have zf3 := blk_frozen BZ5.out 3; have zf4 := blk_frozen BZ5.out 4; have zf5 := blk_frozen BZ5.out 5))
   all_goals (go_wp2)
   all_goals (refine bodyPost_ret (results_ct rfl _ _ rb 34 _ (0, 0) _ rfl (evSet_blk BZ5.out e A4 c4) Tryz.underlying34 rfl (by kernel_rfl)) rfl ?_)
   all_goals (have hbz := evSet_below (eb := rb) HB5.out HRB.out e A4 c4)
   all_goals (have ep : (e2, b2, bg2) = (e, decide (numOfCode e.f2 ∈ fam), began) := PP.out.trans (by unfold partP; simp [EF.out]))
   all_goals (obtain ⟨rfl, rfl, rfl⟩ : e2 = e ∧ b2 = decide (numOfCode e.f2 ∈ fam) ∧ bg2 = began := by simpa using ep)
   all_goals (exact ⟨.slice A4 e2.f4.length c4, rfl, Kd.V_mono (Kd.V_mk L4.out (Kd.F_below C4.out hbz)) (fun k hk => .inl hk), (grown_of_below hbz).but _, blk_below HP.out hbz⟩)
 by_cases cc : e.f0 = 8
 ·rw [cc] at q0
  have EF := Aside0.mk cc
  clear cc
  go_upto_region 18 with (fail)
  clear q0
  have hnr : bo ≠ rb := by omega
  have n1 : rb ≠ eb := by omega
  have n2 : rb ≠ p := by omega
  have n3 : eb ≠ rb := by omega
  have n4 : p ≠ rb := by omega
  clear hrb heb hpw hnb
  have SD : Aside0 ((w3.drew).cell? ⟨eb, 0, none⟩ = some (.int .i64 e.f0) ∧ (w3.drew).cell? ⟨eb, 1, none⟩ = some (.int .i64 e.f1) ∧ (w3.drew).cell? ⟨eb, 2, none⟩ = some (.string e.f2) ∧ (w3.drew).cell? ⟨eb, 3, none⟩ = some (.string e.f3) ∧ (w3.drew).cell? ⟨eb, 4, none⟩ = some (.slice A4 e.f4.length c4) ∧ (w3.drew).cell? ⟨eb, 5, none⟩ = some (.string e.f5) ∧ (w3.drew).cell? ⟨p, 5, none⟩ = some (.map (some bo)) ∧ (Instr.lookup 77 (.map (some bo)) (.int .i64 (numOfCode e.f2)) false).run Tryz.prog (w3.drew) = .ok (.bool (decide (numOfCode e.f2 ∈ orders))) (w3.drew)) := ⟨⟨cell_of (blk_drew BE3.out) 0 rfl, cell_of (blk_drew BE3.out) 1 rfl, cell_of (blk_drew BE3.out) 2 rfl, cell_of (blk_drew BE3.out) 3 rfl, cell_of (blk_drew BE3.out) 4 rfl, cell_of (blk_drew BE3.out) 5 rfl, cell_of (blk_drew HP3.out) 5 rfl, SetI.look (SetAt.below (show SetI w3 bo no orders from SetAt.below HSF.out.2.2.2 HB3.out) (below_drew (Below.refl w3.heap.size w3))) _ HN.out⟩⟩
  go_region_held3 (fun w' => w'.cell? ⟨eb, 0, none⟩ = some (.int .i64 e.f0) ∧ w'.cell? ⟨eb, 1, none⟩ = some (.int .i64 e.f1) ∧ w'.cell? ⟨eb, 2, none⟩ = some (.string e.f2) ∧ w'.cell? ⟨eb, 3, none⟩ = some (.string e.f3) ∧ w'.cell? ⟨eb, 4, none⟩ = some (.slice A4 e.f4.length c4) ∧ w'.cell? ⟨eb, 5, none⟩ = some (.string e.f5) ∧ w'.cell? ⟨p, 5, none⟩ = some (.map (some bo)) ∧ (Instr.lookup 77 (.map (some bo)) (.int .i64 (numOfCode e.f2)) false).run Tryz.prog w' = .ok (.bool (decide (numOfCode e.f2 ∈ orders))) w') (first | with_reducible exact SD.out | with_reducible exact S5.out | with_reducible exact SC.out) (first | (go_at_call 44; refine (Zbx.calls e.f2 (numOfCode e.f2) _ rfl).mono ?_; rintro e5 w5 ⟨rfl, hb5⟩; have BE5 := Aside0.mk (blk_below (blk_drew BE3.out) hb5); have BZ5 := Aside0.mk (blk_below (blk_drew BZ3.out) hb5); have HP5 := Aside0.mk (blk_below (blk_drew HP3.out) hb5); have HB5 := Aside0.mk (below_step (below_drew HB3.out) hb5); have SL5 := Aside0.mk (SetAt.below (show SetI w3 bo no orders from SetAt.below HSF.out.2.2.2 HB3.out) (below_step (below_drew (Below.refl w3.heap.size w3)) hb5)); have S5 : Aside0 ((w5).cell? ⟨eb, 0, none⟩ = some (.int .i64 e.f0) ∧ (w5).cell? ⟨eb, 1, none⟩ = some (.int .i64 e.f1) ∧ (w5).cell? ⟨eb, 2, none⟩ = some (.string e.f2) ∧ (w5).cell? ⟨eb, 3, none⟩ = some (.string e.f3) ∧ (w5).cell? ⟨eb, 4, none⟩ = some (.slice A4 e.f4.length c4) ∧ (w5).cell? ⟨eb, 5, none⟩ = some (.string e.f5) ∧ (w5).cell? ⟨p, 5, none⟩ = some (.map (some bo)) ∧ (Instr.lookup 77 (.map (some bo)) (.int .i64 (numOfCode e.f2)) false).run Tryz.prog (w5) = .ok (.bool (decide (numOfCode e.f2 ∈ orders))) (w5)) := ⟨⟨cell_of BE5.out 0 rfl, cell_of BE5.out 1 rfl, cell_of BE5.out 2 rfl, cell_of BE5.out 3 rfl, cell_of BE5.out 4 rfl, cell_of BE5.out 5 rfl, cell_of HP5.out 5 rfl, SetI.look SL5.out _ HN.out⟩⟩; have SC : Aside0 ((((((((w5).setCell ⟨rb, 0, none⟩ (.int .i64 e.f0)).setCell ⟨rb, 1, none⟩ (.int .i64 e.f1)).setCell ⟨rb, 2, none⟩ (.string e.f2)).setCell ⟨rb, 3, none⟩ (.string e.f3)).setCell ⟨rb, 4, none⟩ (.slice A4 e.f4.length c4)).setCell ⟨rb, 5, none⟩ (.string e.f5)).cell? ⟨eb, 0, none⟩ = some (.int .i64 e.f0) ∧ (((((((w5).setCell ⟨rb, 0, none⟩ (.int .i64 e.f0)).setCell ⟨rb, 1, none⟩ (.int .i64 e.f1)).setCell ⟨rb, 2, none⟩ (.string e.f2)).setCell ⟨rb, 3, none⟩ (.string e.f3)).setCell ⟨rb, 4, none⟩ (.slice A4 e.f4.length c4)).setCell ⟨rb, 5, none⟩ (.string e.f5)).cell? ⟨eb, 1, none⟩ = some (.int .i64 e.f1) ∧ (((((((w5).setCell ⟨rb, 0, none⟩ (.int .i64 e.f0)).setCell ⟨rb, 1, none⟩ (.int .i64 e.f1)).setCell ⟨rb, 2, none⟩ (.string e.f2)).setCell ⟨rb, 3, none⟩ (.string e.f3)).setCell ⟨rb, 4, none⟩ (.slice A4 e.f4.length c4)).setCell ⟨rb, 5, none⟩ (.string e.f5)).cell? ⟨eb, 2, none⟩ = some (.string e.f2) ∧ (((((((w5).setCell ⟨rb, 0, none⟩ (.int .i64 e.f0)).setCell ⟨rb, 1, none⟩ (.int .i64 e.f1)).setCell ⟨rb, 2, none⟩ (.string e.f2)).setCell ⟨rb, 3, none⟩ (.string e.f3)).setCell ⟨rb, 4, none⟩ (.slice A4 e.f4.length c4)).setCell ⟨rb, 5, none⟩ (.string e.f5)).cell? ⟨eb, 3, none⟩ = some (.string e.f3) ∧ (((((((w5).setCell ⟨rb, 0, none⟩ (.int .i64 e.f0)).setCell ⟨rb, 1, none⟩ (.int .i64 e.f1)).setCell ⟨rb, 2, none⟩ (.string e.f2)).setCell ⟨rb, 3, none⟩ (.string e.f3)).setCell ⟨rb, 4, none⟩ (.slice A4 e.f4.length c4)).setCell ⟨rb, 5, none⟩ (.string e.f5)).cell? ⟨eb, 4, none⟩ = some (.slice A4 e.f4.length c4) ∧ (((((((w5).setCell ⟨rb, 0, none⟩ (.int .i64 e.f0)).setCell ⟨rb, 1, none⟩ (.int .i64 e.f1)).setCell ⟨rb, 2, none⟩ (.string e.f2)).setCell ⟨rb, 3, none⟩ (.string e.f3)).setCell ⟨rb, 4, none⟩ (.slice A4 e.f4.length c4)).setCell ⟨rb, 5, none⟩ (.string e.f5)).cell? ⟨eb, 5, none⟩ = some (.string e.f5) ∧ (((((((w5).setCell ⟨rb, 0, none⟩ (.int .i64 e.f0)).setCell ⟨rb, 1, none⟩ (.int .i64 e.f1)).setCell ⟨rb, 2, none⟩ (.string e.f2)).setCell ⟨rb, 3, none⟩ (.string e.f3)).setCell ⟨rb, 4, none⟩ (.slice A4 e.f4.length c4)).setCell ⟨rb, 5, none⟩ (.string e.f5)).cell? ⟨p, 5, none⟩ = some (.map (some bo)) ∧ (Instr.lookup 77 (.map (some bo)) (.int .i64 (numOfCode e.f2)) false).run Tryz.prog (((((((w5).setCell ⟨rb, 0, none⟩ (.int .i64 e.f0)).setCell ⟨rb, 1, none⟩ (.int .i64 e.f1)).setCell ⟨rb, 2, none⟩ (.string e.f2)).setCell ⟨rb, 3, none⟩ (.string e.f3)).setCell ⟨rb, 4, none⟩ (.slice A4 e.f4.length c4)).setCell ⟨rb, 5, none⟩ (.string e.f5)) = .ok (.bool (decide (numOfCode e.f2 ∈ orders))) (((((((w5).setCell ⟨rb, 0, none⟩ (.int .i64 e.f0)).setCell ⟨rb, 1, none⟩ (.int .i64 e.f1)).setCell ⟨rb, 2, none⟩ (.string e.f2)).setCell ⟨rb, 3, none⟩ (.string e.f3)).setCell ⟨rb, 4, none⟩ (.slice A4 e.f4.length c4)).setCell ⟨rb, 5, none⟩ (.string e.f5))) := ⟨⟨cell_of (evSet_far BE5.out n3 e A4 c4) 0 rfl, cell_of (evSet_far BE5.out n3 e A4 c4) 1 rfl, cell_of (evSet_far BE5.out n3 e A4 c4) 2 rfl, cell_of (evSet_far BE5.out n3 e A4 c4) 3 rfl, cell_of (evSet_far BE5.out n3 e A4 c4) 4 rfl, cell_of (evSet_far BE5.out n3 e A4 c4) 5 rfl, cell_of (evSet_far HP5.out n4 e A4 c4) 5 rfl, SetI.look (evSet_set SL5.out hnr e A4 c4) _ HN.out⟩⟩; clear hb5; have z0 : w5.cell? ⟨rb, 0, none⟩ = some (.int .i64 0) := cell_of BZ5.out 0 rfl; have z1 : w5.cell? ⟨rb, 1, none⟩ = some (.int .i64 0) := cell_of BZ5.out 1 rfl; have z2 : w5.cell? ⟨rb, 2, none⟩ = some (.string ⟨#[]⟩) := cell_of BZ5.out 2 rfl; have z3 : w5.cell? ⟨rb, 3, none⟩ = some (.string ⟨#[]⟩) := cell_of BZ5.out 3 rfl; have z4 : w5.cell? ⟨rb, 4, none⟩ = some (.slice none 0 0) := cell_of BZ5.out 4 rfl; have z5 : w5.cell? ⟨rb, 5, none⟩ = some (.string ⟨#[]⟩) := cell_of BZ5.out 5 rfl; have zf0 := blk_frozen BZ5.out 0; have zf1 := blk_frozen BZ5.out 1; have zf2 := blk_frozen BZ5.out 2; have zf3 := blk_frozen BZ5.out 3; have zf4 := blk_frozen BZ5.out 4; have zf5 := blk_frozen BZ5.out 5))
  all_goals (go_wp2)
  all_goals (refine bodyPost_ret (results_ct rfl _ _ rb 34 _ (0, 0) _ rfl (evSet_blk BZ5.out e A4 c4) Tryz.underlying34 rfl (by kernel_rfl)) rfl ?_)
  all_goals (have hbz := evSet_below (eb := rb) HB5.out HRB.out e A4 c4)
  all_goals (have ep : (e2, b2, bg2) = (e, decide (numOfCode e.f2 ∈ orders), began) := PP.out.trans (by unfold partP; simp [EF.out]))
  all_goals (obtain ⟨rfl, rfl, rfl⟩ : e2 = e ∧ b2 = decide (numOfCode e.f2 ∈ orders) ∧ bg2 = began := by simpa using ep)
  all_goals (exact ⟨.slice A4 e2.f4.length c4, rfl, Kd.V_mono (Kd.V_mk L4.out (Kd.F_below C4.out hbz)) (fun k hk => .inl hk), (grown_of_below hbz).but _, blk_below HP.out hbz⟩)
 by_cases cc : e.f0 = 9
 ·rw [cc] at q0
  have EF := Aside0.mk cc
  clear cc
  go_upto_region 20 with (fail)
  clear q0
  have k0 : w3.cell? ⟨eb, 0, none⟩ = some (.int .i64 e.f0) := cell_of BE3.out 0 rfl
  have k1 : w3.cell? ⟨eb, 1, none⟩ = some (.int .i64 e.f1) := cell_of BE3.out 1 rfl
  have k2 : w3.cell? ⟨eb, 2, none⟩ = some (.string e.f2) := cell_of BE3.out 2 rfl
  have k3 : w3.cell? ⟨eb, 3, none⟩ = some (.string e.f3) := cell_of BE3.out 3 rfl
  have k4 : w3.cell? ⟨eb, 4, none⟩ = some (.slice A4 e.f4.length c4) := cell_of BE3.out 4 rfl
  have k5 : w3.cell? ⟨eb, 5, none⟩ = some (.string e.f5) := cell_of BE3.out 5 rfl
  go_wp2_with (first | (go_at_call 48; refine (Zbp.calls p bf nf _ _ _ _ _ began fam e A4 c4 w3 HP3.out (SetAt.below HSF.out.1 HB3.out) (Kd.C_below (Kd.F_now C4.out) HB3.out) L4.out K4.out K5.out).mono ?_; rintro e5 w5 ⟨v5, rfl, hR5, hg5, hp5⟩; obtain ⟨A5, c5, rfl⟩ := Kd.R_slice hR5; have R5 := Aside0.mk hR5; have G5 := Aside0.mk hg5; have P5 := Aside0.mk hp5; have BZ5 := Aside0.mk (blk_grown BZ3.out hg5 (fun e => by injection e with e; omega)); clear hR5 hg5 hp5; have z0 : w5.cell? ⟨rb, 0, none⟩ = some (.int .i64 0) := cell_of BZ5.out 0 rfl; have z1 : w5.cell? ⟨rb, 1, none⟩ = some (.int .i64 0) := cell_of BZ5.out 1 rfl; have z2 : w5.cell? ⟨rb, 2, none⟩ = some (.string ⟨#[]⟩) := cell_of BZ5.out 2 rfl; have z3 : w5.cell? ⟨rb, 3, none⟩ = some (.string ⟨#[]⟩) := cell_of BZ5.out 3 rfl; have z4 : w5.cell? ⟨rb, 4, none⟩ = some (.slice none 0 0) := cell_of BZ5.out 4 rfl; have z5 : w5.cell? ⟨rb, 5, none⟩ = some (.string ⟨#[]⟩) := cell_of BZ5.out 5 rfl; have zf0 := blk_frozen BZ5.out 0; have zf1 := blk_frozen BZ5.out 1; have zf2 := blk_frozen BZ5.out 2; have zf3 := blk_frozen BZ5.out 3; have zf4 := blk_frozen BZ5.out 4; have zf5 := blk_frozen BZ5.out 5))
  refine bodyPost_ret (results_ct rfl _ _ rb 34 _ (0, 0) _ rfl (evSet_blk BZ5.out (⟨e.f0, e.f1, e.f2, e.f3, pairsOf fam e.f4, e.f5⟩ : S34) A5 c5) Tryz.underlying34 rfl (by kernel_rfl)) rfl ?_
  have hgz : w.grownBy (evSet w5 rb (⟨e.f0, e.f1, e.f2, e.f3, pairsOf fam e.f4, e.f5⟩ : S34) A5 c5) (some p) := evSet_grown (grown_then (grown_of_below HB3.out) G5.out) HRB.out (⟨e.f0, e.f1, e.f2, e.f3, pairsOf fam e.f4, e.f5⟩ : S34) A5 c5
  have ep : (e2, b2, bg2) = ((⟨e.f0, e.f1, e.f2, e.f3, pairsOf fam e.f4, e.f5⟩ : S34), began || !(pairsOf fam e.f4).isEmpty, began || !(pairsOf fam e.f4).isEmpty) := PP.out.trans (by unfold partP; simp [EF.out])
  obtain ⟨rfl, rfl, rfl⟩ : e2 = (⟨e.f0, e.f1, e.f2, e.f3, pairsOf fam e.f4, e.f5⟩ : S34) ∧ b2 = (began || !(pairsOf fam e.f4).isEmpty) ∧ bg2 = (began || !(pairsOf fam e.f4).isEmpty) := by simpa using ep
  have hpw3 : p < w3.heap.size := Nat.lt_of_lt_of_le (blk_lt HP.out) (below_size HB3.out)
  have hR := evSet_R R5.out BZ5.out (⟨e.f0, e.f1, e.f2, e.f3, pairsOf fam e.f4, e.f5⟩ : S34) A5 c5
  have hR2 : Kd.R (Kd.int .i64) 3 (evSet w5 rb (⟨e.f0, e.f1, e.f2, e.f3, pairsOf fam e.f4, e.f5⟩ : S34) A5 c5) w3.heap.size (fun k => okS_ k ∨ w.heap.size ≤ k) _ _ := Kd.R_mono (Kd.R_bound hR) (fun k hk => .inr (Nat.le_trans (below_size HB3.out) hk.2.1))
  have hnp : bf ≠ p ∧ bl ≠ p ∧ bp ≠ p ∧ bo ≠ p := ⟨(blk_notmap HP.out HSF.out.1).symm, (blk_notmap HP.out HSF.out.2.1).symm, (blk_notmap HP.out HSF.out.2.2.1).symm, (blk_notmap HP.out HSF.out.2.2.2).symm⟩
  exact ⟨.slice A5 (pairsOf fam e.f4).length c5, rfl, Kd.R_V hR2, hgz, evSet_far P5.out (show p ≠ rb by omega) (⟨e.f0, e.f1, e.f2, e.f3, pairsOf fam e.f4, e.f5⟩ : S34) A5 c5⟩
 have EF : Aside0 (¬(e.f0 = 1) ∧ ¬(e.f0 = 2 ∨ e.f0 = 3 ∨ e.f0 = 4) ∧ ¬(e.f0 = 5 ∨ e.f0 = 6 ∨ e.f0 = 10) ∧ ¬(e.f0 = 7 ∨ e.f0 = 13 ∨ e.f0 = 14) ∧ ¬(e.f0 = 8) ∧ ¬(e.f0 = 9)) := ⟨by assumption, by assumption, by assumption, by assumption, by assumption, by assumption⟩
 have bb1 : (e.f0 == 1) = false := by simp; omega
 have bb2 : (e.f0 == 2) = false := by simp; omega
 have bb3 : (e.f0 == 3) = false := by simp; omega
 have bb4 : (e.f0 == 4) = false := by simp; omega
 have bb5 : (e.f0 == 5) = false := by simp; omega
 have bb6 : (e.f0 == 6) = false := by simp; omega
 have bb7 : (e.f0 == 7) = false := by simp; omega
 have bb8 : (e.f0 == 8) = false := by simp; omega
 have bb9 : (e.f0 == 9) = false := by simp; omega
 have bb10 : (e.f0 == 10) = false := by simp; omega
 have bb13 : (e.f0 == 13) = false := by simp; omega
 have bb14 : (e.f0 == 14) = false := by simp; omega
 clear cc
 have k0 : w3.cell? ⟨eb, 0, none⟩ = some (.int .i64 e.f0) := cell_of BE3.out 0 rfl
 have k1 : w3.cell? ⟨eb, 1, none⟩ = some (.int .i64 e.f1) := cell_of BE3.out 1 rfl
 have k2 : w3.cell? ⟨eb, 2, none⟩ = some (.string e.f2) := cell_of BE3.out 2 rfl
 have k3 : w3.cell? ⟨eb, 3, none⟩ = some (.string e.f3) := cell_of BE3.out 3 rfl
 have k4 : w3.cell? ⟨eb, 4, none⟩ = some (.slice A4 e.f4.length c4) := cell_of BE3.out 4 rfl
 have k5 : w3.cell? ⟨eb, 5, none⟩ = some (.string e.f5) := cell_of BE3.out 5 rfl
 have z0 : w3.cell? ⟨rb, 0, none⟩ = some (.int .i64 0) := cell_of BZ3.out 0 rfl
 have z1 : w3.cell? ⟨rb, 1, none⟩ = some (.int .i64 0) := cell_of BZ3.out 1 rfl
 have z2 : w3.cell? ⟨rb, 2, none⟩ = some (.string ⟨#[]⟩) := cell_of BZ3.out 2 rfl
 have z3 : w3.cell? ⟨rb, 3, none⟩ = some (.string ⟨#[]⟩) := cell_of BZ3.out 3 rfl
 have z4 : w3.cell? ⟨rb, 4, none⟩ = some (.slice none 0 0) := cell_of BZ3.out 4 rfl
 have z5 : w3.cell? ⟨rb, 5, none⟩ = some (.string ⟨#[]⟩) := cell_of BZ3.out 5 rfl
 have zf0 := blk_frozen BZ3.out 0
 have zf1 := blk_frozen BZ3.out 1
 have zf2 := blk_frozen BZ3.out 2
 have zf3 := blk_frozen BZ3.out 3
 have zf4 := blk_frozen BZ3.out 4
 have zf5 := blk_frozen BZ3.out 5
 go_wp2
 refine bodyPost_ret (results_ct rfl _ _ rb 34 _ (0, 0) _ rfl (evSet_blk BZ3.out e A4 c4) Tryz.underlying34 rfl (by kernel_rfl)) rfl ?_
 have hbz := (evSet_below (eb := rb) HB3.out HRB.out e A4 c4)
 have ep : (e2, b2, bg2) = (e, false, began) := PP.out.trans (by unfold partP; rw [if_neg EF.out.1, if_neg EF.out.2.1, if_neg EF.out.2.2.1, if_neg EF.out.2.2.2.1, if_neg EF.out.2.2.2.2.1, if_neg EF.out.2.2.2.2.2])
 obtain ⟨rfl, rfl, rfl⟩ : e2 = e ∧ b2 = false ∧ bg2 = began := by simpa using ep
 exact ⟨.slice A4 e2.f4.length c4, rfl, Kd.V_mono (Kd.V_mk L4.out (Kd.F_below C4.out hbz)) (fun k hk => .inl hk), (grown_of_below hbz).but _, blk_below HP.out hbz⟩
end Go.Proofs.YtjgifmakhnkmdaaGreatDoor.XRep
