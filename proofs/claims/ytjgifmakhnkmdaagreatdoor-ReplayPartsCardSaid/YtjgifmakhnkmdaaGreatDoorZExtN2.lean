import Derived.Deep.RegionHeld3
import Derived.Test.YtjgifmakhnkmdaaGreatDoorZExtN1
namespace Go.Proofs.YtjgifmakhnkmdaaGreatDoor.XRep
open Go.RowKit Go.Proofs.YtjgifmakhnkmdaaGreatDoorW.PrintWords Go.Proofs.YtjgifmakhnkmdaaGreatDoorW.PrintLast Go.Proofs.YtjgifmakhnkmdaaGreatDoorW.PrintMore
set_option linter.unusedVariables false
set_option linter.unusedSimpArgs false
attribute [local go_sem] mk77 mk76
set_option maxHeartbeats 8000000 in
set_option maxRecDepth 100000 in
theorem Zcf.calls (A : Option Addr) (c : Nat) (s : List S34) (n : Int) (gs : List (List Int)) (fam : List Int) (lgf : Int → ByteArray × Bool) (w : World) (hr : Kd.C k34 w A s.length s) (hc : s.length ≤ c) (hgs : Zal.f KK s = some gs)
  (hlen : ∀ g ∈ gs, g.length < 50000) (hfam : famGo s gs KK [] [n] = some fam) (hfl : fam.length ≤ 1000000) (hlog : ∀ x ∈ fam, Zbn.f KK s x = some (lgf x)) (hlok : ∀ x ∈ fam, okS (lgf x).1 = true) (hev : ∀ e ∈ s, evOk e = true) (hsl : s.length ≤ 100000) :
  Calls Tryz.prog 21 #[.agg #[.slice A s.length c], .int .i64 n] w fun e w' => ∃ p, e = .returned (.pointer (some ⟨p, 0, none⟩)) ∧ HistAt w' p A c s gs fam (logsOf lgf fam) (s.foldl (scanEv (logsOf lgf fam) fam) ([], [], [])).2.1 (s.foldl (scanEv (logsOf lgf fam) fam) ([], [], [])).2.2 false ∧ w.heap.size ≤ p ∧ Below w.heap.size w w' := by
 have HR := Aside0.mk hr
 have HC := Aside0.mk hc
 have HLEN := Aside0.mk hlen
 have HFAM := Aside0.mk hfam
 have HFL := Aside0.mk hfl
 have HLOG := Aside0.mk hlog
 have HLOK := Aside0.mk hlok
 have HEV := Aside0.mk hev
 have HSL := Aside0.mk hsl
 obtain ⟨LG, hLG⟩ : ∃ L, L = logsOf lgf fam := ⟨_, rfl⟩
 rw [← hLG]
 obtain ⟨ST, hST⟩ : ∃ L, L = s.foldl (scanEv LG fam) ([], [], []) := ⟨_, rfl⟩
 rw [← hST]
 have ELG := Aside0.mk hLG
 have EST := Aside0.mk hST
 clear hr hc hlen hfam hfl hlog hlok hev hsl hLG hST
 go_enter Tryz.func21, Tryz.ntmps21
 go_upto_region 1 with (fail)
 go_cut [5] (fun v5 wc => ∃ (m p bl bp bo : Nat) (Ag : Option Addr) (cg : Nat), v5 = .pointer (some ⟨p, 0, none⟩) ∧ Aside0 (BInv w wc m p bl bp bo A c s Ag cg gs (.map none)) ∧ Aside0 (SetS wc bl 0 []) ∧ Aside0 (SetS wc bp 0 []) ∧ Aside0 (SetI wc bo 0 []) ∧ Aside0 (gs.length ≤ cg))
 case first =>
  have hz : (w.alloc (.cells #[.slice A s.length c] 40)).cell? ⟨w.heap.size, 0, none⟩ = some (.slice A s.length c) := cell_of (heap_new w _) 0 rfl
  have HB0 := Aside0.mk (below_alloc (Below.refl w.heap.size w) (.cells #[.slice A s.length c] 40))
  have BK0 := Aside0.mk (heap_new w (.cells #[.slice A s.length c] 40))
  generalize w.alloc (.cells #[.slice A s.length c] 40) = w0 at hz HB0 BK0 ⊢
  go_region_held3 (fun w' => w'.cell? ⟨w.heap.size, 0, none⟩ = some (.slice A s.length c)) (first | (refine cell_kept (w := w0) ?_ hz; (repeat (first | exact Below.refl _ _ | apply below_alloc | apply below_drew)); done) | exact hz5 | (refine cell_kept (w := w5) ?_ hz5; (repeat (first | exact Below.refl _ _ | apply below_alloc | apply below_drew)); done)) (first | (go_at_call 45; refine (Zal.calls KK _ A c s gs _ (Kd.V_mk HC.out (Kd.F_below (Kd.C_F k34_heap HR.out) (below_step HB0.out (by repeat (first | exact Below.refl _ _ | apply below_alloc | apply below_drew))))) hgs).mono ?_; rintro e5 w5 ⟨v5, rfl, hN, hb5⟩; obtain ⟨Ag, cg, rfl, hcg, _⟩ := Kd.N_reads hN; have hF := Kd.F_bound (Kd.N_F hN); clear hN; (try simp only [World.drew_size, World.size_alloc] at hF); have hz5 : w5.cell? ⟨w.heap.size, 0, none⟩ = some (.slice A s.length c) := cell_kept hb5 (cell_kept (w := w0) (by (repeat (first | exact Below.refl _ _ | apply below_alloc | apply below_drew))) hz)))
  all_goals (have hs5 := below_size hb5; have hs0 := blk_lt BK0.out; simp at hs5)
  all_goals go_wp2
  all_goals go_meet
  all_goals refine ⟨_, _, _, _, _, _, _, rfl, ⟨⟨heap_new_at (by simp), ?_, ?_, ?_, ⟨?_, ?_, ?_, ?_, ?_, ?_, ?_, ?_, ?_, ?_, ?_, ?_, ?_, ?_, Nat.le_refl _⟩⟩⟩, ⟨?_⟩, ⟨?_⟩, ⟨?_⟩, ⟨hcg⟩⟩
  all_goals first | ((try simp only [World.size_alloc, World.size_drew]); omega) | (refine blk_below BK0.out ?_; (repeat (first | exact Below.refl _ _ | apply below_alloc | apply below_drew | refine below_step ?_ hb5)); done) | (refine below_step HB0.out ?_; (repeat (first | exact Below.refl _ _ | apply below_alloc | apply below_drew | refine below_step ?_ hb5)); done) | ((first | show SetAt _ 9 _ 0 [] | show SetAt _ 3 _ 0 []); (repeat (first | (refine SetAt.made_at ?_; first | rfl | (simp; done)) | refine SetAt.below ?_ hb5 | refine SetAt.below ?_ (below_alloc (Below.refl _ _) _) | refine SetAt.below ?_ (below_drew (Below.refl _ _)))); done) | (refine Kd.F_mono (Kd.F_below hF (by (repeat (first | exact Below.refl _ _ | apply below_alloc | apply below_drew)))) (fun k hk => ?_); simp only [World.size_alloc, World.size_drew] at hk ⊢; omega)
 case rest =>
  obtain ⟨m, p, bl, bp, bo, Ag, cg, rfl, HV, HL, HP, HO, HG⟩ := hcut
  have hz0 : wc.cell? ⟨w.heap.size, 0, none⟩ = some (.slice A s.length c) := cell_of HV.out.h0 0 rfl
  have hz1 : wc.cell? ⟨p, 1, none⟩ = some (.slice Ag gs.length cg) := cell_of HV.out.hp 1 rfl
  go_upto_region 2 with (fail)
  go_region_held3 (fun w' => w'.cell? ⟨w.heap.size, 0, none⟩ = some (.slice A s.length c) ∧ w'.cell? ⟨p, 1, none⟩ = some (.slice Ag gs.length cg)) (first | exact ⟨hz0, hz1⟩ | exact ⟨cell_kept hb6 hz0, cell_kept hb6 hz1⟩ | exact ⟨cell_of h07.out 0 rfl, cell_of hp7.out 1 rfl⟩) (first | (go_at_call 46; refine (Zak.calls KK A c s n Ag cg gs fam wc.drew (Kd.C_drew (Kd.C_below HR.out HV.out.hB)) HC.out (Kd.C_drew (Kd.F_now HV.out.hF)) HG.out HLEN.out HFAM.out).mono ?_; rintro e6 w6 ⟨bf, rfl, hf6, hge6, hb6⟩; have hp6 := Aside0.mk (blk_below (blk_drew HV.out.hp) hb6); have hz2 : w6.cell? ⟨p, 2, none⟩ = some (.map none) := cell_of hp6.out 2 rfl; have hfz : w6.frozen? ⟨p, 2, none⟩ = false := blk_frozen hp6.out 2; have hp7 := Aside0.mk (blk_put (cs' := #[.slice A s.length c, .slice Ag gs.length cg, .map (some bf), .map (some bl), .map (some bp), .map (some bo), .bool false]) hp6.out 2 (.map (some bf)) rfl); have h07 := Aside0.mk (blk_far (p := ⟨p, 2, none⟩) (blk_below (blk_drew HV.out.h0) hb6) (by have := HV.out.num; show w.heap.size ≠ p; omega) (.map (some bf)))))
  have hb7 : Below wc.heap.size wc w6 := below_step (below_drew (Below.refl _ _)) hb6
  have hn := HV.out.num
  have hsz : (w6.setCell ⟨p, 2, none⟩ (.map (some bf))).heap.size = w6.heap.size := by simp [World.setCell]
  have HV7 : BInv w (w6.setCell ⟨p, 2, none⟩ (.map (some bf))) m p bl bp bo A c s Ag cg gs (.map (some bf)) := ⟨hp7.out, h07.out, Kd.F_far (p := ⟨p, 2, none⟩) (Kd.F_below HV.out.hF hb7) (fun k hk => hk.1) _, below_set (below_step HV.out.hB hb7) (by omega), by rw [hsz]; have := below_size hb7; omega⟩
  have hbf : m ≤ bf := Nat.le_trans hn.2.2.2.2.2.2.2.2.2.2.2.2.2.2 hge6
  have HL7 : SetS (w6.setCell ⟨p, 2, none⟩ (.map (some bf))) bl 0 [] := SetAt.setCell (SetAt.below HL.out hb7) (by show bl ≠ p; omega) _
  have HP7 : SetS (w6.setCell ⟨p, 2, none⟩ (.map (some bf))) bp 0 [] := SetAt.setCell (SetAt.below HP.out hb7) (by show bp ≠ p; omega) _
  have HO7 : SetI (w6.setCell ⟨p, 2, none⟩ (.map (some bf))) bo 0 [] := SetAt.setCell (SetAt.below HO.out hb7) (by show bo ≠ p; omega) _
  have HF7 : SetI (w6.setCell ⟨p, 2, none⟩ (.map (some bf))) bf fam.length fam := SetAt.setCell hf6 (by show bf ≠ p; omega) _
  have hz7 : (w6.setCell ⟨p, 2, none⟩ (.map (some bf))).cell? ⟨p, 2, none⟩ = some (.map (some bf)) := cell_of hp7.out 2 rfl
  clear hsz hb7 hp7 h07 hf6 hge6 hb6 hp6 hz2 hfz hz0 hz1 HL HP HO HV
  generalize w6.setCell ⟨p, 2, none⟩ (.map (some bf)) = w7 at HV7 HL7 HP7 HO7 HF7 hz7 ⊢
  obtain ⟨D, hown, hhas, hat⟩ := HF7
  have HHAS := Aside0.mk hhas
  have HHAT := Aside0.mk hat
  have HV' := Aside0.mk HV7
  have HLP := Aside0.mk (And.intro HL7 (And.intro HP7 HO7))
  clear hhas hat HV7 HL7 HP7 HO7
  go_wp2_with (first | (at_range; refine wpList_range_own _ rfl _ 77 rfl 3 4 keyI Tryz.underlying77 (plainElem Tryz.prog 4) bf fam.length D rfl hown ?_; intro w8 hrg8 hg8 hs8))
  go_frame
  have hD := hown.size_le
  have hm7 : m ≤ w7.heap.size := HV'.out.num.2.2.2.2.2.2.2.2.2.2.2.2.2.2
  have HR8 := Aside0.mk hrg8
  have HV8 := Aside0.mk (HV'.out.grown hg8 (fun j e => by cases e))
  have HL8 := Aside0.mk (SetAt.kept HLP.out.1 hg8 (by simp) : SetS w8 bl 0 [])
  have HPO8 := Aside0.mk (And.intro (SetAt.kept HLP.out.2.1 hg8 (by simp) : SetS w8 bp 0 []) (SetAt.kept HLP.out.2.2 hg8 (by simp) : SetI w8 bo 0 []))
  obtain ⟨rr, hrr⟩ : ∃ rr, rr = w7.heap.size := ⟨_, rfl⟩
  rw [← hrr] at HR8 hm7 ⊢
  have HAS : Aside0 (∀ b ∈ fam, Maps.has D (.int .i64 b) = true) := ⟨fun b hb => (HHAS.out (.int .i64 b) (by simp [WideAt.IsKeyLit])).2 (List.mem_map.2 ⟨b, hb, rfl⟩)⟩
  clear hrg8 hg8 hs8 HV' HLP hown hz7 hrr
  go_loopg [] (Maps.size D) (fun kq wr => ∃ (left : Lit → Bool) (L : List ByteArray) (nl : Nat), Aside0 (wr.ranges Tryz.prog 3 (plainElem Tryz.prog 4) bf rr fam.length D left kq) ∧ Aside0 (SetS wr bl nl L) ∧ Aside0 (nl + kq ≤ Maps.size D) ∧ Aside0 (∀ x, x ∈ L ↔ ∃ b ∈ fam, left (.int .i64 b) = false ∧ (lgf b).2 = true ∧ (lgf b).1 = x) ∧ Aside0 (SetS wr bp 0 [] ∧ SetI wr bo 0 []) ∧ Aside0 (BInv w wr m p bl bp bo A c s Ag cg gs (.map (some bf))))
  case atStart => exact ⟨Maps.has D, [], 0, HR8, HL8, ⟨by omega⟩, ⟨fun x => ⟨fun h => by simp at h, fun ⟨b, hb, h, _⟩ => by rw [HAS.out b hb] at h; cases h⟩⟩, HPO8, HV8⟩
  case round =>
   clear HR8 HV8 HL8 HPO8
   obtain ⟨left, L, nl, HRG, HL, HN, HI, HPO, HV⟩ := hrel
   have hz : wr.cell? ⟨w.heap.size, 0, none⟩ = some (.slice A s.length c) := cell_of HV.out.h0 0 rfl
   have hzm : (wr.alloc (.map #[] 0)).cell? ⟨w.heap.size, 0, none⟩ = some (.slice A s.length c) := cell_kept (below_alloc (Below.refl _ _) _) hz
   go_upto_region 5 with (first | (at_next; refine wpList_next_ranges _ rfl _ rfl 3 keyI (plainElem Tryz.prog 4) (Value.int .i64) Value.bool (fun key kl hk => by obtain ⟨x, rfl, _⟩ := Maps.keyOf_int_inv Tryz.underlying3 hk; exact ⟨x, rfl⟩) (fun v y h => plain_bool_form h) bf rr fam.length D left gk rfl HRG.out ?_ ?_; rotate_left; intro x cc kl y w9 cnt1 hkey hlk hv hat1 hrg9 hlt9 hg9 hs9 hen; rotate_right; intro hc0 hl0))
   ·have HLG := Aside0.mk (SetS.same HL.out (fun x => (logs_mem hl0 HI.out x).trans (by rw [ELG.out])) : SetS wr bl nl LG)
    have HF := Aside0.mk (⟨D, HRG.out.owns, HHAS.out, HHAT.out⟩ : SetI wr bf fam.length fam)
    have hb1 := below_alloc (Below.refl wr.heap.size wr) (.map #[] 0)
    have HV1 := Aside0.mk (HV.out.below hb1)
    have HL1 := Aside0.mk (SetAt.below HLG.out hb1 : SetS (wr.alloc (.map #[] 0)) bl nl LG)
    have HF1 := Aside0.mk (SetAt.below HF.out hb1 : SetI (wr.alloc (.map #[] 0)) bf fam.length fam)
    have HP1 := Aside0.mk (SetAt.below HPO.out.1 hb1 : SetS (wr.alloc (.map #[] 0)) bp 0 [])
    have HO1 := Aside0.mk (SetAt.below HPO.out.2 hb1 : SetI (wr.alloc (.map #[] 0)) bo 0 [])
    have HE1 := Aside0.mk (SetAt.made wr 9 : SetS (wr.alloc (.map #[] 0)) wr.heap.size 0 [])
    have hfbr : rr < wr.heap.size := HRG.out.lt
    have hnl : nl ≤ 1000000 := by have := HN.out; have := HFL.out; omega
    have hbn : bf ≠ bl ∧ bf ≠ bp ∧ bf ≠ bo ∧ bf < wr.heap.size := by have := HV.out.num; have := SetAt.lt HF.out; omega
    obtain ⟨fb, hfb⟩ : ∃ fb, fb = wr.heap.size := ⟨_, rfl⟩
    rw [← hfb] at HE1 hfbr hbn ⊢
    clear hb1 hz hzm HLG HF HPO HV HL HRG HI HN hl0 hc0
    generalize wr.alloc (.map #[] 0) = w1 at HV1 HL1 HF1 HP1 HO1 HE1 ⊢
    clear hfb
    go_loopg [56] s.length (fun kq v56 wq => ∃ (j : Nat) (ne np no : Nat) (st : List ByteArray × List ByteArray × List Int), v56 = .int .i64 j ∧ Aside0 (j + kq = s.length) ∧ Aside0 (st = (s.take j).foldl (scanEv LG fam) ([], [], [])) ∧ Aside0 (SetS wq fb ne st.1 ∧ SetS wq bp np st.2.1 ∧ SetI wq bo no st.2.2) ∧ Aside0 (SetS wq bl nl LG ∧ SetI wq bf fam.length fam) ∧ Aside0 (ne ≤ j ∧ np ≤ j ∧ no ≤ 1000 * j) ∧ Aside0 (BInv w wq m p bl bp bo A c s Ag cg gs (.map (some bf))))
    case atStart => exact ⟨0, 0, 0, 0, ([], [], []), rfl, ⟨by omega⟩, ⟨rfl⟩, ⟨HE1.out, HP1.out, HO1.out⟩, ⟨HL1.out, HF1.out⟩, ⟨by omega⟩, HV1⟩
    case round =>
     clear HV1 HL1 HF1 HP1 HO1 HE1
     obtain ⟨j, ne, np, no, st, rfl, HJ, HST, HS, HLF, HN, HV⟩ := hrel
     have hj := HJ.out
     have hsm := HSL.out
     by_cases hjl : j < s.length
     ·cases gk with
      | zero => exact absurd hj (by omega)
      | succ k2 =>
       obtain ⟨ad, A4, c4, eA, y0, y1, y2, y3, y4, y5, hl4, hC4⟩ := at_T34 HR.out (j : Int) (by omega) (by omega)
       cases eA
       simp only [Int.toNat_natCast] at y0 y1 y2 y3 y4 y5
       replace y0 := cell_kept HV.out.hB y0
       replace y1 := cell_kept HV.out.hB y1
       replace y2 := cell_kept HV.out.hB y2
       replace y3 := cell_kept HV.out.hB y3
       replace y4 := cell_kept HV.out.hB y4
       replace y5 := cell_kept HV.out.hB y5
       have eqj : rd_T34 s (j : Int) = s[j] := by simp [rd_T34, List.getD_eq_getElem?_getD, List.getElem?_eq_getElem hjl]
       have hmem : rd_T34 s (j : Int) ∈ s := by rw [eqj]; exact List.getElem_mem hjl
       have etake : s.take (j + 1) = s.take j ++ [rd_T34 s (j : Int)] := by rw [eqj, List.take_add_one, List.getElem?_eq_getElem hjl]; rfl
       have hstep : (s.take (j + 1)).foldl (scanEv LG fam) ([], [], []) = scanEv LG fam st (rd_T34 s (j : Int)) := by rw [etake, List.foldl_append, ← HST.out]; rfl
       have hok := HEV.out _ hmem
       have STP := Aside0.mk hstep
       clear etake hstep eqj hmem
       obtain ⟨e, he⟩ : ∃ e, e = rd_T34 s (j : Int) := ⟨_, rfl⟩
       rw [← he] at y0 y1 y2 y3 y4 y5 hl4 hC4 hok STP
       simp only [evOk, Bool.and_eq_true, decide_eq_true_eq, List.all_eq_true] at hok
       obtain ⟨⟨⟨hok2, hok3⟩, hok4⟩, hok5⟩ := hok
       have K2 := Aside0.mk hok2
       have K3 := Aside0.mk hok3
       have K4 := Aside0.mk hok4
       have C4 := Aside0.mk hC4
       have L5 := Aside0.mk hok5
       have L4 := Aside0.mk hl4
       clear hok2 hok3 hok4 hok5 he hC4 hl4
       go_upto_block 4 with (first | ((with_reducible refine gate_dst (N := 11) rfl ?_); refine box_event ?hg (N := 11) ?hd (cs := evz) (t := 34) ?hr ?_; (case hd => rfl); (case hg => rfl); (case hr => first | (go_simp; done) | (go_simp; rfl)); intro eb hg w2 hbox hb; have BX := Aside0.mk hbox; have GX := Aside0.mk hg; have BB := Aside0.mk hb; clear hbox hg hb; have hc0 : w2.cell? ⟨eb, 0, none⟩ = some (.int .i64 0) := cell_of BX.out 0 rfl; have hf0 := blk_frozen BX.out 0; have hc1 : w2.cell? ⟨eb, 1, none⟩ = some (.int .i64 0) := cell_of BX.out 1 rfl; have hf1 := blk_frozen BX.out 1; have hc2 : w2.cell? ⟨eb, 2, none⟩ = some (.string ⟨#[]⟩) := cell_of BX.out 2 rfl; have hf2 := blk_frozen BX.out 2; have hc3 : w2.cell? ⟨eb, 3, none⟩ = some (.string ⟨#[]⟩) := cell_of BX.out 3 rfl; have hf3 := blk_frozen BX.out 3; have hc4 : w2.cell? ⟨eb, 4, none⟩ = some (.slice none 0 0) := cell_of BX.out 4 rfl; have hf4 := blk_frozen BX.out 4; have hc5 : w2.cell? ⟨eb, 5, none⟩ = some (.string ⟨#[]⟩) := cell_of BX.out 5 rfl; have hf5 := blk_frozen BX.out 5))
       change Code.wp _ _ _ _ (evSet w2 eb e A4 c4)
       have BK3 := Aside0.mk (evSet_blk BX.out e A4 c4)
       have hb3 := evSet_below (eb := eb) BB.out (Nat.le_of_eq GX.out.symm) e A4 c4
       clear hc0 hc1 hc2 hc3 hc4 hc5 hf0 hf1 hf2 hf3 hf4 hf5 y0 y1 y2 y3 y4 y5
       have HV3 := Aside0.mk (HV.out.below hb3)
       have HS3 := Aside0.mk (And.intro (SetAt.below HS.out.1 hb3 : SetS _ fb ne st.1) (And.intro (SetAt.below HS.out.2.1 hb3 : SetS _ bp np st.2.1) (SetAt.below HS.out.2.2 hb3 : SetI _ bo no st.2.2)))
       have HLF3 := Aside0.mk (And.intro (SetAt.below HLF.out.1 hb3 : SetS _ bl nl LG) (SetAt.below HLF.out.2 hb3 : SetI _ bf fam.length fam))
       generalize evSet w2 eb e A4 c4 = w3 at BK3 hb3 HV3 HS3 HLF3 ⊢
       have q0 : w3.cell? ⟨eb, 0, none⟩ = some (.int .i64 e.f0) := cell_of BK3.out 0 rfl
       have q2 : w3.cell? ⟨eb, 2, none⟩ = some (.string e.f2) := cell_of BK3.out 2 rfl
       have q3 : w3.cell? ⟨eb, 3, none⟩ = some (.string e.f3) := cell_of BK3.out 3 rfl
       have q4 : w3.cell? ⟨eb, 4, none⟩ = some (.slice A4 e.f4.length c4) := cell_of BK3.out 4 rfl
       have p2 : w3.cell? ⟨p, 2, none⟩ = some (.map (some bf)) := cell_of HV3.out.hp 2 rfl
       have p3 : w3.cell? ⟨p, 3, none⟩ = some (.map (some bl)) := cell_of HV3.out.hp 3 rfl
       have p4 : w3.cell? ⟨p, 4, none⟩ = some (.map (some bp)) := cell_of HV3.out.hp 4 rfl
       have p5 : w3.cell? ⟨p, 5, none⟩ = some (.map (some bo)) := cell_of HV3.out.hp 5 rfl
       have lk1 : ∀ m, (Instr.lookup 76 (.map (some bl)) (.string e.f2) false).run Tryz.prog (w3.drewN m) = .ok (.bool (memS e.f2 LG)) (w3.drewN m) := fun m => SetS.look (SetAt.below HLF3.out.1 (pw_below_drewN (Below.refl _ _) m)) _ K2.out
       have lk2 : ∀ m, (Instr.lookup 76 (.map (some fb)) (.string e.f2) false).run Tryz.prog (w3.drewN m) = .ok (.bool (memS e.f2 st.1)) (w3.drewN m) := fun m => SetS.look (SetAt.below HS3.out.1 (pw_below_drewN (Below.refl _ _) m)) _ K2.out
       go_upto_region 13 with (fail)
       by_cases c2 : e.f0 = 2
       ·have c9 : ¬ (e.f0 = 9) := by omega
        rw [c2] at q0
        cases m1 : memS e.f2 LG with
        | false =>
         simp only [m1] at lk1
         have SAME := Aside0.mk (show scanEv LG fam st e = st by unfold scanEv; rw [if_neg (by rw [m1]; simp), if_neg c9])
         clear c9 c2 m1 lk2
         go_quiet (fail)
         go_wp2
         go_roundg k2
         case measure => omega
         case rel => exact ⟨j + 1, ne, np, no, st, by go_num, ⟨by omega⟩, ⟨by rw [STP.out]; exact SAME.out.symm⟩, HS3, HLF3, ⟨by have := HN.out; omega⟩, ⟨HV3.out.below (pw_below_drewN (Below.refl _ _) _)⟩⟩
        | true =>
         simp only [m1] at lk1
         cases m2 : memS e.f2 st.1 with
         | true =>
          simp only [m2] at lk2
          have SAME := Aside0.mk (show scanEv LG fam st e = st by unfold scanEv; rw [if_neg (by rw [m2]; simp), if_neg c9])
          clear c9 c2 m1 m2
          go_quiet (fail)
          go_wp2
          go_roundg k2
          case measure => omega
          case rel => exact ⟨j + 1, ne, np, no, st, by go_num, ⟨by omega⟩, ⟨by rw [STP.out]; exact SAME.out.symm⟩, HS3, HLF3, ⟨by have := HN.out; omega⟩, ⟨HV3.out.below (pw_below_drewN (Below.refl _ _) _)⟩⟩
         | false =>
          simp only [m2] at lk2
          have SAME := Aside0.mk (show scanEv LG fam st e = (st.1 ++ [e.f2], st.2.1 ++ [e.f3], st.2.2) by unfold scanEv; rw [if_pos ⟨c2, m1, m2⟩])
          clear c9 c2 m1 m2
          go_quiet (fail)
          have hb4 := pw_below_drewN (Below.refl w3.heap.size w3) nq
          have HV4 := Aside0.mk (HV3.out.below hb4)
          have HS4 := Aside0.mk (And.intro (SetAt.below HS3.out.1 hb4 : SetS _ fb ne st.1) (And.intro (SetAt.below HS3.out.2.1 hb4 : SetS _ bp np st.2.1) (SetAt.below HS3.out.2.2 hb4 : SetI _ bo no st.2.2)))
          have HLF4 := Aside0.mk (And.intro (SetAt.below HLF3.out.1 hb4 : SetS _ bl nl LG) (SetAt.below HLF3.out.2 hb4 : SetI _ bf fam.length fam))
          have BK4 := Aside0.mk (blk_below BK3.out hb4)
          clear q0 q2 q3 q4 p2 p3 p4 p5 lk1 lk2 hb3 HV3 HS3 HLF3 BK3 hb4
          generalize w3.drewN nq = w4 at HV4 HS4 HLF4 BK4 ⊢
          have q2 : w4.cell? ⟨eb, 2, none⟩ = some (.string e.f2) := cell_of BK4.out 2 rfl
          have hn4 := HV4.out.num
          have hns := HN.out
          obtain ⟨w5, hput5, hs5, hg5, hz5⟩ := SetS.put HS4.out.1 (by omega) e.f2 K2.out
          have hx5 : fb ≠ bp ∧ fb ≠ bo ∧ fb ≠ bl ∧ fb ≠ bf := by omega
          have HV5 := Aside0.mk (HV4.out.grown hg5 (fun k e => by injection e with e; omega))
          have HS5 := Aside0.mk (And.intro hs5 (And.intro (SetAt.kept HS4.out.2.1 hg5 (fun e => hx5.1 (Option.some.inj e).symm) : SetS _ bp np st.2.1) (SetAt.kept HS4.out.2.2 hg5 (fun e => hx5.2.1 (Option.some.inj e).symm) : SetI _ bo no st.2.2)))
          have HLF5 := Aside0.mk (And.intro (SetAt.kept HLF4.out.1 hg5 (fun e => hx5.2.2.1 (Option.some.inj e).symm) : SetS _ bl nl LG) (SetAt.kept HLF4.out.2 hg5 (fun e => hx5.2.2.2 (Option.some.inj e).symm) : SetI _ bf fam.length fam))
          have BK5 := Aside0.mk (blk_grown BK4.out hg5 (fun e => blk_notmap BK4.out HS4.out.1 (Option.some.inj e)))
          clear hs5 hg5 hz5 hx5 HV4 HS4 HLF4 BK4
          go_upto_region 15 with (fail)
          clear q2 hput5
          have q3 : w5.cell? ⟨eb, 3, none⟩ = some (.string e.f3) := cell_of BK5.out 3 rfl
          have p4 : w5.cell? ⟨p, 4, none⟩ = some (.map (some bp)) := cell_of HV5.out.hp 4 rfl
          go_still_tail 6, (by kernel_rfl)
          change wpList _ _ _ _ _ w5.drew
          have hb6 := below_drew (Below.refl w5.heap.size w5)
          have HV6 := Aside0.mk (HV5.out.below hb6)
          have HS6 := Aside0.mk (And.intro (SetAt.below HS5.out.1 hb6 : SetS _ fb (ne + 1) (st.1 ++ [e.f2])) (And.intro (SetAt.below HS5.out.2.1 hb6 : SetS _ bp np st.2.1) (SetAt.below HS5.out.2.2 hb6 : SetI _ bo no st.2.2)))
          have HLF6 := Aside0.mk (And.intro (SetAt.below HLF5.out.1 hb6 : SetS _ bl nl LG) (SetAt.below HLF5.out.2 hb6 : SetI _ bf fam.length fam))
          clear q3 p4 HV5 HS5 HLF5 BK5 hb6
          generalize w5.drew = w6 at HV6 HS6 HLF6 ⊢
          obtain ⟨w7, hput7, hs7, hg7, hz7⟩ := SetS.put HS6.out.2.1 (by omega) e.f3 K3.out
          have hx7 : bp ≠ fb ∧ bp ≠ bo ∧ bp ≠ bl ∧ bp ≠ bf := by omega
          have HV7 := Aside0.mk (HV6.out.grown hg7 (fun k e => by injection e with e; omega))
          have HS7 := Aside0.mk (And.intro (SetAt.kept HS6.out.1 hg7 (fun e => hx7.1 (Option.some.inj e).symm) : SetS _ fb (ne + 1) (st.1 ++ [e.f2])) (And.intro hs7 (SetAt.kept HS6.out.2.2 hg7 (fun e => hx7.2.1 (Option.some.inj e).symm) : SetI _ bo no st.2.2)))
          have HLF7 := Aside0.mk (And.intro (SetAt.kept HLF6.out.1 hg7 (fun e => hx7.2.2.1 (Option.some.inj e).symm) : SetS _ bl nl LG) (SetAt.kept HLF6.out.2 hg7 (fun e => hx7.2.2.2 (Option.some.inj e).symm) : SetI _ bf fam.length fam))
          clear hs7 hg7 hz7 hx7 HV6 HS6 HLF6
          go_wp2
          go_roundg k2
          case measure => omega
          case rel => exact ⟨j + 1, ne + 1, np + 1, no, (st.1 ++ [e.f2], st.2.1 ++ [e.f3], st.2.2), by go_num, ⟨by omega⟩, ⟨by rw [STP.out]; exact SAME.out.symm⟩, HS7, HLF7, ⟨by omega⟩, HV7⟩
       ·by_cases c9 : e.f0 = 9
        ·have SAME := Aside0.mk (show scanEv LG fam st e = (st.1, st.2.1, scanPairs fam st.2.2 e.f4) by unfold scanEv; rw [if_neg (by simp [c2]), if_pos c9])
         rw [c9] at q0
         have C9 := Aside0.mk c9
         clear c2 c9 lk1 lk2
         go_quiet (fail)
         have hb4 := pw_below_drewN (Below.refl w3.heap.size w3) nq
         have HV4 := Aside0.mk (HV3.out.below hb4)
         have HS4 := Aside0.mk (And.intro (SetAt.below HS3.out.1 hb4 : SetS _ fb ne st.1) (And.intro (SetAt.below HS3.out.2.1 hb4 : SetS _ bp np st.2.1) (SetAt.below HS3.out.2.2 hb4 : SetI _ bo no st.2.2)))
         have HLF4 := Aside0.mk (And.intro (SetAt.below HLF3.out.1 hb4 : SetS _ bl nl LG) (SetAt.below HLF3.out.2 hb4 : SetI _ bf fam.length fam))
         have BK4 := Aside0.mk (blk_below BK3.out hb4)
         clear q0 q2 q3 q4 p2 p3 p4 p5 hb3 HV3 HS3 HLF3 BK3 hb4
         generalize w3.drewN nq = w4 at HV4 HS4 HLF4 BK4 ⊢
         have q0 : w4.cell? ⟨eb, 0, none⟩ = some (.int .i64 e.f0) := cell_of BK4.out 0 rfl
         rw [C9.out] at q0
         go_upto_block 5 with (fail)
         clear q0
         refine pairs_wp _ w w4 m p bl bp bo bf fb eb ne np no nl j (some ad) c s Ag cg gs fam LG st e A4 c4 _ _ _ _ _ _ _ _ _ _ _ _ _ _ _ _ _ _ _ _ _ _ _ _ _ _ _ _ _ _ _ _ _ _ _ _ _ _ _ _ _ _ _ _ _ _ _ _ _ _ _ _ _ _ _ _ _ _ _ _ _ _ _ _ _ _ _ _ _ _ _ _ _ _ _ _ _ _ _ _ _ _ _ _ _ _ _ _ _ _ _ _ _ _ _ _ _ _ _ _ _ _ _ _ _ _ _ _ _ _ _ _ _ _ _ _ _ _ _ _ HN ⟨by omega⟩ L4 L5 K4 C4 ⟨by omega⟩ HS4 HLF4 HV4 BK4 ?_
         intro v12 v93 v94 v95 v96 v97 v98 v99 v100 v101 v102 v103 v104 v105 v106 v107 v108 v109 v110 v111 v112 v113 v114 v115 v116 v117 v118 v119 v120 w5 no2 os hos HS5 HLF5 HV5 hno
         have HSP := Aside0.mk hos
         clear hos HS4 HLF4 HV4 BK4
         go_wp2
         go_roundg k2
         case measure => omega
         case rel => exact ⟨j + 1, ne, np, no2, (st.1, st.2.1, os), by go_num, ⟨by omega⟩, ⟨by rw [STP.out, SAME.out, HSP.out]⟩, HS5, HLF5, ⟨by have := HN.out; omega⟩, HV5⟩
        ·have SAME := Aside0.mk (show scanEv LG fam st e = st by unfold scanEv; rw [if_neg (by simp [c2]), if_neg c9])
         have b2 : (e.f0 == 2) = false := by simpa using c2
         have b9 : (e.f0 == 9) = false := by simpa using c9
         clear c2 c9 lk1 lk2
         go_quiet (fail)
         go_wp2
         go_roundg k2
         case measure => omega
         case rel => exact ⟨j + 1, ne, np, no, st, by go_num, ⟨by omega⟩, ⟨by rw [STP.out]; exact SAME.out.symm⟩, HS3, HLF3, ⟨by have := HN.out; omega⟩, ⟨HV3.out.below (pw_below_drewN (Below.refl _ _) _)⟩⟩
     ·have ejn : s.take j = s := List.take_of_length_le (by omega)
      have e1 := HST.out
      rw [ejn, ← EST.out] at e1
      have E1 := Aside0.mk e1
      clear e1 ejn
      go_wp2
      go_ret
      refine ⟨p, rfl, ⟨bf, bl, bp, bo, Ag, cg, fam.length, nl, np, no, HV.out.hp, HLF.out.2, ?_, ?_, ?_, HG.out, Kd.F_mono HV.out.hF (fun k hk => hk.1)⟩, Nat.le_of_lt HV.out.num.2.1, HV.out.hB⟩
      ·exact HLF.out.1
      ·rw [← E1.out]; exact HS.out.2.1
      ·rw [← E1.out]; exact HS.out.2.2
   ·obtain ⟨x', ex, ekl, hwf⟩ := Maps.keyOf_int_inv Tryz.underlying3 hkey
    injection ex with _ ex
    subst ex
    subst ekl
    have hx : x ∈ fam := by
     have h1 := (HHAS.out (.int .i64 x) (by simp [WideAt.IsKeyLit])).1 (Maps.has_true_of_atKey hat1)
     obtain ⟨b, hb, e⟩ := List.mem_map.1 h1
     injection e with _ e
     rw [← e]; exact hb
    have hbr : bl ≠ rr ∧ bp ≠ rr ∧ bo ≠ rr := by have := HV.out.num; omega
    have HV9 := Aside0.mk (HV.out.grown hg9 (fun j e => by injection e with e; omega))
    have HL9 := Aside0.mk (SetAt.kept HL.out hg9 (fun e => hbr.1 (Option.some.inj e)))
    have HPO9 := Aside0.mk (And.intro (SetAt.kept HPO.out.1 hg9 (fun e => hbr.2.1 (Option.some.inj e))) (SetAt.kept HPO.out.2 hg9 (fun e => hbr.2.2 (Option.some.inj e))))
    have hz9 : w9.cell? ⟨w.heap.size, 0, none⟩ = some (.slice A s.length c) := cell_of HV9.out.h0 0 rfl
    have HA0 := HLOG.out x hx
    rcases hlg : lgf x with ⟨g1, g2⟩
    rw [hlg] at HA0
    have HA := Aside0.mk HA0
    clear HA0 hz hzm hkey hat1 hv hlk hwf hg9 hs9 hbr
    cases g2 with
    | false =>
     go_wp2_with (first | (go_at_call 34; refine (Zbn.calls KK A c s x g1 false _ (Kd.C_below HR.out HV9.out.hB) HC.out HA.out).mono ?_; rintro e10 w10 ⟨rfl, hb10⟩; have HV10 := Aside0.mk (HV9.out.below hb10); have HRG10 := Aside0.mk (hrg9.kept (grown_of_below hb10) (by simp) (by simp)); have HL10 := Aside0.mk (SetAt.below HL9.out hb10); have HPO10 := Aside0.mk (And.intro (SetAt.below HPO9.out.1 hb10) (SetAt.below HPO9.out.2 hb10)); clear hb10))
     go_roundg cnt1
     case measure => exact hlt9
     case rel => exact ⟨_, L, nl, HRG10, HL10, ⟨by have := HN.out; omega⟩, ⟨range_mem hx (by rw [hlg]; rfl) HI.out⟩, HPO10, HV10⟩
    | true =>
     go_wp2_with (first | (go_at_call 34; refine (Zbn.calls KK A c s x g1 true _ (Kd.C_below HR.out HV9.out.hB) HC.out HA.out).mono ?_; rintro e10 w10 ⟨rfl, hb10⟩; have HV10 := Aside0.mk (HV9.out.below hb10); have HRG10 := Aside0.mk (hrg9.kept (grown_of_below hb10) (by simp) (by simp)); have HL10 := Aside0.mk (SetAt.below HL9.out hb10); have HPO10 := Aside0.mk (And.intro (SetAt.below HPO9.out.1 hb10) (SetAt.below HPO9.out.2 hb10)); clear hb10; have hz10 : w10.cell? ⟨p, 3, none⟩ = some (.map (some bl)) := cell_of HV10.out.hp 3 rfl; obtain ⟨w11, hput, hs11, hg11, hz11⟩ := SetS.put HL10.out (by have := HN.out; have := HFL.out; omega) g1 (by have := HLOK.out x hx; rw [hlg] at this; exact this); have HS11 := Aside0.mk hs11; have HG11 := Aside0.mk hg11; clear hs11 hg11 hz11))
     go_roundg cnt1
     case measure => exact hlt9
     case rel =>
      have hn10 := HV10.out.num
      exact ⟨_, L ++ [g1], nl + 1, ⟨HRG10.out.kept HG11.out (fun e => by injection e with e; omega) (fun e => by injection e with e; omega)⟩, HS11, ⟨by have := HN.out; omega⟩, ⟨range_mem hx (by rw [hlg]; rfl) HI.out⟩, ⟨SetAt.kept HPO10.out.1 HG11.out (fun e => by injection e with e; omega), SetAt.kept HPO10.out.2 HG11.out (fun e => by injection e with e; omega)⟩, ⟨HV10.out.grown HG11.out (fun j e => by injection e with e; omega)⟩⟩
end Go.Proofs.YtjgifmakhnkmdaaGreatDoor.XRep
