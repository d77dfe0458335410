import Derived.Test.YtjgifmakhnkmdaaGreatDoorZExtN0
namespace Go.Proofs.YtjgifmakhnkmdaaGreatDoor.XRep
open Go.RowKit Go.Proofs.YtjgifmakhnkmdaaGreatDoorW.PrintWords Go.Proofs.YtjgifmakhnkmdaaGreatDoorW.PrintLast Go.Proofs.YtjgifmakhnkmdaaGreatDoorW.PrintMore
set_option linter.unusedVariables false
set_option linter.unusedSimpArgs false
def cR : Code → Code | .seq _ b => b | c => c
def cL : Code → Code | .seq a _ => a | c => c
def cB : Code → Code | .block _ c => c | .loop c => c | c => c
def cT : Code → Code | .cond _ a _ => a | c => c
def cE : Code → Code | .cond _ _ b => b | c => c
def bodyC (f : Func) : Code := match f.body with | some c => c | none => .skip
noncomputable def frag21 : Code := cR (cT (cR (cE (cR (cB (cR (cB (cL (cR (cR (cB (cB (cR (cL (cR (cR (cR (cR (cR (bodyC Tryz.f21))))))))))))))))))))
set_option maxHeartbeats 8000000 in
set_option maxRecDepth 100000 in
theorem pairs_wp (Q : Exit → Act → World → Prop) (w wq : World) (m p bl bp bo bf fb eb ne np no nl j : Nat) (A : Option Addr) (c : Nat) (s : List S34) (Ag : Option Addr) (cg : Nat) (gs : List (List Int)) (fam : List Int) (LG : List ByteArray) (st : List ByteArray × List ByteArray × List Int) (e : S34) (A4 : Option Addr) (c4 : Nat) (u0 u1 u2 u3 u4 u6 u7 u8 u9 u10 u13 u14 u15 u16 u17 u18 u19 u20 u21 u22 u23 u24 u25 u26 u27 u28 u29 u30 u31 u32 u33 u34 u35 u36 u37 u38 u39 u40 u41 u42 u43 u44 u45 u46 u47 u48 u49 u50 u51 u52 u53 u54 u55 u56 u57 u58 u59 u60 u61 u62 u63 u64 u65 u66 u67 u68 u69 u70 u71 u72 u73 u74 u75 u76 u77 u78 u79 u80 u81 u82 u83 u84 u85 u86 u87 u88 u89 u90 u91 u92 u121 u122 u93 u94 u95 u96 u97 u98 u99 u100 u101 u102 u103 u104 u105 u106 u107 u108 u109 u110 u111 u112 u113 u114 u115 u116 u117 u118 u119 u120 : Value)
  (HN : Aside0 (ne ≤ j ∧ np ≤ j ∧ no ≤ 1000 * j)) (HJ : Aside0 (j ≤ 100000)) (L4 : Aside0 (e.f4.length ≤ c4)) (L5 : Aside0 (e.f4.length ≤ 1000)) (K4 : Aside0 (∀ x ∈ e.f4, okI x = true)) (C4 : Aside0 (Kd.C (Kd.int .i64) w A4 e.f4.length e.f4)) (HX : Aside0 (m ≤ fb ∧ m ≤ bf))
  (HS4 : Aside0 (SetS wq fb ne st.1 ∧ SetS wq bp np st.2.1 ∧ SetI wq bo no st.2.2)) (HLF4 : Aside0 (SetS wq bl nl LG ∧ SetI wq bf fam.length fam)) (HV4 : Aside0 (BInv w wq m p bl bp bo A c s Ag cg gs (.map (some bf)))) (BK4 : Aside0 (wq.heap[eb]? = some (.cells (evv e A4 c4) 34 (0, 0))))
  (hK : ∀ (v12 v93 v94 v95 v96 v97 v98 v99 v100 v101 v102 v103 v104 v105 v106 v107 v108 v109 v110 v111 v112 v113 v114 v115 v116 v117 v118 v119 v120 : Value) (w' : World) (no2 : Nat) (os : List Int), os = scanPairs fam st.2.2 e.f4 → Aside0 (SetS w' fb ne st.1 ∧ SetS w' bp np st.2.1 ∧ SetI w' bo no2 os) → Aside0 (SetS w' bl nl LG ∧ SetI w' bf fam.length fam) → Aside0 (BInv w w' m p bl bp bo A c s Ag cg gs (.map (some bf))) → no2 ≤ 1000 * (j + 1) → Q .normal { tmps := #[u0, u1, u2, u3, u4, .pointer (some ⟨p, 0, none⟩), u6, u7, u8, u9, u10, .pointer (some ⟨eb, 0, none⟩), v12, u13, u14, u15, u16, u17, u18, u19, u20, u21, u22, u23, u24, u25, u26, u27, u28, u29, u30, u31, u32, u33, u34, u35, u36, u37, u38, u39, u40, u41, u42, u43, u44, u45, u46, u47, u48, u49, u50, u51, u52, u53, u54, u55, u56, u57, u58, u59, u60, u61, u62, u63, u64, u65, u66, u67, u68, u69, u70, u71, u72, u73, u74, u75, u76, u77, u78, u79, u80, u81, u82, u83, u84, u85, u86, u87, u88, u89, u90, u91, u92, v93, v94, v95, v96, v97, v98, v99, v100, v101, v102, v103, v104, v105, v106, v107, v108, v109, v110, v111, v112, v113, v114, v115, v116, v117, v118, v119, v120, u121, u122], defers := [] } w') :
  Code.wp Tryz.prog frag21 Q { tmps := #[u0, u1, u2, u3, u4, .pointer (some ⟨p, 0, none⟩), u6, u7, u8, u9, u10, .pointer (some ⟨eb, 0, none⟩), .int .i64 0, u13, u14, u15, u16, u17, u18, u19, u20, u21, u22, u23, u24, u25, u26, u27, u28, u29, u30, u31, u32, u33, u34, u35, u36, u37, u38, u39, u40, u41, u42, u43, u44, u45, u46, u47, u48, u49, u50, u51, u52, u53, u54, u55, u56, u57, u58, u59, u60, u61, u62, u63, u64, u65, u66, u67, u68, u69, u70, u71, u72, u73, u74, u75, u76, u77, u78, u79, u80, u81, u82, u83, u84, u85, u86, u87, u88, u89, u90, u91, u92, u93, u94, u95, u96, u97, u98, u99, u100, u101, u102, u103, u104, u105, u106, u107, u108, u109, u110, u111, u112, u113, u114, u115, u116, u117, u118, u119, u120, u121, u122], defers := [] } wq := by
 dsimp only [frag21, bodyC, Tryz.f21, cR, cL, cB, cT, cE]
 go_wp2
 have hl5 := L5.out
 go_loopg [12] (e.f4.length + 2) (fun kq v12 wx => ∃ (nk i no2 : Nat) (os : List Int), v12 = .int .i64 nk ∧ Aside0 (nk = 2 * i) ∧ Aside0 (nk + kq = e.f4.length + 2) ∧ Aside0 (scanPairs fam os (e.f4.drop nk) = scanPairs fam st.2.2 e.f4) ∧ Aside0 (SetS wx fb ne st.1 ∧ SetS wx bp np st.2.1 ∧ SetI wx bo no2 os) ∧ Aside0 (SetS wx bl nl LG ∧ SetI wx bf fam.length fam) ∧ Aside0 (no2 ≤ 1000 * j + i) ∧ Aside0 (BInv w wx m p bl bp bo A c s Ag cg gs (.map (some bf))) ∧ Aside0 (wx.heap[eb]? = some (.cells (evv e A4 c4) 34 (0, 0))))
 case atStart => exact ⟨0, 0, no, st.2.2, rfl, ⟨by omega⟩, ⟨by omega⟩, ⟨rfl⟩, HS4, HLF4, ⟨by have := HN.out; omega⟩, HV4, BK4⟩
 case round =>
  clear HV4 HS4 HLF4 BK4
  obtain ⟨nk, i, no2, os, rfl, HI1, HI2, HSP, HS5, HLF5, HN5, HV5, BK5⟩ := hrel
  have hi1 := HI1.out
  have hi2 := HI2.out
  have q4 : wr.cell? ⟨eb, 4, none⟩ = some (.slice A4 e.f4.length c4) := cell_of BK5.out 4 rfl
  have hl4 := L4.out
  by_cases hlt : nk + 1 < e.f4.length
  ·obtain ⟨ad4, eA4, x0⟩ := Kd.at_int (Kd.C_below C4.out HV5.out.hB) (nk : Int) (by omega) (by omega)
   obtain ⟨ad5, eA5, x1⟩ := Kd.at_int (Kd.C_below C4.out HV5.out.hB) ((nk : Int) + 1) (by omega) (by omega)
   cases eA4
   obtain rfl : ad4 = ad5 := (by injection eA5)
   have o0 : okI (rd e.f4 (nk : Int)) = true := K4.out _ (rd_in (by omega))
   have o1 : okI (rd e.f4 ((nk : Int) + 1)) = true := K4.out _ (by rw [show ((nk : Int) + 1) = ((nk + 1 : Nat) : Int) by omega]; exact rd_in (by omega))
   have hsp := HSP.out
   rw [scanPairs_step fam os e.f4 nk hlt] at hsp
   simp only [Int.toNat_natCast] at x0
   have tx : ((nk : Int) + 1).toNat = nk + 1 := by omega
   have x2 := x1
   rw [tx] at x2
   replace x2 : wr.cell? ⟨ad4.block, ad4.off + (nk + 1), none⟩ = some (.int .i64 (rd e.f4 ((nk : Int) + 1))) := by simpa [Addr.add] using x2
   have p2 : wr.cell? ⟨p, 2, none⟩ = some (.map (some bf)) := cell_of HV5.out.hp 2 rfl
   have lk : ∀ m, (Instr.lookup 77 (.map (some bf)) (.int .i64 (rd e.f4 ((nk : Int) + 1))) false).run Tryz.prog (wr.drewN m) = .ok (.bool (decide (rd e.f4 ((nk : Int) + 1) ∈ fam))) (wr.drewN m) := fun m => SetI.look (SetAt.below HLF5.out.2 (pw_below_drewN (Below.refl _ _) m)) _ o1
   have lt0 : nk < e.f4.length := Nat.lt_of_succ_lt hlt
   have lt1 : (nk : Int) + 1 < (e.f4.length : Int) := by omega
   clear tx hi1 hi2 hl4 eA5
   have hnk : nk ≤ 1002 := Nat.le_trans (Nat.le_add_right nk _) (Nat.le_trans (Nat.le_of_eq HI2.out) (Nat.add_le_add_right L5.out 2))
   have ew := wrap_nk (nk := nk) (Nat.le_trans hnk (by decide))
   have EW := Aside0.mk ew
   clear ew
   go_upto_region 20 with (fail)
   by_cases d : rd e.f4 ((nk : Int) + 1) ∈ fam
   ·rw [if_pos d] at hsp
    simp only [decide_eq_true d] at lk
    have HSP' := Aside0.mk hsp
    clear hsp d
    have ew := EW.out
    go_quiet (fail)
    clear ew
    have hb6 := pw_below_drewN (Below.refl wr.heap.size wr) nq
    have HV6 := Aside0.mk (HV5.out.below hb6)
    have HS6 := Aside0.mk (And.intro (SetAt.below HS5.out.1 hb6 : SetS _ fb ne st.1) (And.intro (SetAt.below HS5.out.2.1 hb6 : SetS _ bp np st.2.1) (SetAt.below HS5.out.2.2 hb6 : SetI _ bo no2 os)))
    have HLF6 := Aside0.mk (And.intro (SetAt.below HLF5.out.1 hb6 : SetS _ bl nl LG) (SetAt.below HLF5.out.2 hb6 : SetI _ bf fam.length fam))
    have BK6 := Aside0.mk (blk_below BK5.out hb6)
    replace x0 := cell_kept hb6 x0
    have o0' := Aside0.mk o0
    clear q4 p2 lk x1 x2 hb6 HV5 HS5 HLF5 BK5 o0 o1 HSP
    generalize wr.drewN nq = w6 at HV6 HS6 HLF6 BK6 x0 ⊢
    go_upto_region 21 with (fail)
    have q4 : w6.cell? ⟨eb, 4, none⟩ = some (.slice (some ad4) e.f4.length c4) := cell_of BK6.out 4 rfl
    have p5 : w6.cell? ⟨p, 5, none⟩ = some (.map (some bo)) := cell_of HV6.out.hp 5 rfl
    go_still_tail 9, (by kernel_rfl)
    change wpList _ _ _ _ _ w6.drew
    have hb7 := below_drew (Below.refl w6.heap.size w6)
    have HV7 := Aside0.mk (HV6.out.below hb7)
    have HS7 := Aside0.mk (And.intro (SetAt.below HS6.out.1 hb7 : SetS _ fb ne st.1) (And.intro (SetAt.below HS6.out.2.1 hb7 : SetS _ bp np st.2.1) (SetAt.below HS6.out.2.2 hb7 : SetI _ bo no2 os)))
    have HLF7 := Aside0.mk (And.intro (SetAt.below HLF6.out.1 hb7 : SetS _ bl nl LG) (SetAt.below HLF6.out.2 hb7 : SetI _ bf fam.length fam))
    have BK7 := Aside0.mk (blk_below BK6.out hb7)
    clear q4 p5 x0 HV6 HS6 HLF6 BK6 hb7
    generalize w6.drew = w7 at HV7 HS7 HLF7 BK7 ⊢
    have hn7 := HV7.out.num
    have hns := HN.out
    have hns5 := HN5.out
    have hx0 := HX.out
    have hj0 := HJ.out
    have hi0 := HI1.out
    obtain ⟨w8, hput8, hs8, hg8, hz8⟩ := SetI.put HS7.out.2.2 (by omega) _ o0'.out
    have hx8 : bo ≠ fb ∧ bo ≠ bp ∧ bo ≠ bl ∧ bo ≠ bf := by omega
    have HV8 := Aside0.mk (HV7.out.grown hg8 (fun k e => by injection e with e; omega))
    have HS8 := Aside0.mk (And.intro (SetAt.kept HS7.out.1 hg8 (fun e => hx8.1 (Option.some.inj e).symm) : SetS _ fb ne st.1) (And.intro (SetAt.kept HS7.out.2.1 hg8 (fun e => hx8.2.1 (Option.some.inj e).symm) : SetS _ bp np st.2.1) hs8))
    have HLF8 := Aside0.mk (And.intro (SetAt.kept HLF7.out.1 hg8 (fun e => hx8.2.2.1 (Option.some.inj e).symm) : SetS _ bl nl LG) (SetAt.kept HLF7.out.2 hg8 (fun e => hx8.2.2.2 (Option.some.inj e).symm) : SetI _ bf fam.length fam))
    have BK8 := Aside0.mk (blk_grown BK7.out hg8 (fun e => blk_notmap BK7.out HS7.out.2.2 (Option.some.inj e)))
    clear hx0 hj0 hi0 hs8 hg8 hz8 hx8 HV7 HS7 HLF7 BK7
    go_wp2
    go_roundg (gk - 2)
    case measure => have := HI1.out; have := HI2.out; omega
    case rel => exact ⟨nk + 2, i + 1, no2 + 1, _, by go_num, ⟨by have := HI1.out; omega⟩, ⟨by have := HI2.out; omega⟩, HSP', HS8, HLF8, ⟨by omega⟩, HV8, BK8⟩
   ·rw [if_neg d] at hsp
    simp only [decide_eq_false d] at lk
    have HSP' := Aside0.mk hsp
    clear hsp d
    have ew := EW.out
    go_quiet (fail)
    clear ew
    have hb6 := pw_below_drewN (Below.refl wr.heap.size wr) nq
    have HV6 := Aside0.mk (HV5.out.below hb6)
    have HS6 := Aside0.mk (And.intro (SetAt.below HS5.out.1 hb6 : SetS _ fb ne st.1) (And.intro (SetAt.below HS5.out.2.1 hb6 : SetS _ bp np st.2.1) (SetAt.below HS5.out.2.2 hb6 : SetI _ bo no2 os)))
    have HLF6 := Aside0.mk (And.intro (SetAt.below HLF5.out.1 hb6 : SetS _ bl nl LG) (SetAt.below HLF5.out.2 hb6 : SetI _ bf fam.length fam))
    have BK6 := Aside0.mk (blk_below BK5.out hb6)
    clear q4 p2 lk x0 x1 x2 hb6 HV5 HS5 HLF5 BK5 o0 o1 HSP
    generalize wr.drewN nq = w6 at HV6 HS6 HLF6 BK6 ⊢
    have hns5 := HN5.out
    go_wp2
    go_roundg (gk - 2)
    case measure => have := HI1.out; have := HI2.out; omega
    case rel => exact ⟨nk + 2, i + 1, no2, os, by go_num, ⟨by have := HI1.out; omega⟩, ⟨by have := HI2.out; omega⟩, HSP', HS6, HLF6, ⟨by omega⟩, HV6, BK6⟩
  ·have hsp := HSP.out
   rw [scanPairs_end fam os _ (by rw [List.length_drop]; omega)] at hsp
   have HSP' := Aside0.mk hsp
   clear hsp
   have hle : ¬ ((nk : Int) + 1 < (e.f4.length : Int)) := by omega
   have hnk : nk ≤ 1002 := Nat.le_trans (Nat.le_add_right nk _) (Nat.le_trans (Nat.le_of_eq HI2.out) (Nat.add_le_add_right L5.out 2))
   clear hi1 hi2 hl4
   go_wp2
   exact hK _ _ _ _ _ _ _ _ _ _ _ _ _ _ _ _ _ _ _ _ _ _ _ _ _ _ _ _ _ wr no2 os HSP'.out HS5 HLF5 HV5 (by have := HN5.out; have := HI1.out; have := HN.out; omega)
end Go.Proofs.YtjgifmakhnkmdaaGreatDoor.XRep
