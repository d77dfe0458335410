import Derived.Test.YtjgifmakhnkmdaaGreatDoorZExtN2
import Derived.Test.YtjgifmakhnkmdaaGreatDoorZExtQ
namespace Go.Proofs.YtjgifmakhnkmdaaGreatDoor.XRep
open Go.RowKit Go.Proofs.YtjgifmakhnkmdaaGreatDoorW.PrintWords Go.Proofs.YtjgifmakhnkmdaaGreatDoorW.PrintLast Go.Proofs.YtjgifmakhnkmdaaGreatDoorW.PrintMore
set_option linter.unusedVariables false
set_option linter.unusedSimpArgs false
def lgOf (s : List S34) (x : Int) : ByteArray × Bool := (Zbn.f KK s x).getD (⟨#[]⟩, false)
def histOk (s : List S34) (gs : List (List Int)) (fam : List Int) : Bool :=
 gs.all (fun g => decide (g.length < 50000) && g.all okI) && decide (fam.length ≤ 1000000) && fam.all (fun x => (Zbn.f KK s x).isSome && okS (lgOf s x).1) && s.all (fun e => evOk e && okI (numOfCode e.f2)) && decide (s.length ≤ 100000) && decide (gs.length = s.length)
def histGo (s : List S34) (gs : List (List Int)) (fam : List Int) (LG PM : List ByteArray) (OR : List Int) : Nat → List S34 × Bool
 | 0 => ([], false)
 | n + 1 =>
  let r := partP gs fam LG PM OR (histGo s gs fam LG PM OR n).2 n (rd_T34 s n)
  (if r.2.1 = true then (histGo s gs fam LG PM OR n).1 ++ [r.1] else (histGo s gs fam LG PM OR n).1, r.2.2)
def histOf (s : List S34) (gs : List (List Int)) (fam : List Int) : List S34 :=
 (histGo s gs fam (logsOf (lgOf s) fam) (s.foldl (scanEv (logsOf (lgOf s) fam) fam) ([], [], [])).2.1 (s.foldl (scanEv (logsOf (lgOf s) fam) fam) ([], [], [])).2.2 s.length).1
def Zbs.f (l0 : List S34) (a1 : ByteArray) : Option (List S34 × Int) :=
 (Zch.f KK l0 a1).bind fun kn =>
 if kn.2.2 = 0 then
  (Zal.f KK kn.1).bind fun gs =>
  (famGo kn.1 gs KK [] [kn.2.1]).bind fun fam =>
  if histOk kn.1 gs fam = true then some (histOf kn.1 gs fam, 0) else none
 else some ([], kn.2.2)
theorem below_m {a w : World} {m : Nat} (h : Below a.heap.size a w) (hm : m ≤ a.heap.size) : Below m a w := ⟨h.os, h.tape, h.output, h.size, fun i hi => h.block i (Nat.lt_of_lt_of_le hi hm)⟩
theorem N_own_ne {wr : World} {m p k : Nat} {ok : Nat → Prop} {v : Value} {xs : List S34} (h : Kd.N k34 34 wr m ok v xs) (hk : (k ≠ p ∧ k < m) ∨ wr.heap.size ≤ k) : some k ≠ v.ownBlock := by
 intro e
 have h1 := Kd.N_base h k e.symm
 have h2 := Kd.N_lt h k e.symm
 rcases hk with hk | hk
 ·omega
 ·omega
theorem SetAt.keepb {w w' : World} {kt b n : Nat} {L : List Lit} (h : SetAt w kt b n L) (e : w'.heap[b]? = w.heap[b]?) : SetAt w' kt b n L := by
 obtain ⟨D, ⟨es, clock, hb, r⟩, h2⟩ := h
 exact ⟨D, ⟨es, clock, e.trans hb, r⟩, h2⟩
theorem partP_fields (gs : List (List Int)) (fam : List Int) (LG PM : List ByteArray) (OR : List Int) (bg : Bool) (i : Nat) (e : S34) : (partP gs fam LG PM OR bg i e).1 = ⟨e.f0, e.f1, e.f2, e.f3, (partP gs fam LG PM OR bg i e).1.f4, e.f5⟩ := by
 unfold partP
 by_cases h1 : e.f0 = 1
 ·rw [if_pos h1]
 rw [if_neg h1]
 by_cases h2 : e.f0 = 2 ∨ e.f0 = 3 ∨ e.f0 = 4
 ·rw [if_pos h2]
 rw [if_neg h2]
 by_cases h3 : e.f0 = 5 ∨ e.f0 = 6 ∨ e.f0 = 10
 ·rw [if_pos h3]
 rw [if_neg h3]
 by_cases h4 : e.f0 = 7 ∨ e.f0 = 13 ∨ e.f0 = 14
 ·rw [if_pos h4]
 rw [if_neg h4]
 by_cases h5 : e.f0 = 8
 ·rw [if_pos h5]
 rw [if_neg h5]
 by_cases h6 : e.f0 = 9
 ·rw [if_pos h6]
 rw [if_neg h6]
theorem lg_some {s : List S34} {x : Int} (h : (Zbn.f KK s x).isSome = true) : Zbn.f KK s x = some (lgOf s x) := by
 unfold lgOf
 cases hx : Zbn.f KK s x with
 | none => rw [hx] at h; cases h
 | some v => rfl
set_option maxHeartbeats 8000000 in
set_option maxRecDepth 100000 in
theorem Zbs.calls (A0 : Option Addr) (c0 : Nat) (l0 : List S34) (a1 : ByteArray) (r1 : List S34) (r2 : Int) (w : World) (hr0 : Kd.C k34 w A0 l0.length l0) (hc0 : l0.length ≤ c0) (h : Zbs.f l0 a1 = some (r1, r2)) :
  Calls Tryz.prog 8 #[.slice A0 l0.length c0, .string a1] w fun e w' => ∃ v0 : Value, e = .returned (.tuple #[v0, .int .i64 r2]) ∧ Kd.N k34 34 w' w.heap.size (fun _ => True) v0 r1 ∧ Below w.heap.size w w' := by
 have HR := Aside0.mk hr0
 have HC := Aside0.mk hc0
 clear hr0 hc0
 unfold Zbs.f at h
 obtain ⟨⟨s, n, er⟩, ka, h⟩ := Option.bind_eq_some_iff.mp h
 have KA := Aside0.mk ka
 clear ka
 by_cases c1 : er = 0
 ·rw [if_pos c1] at h
  subst c1
  obtain ⟨gs, hgs, h⟩ := Option.bind_eq_some_iff.mp h
  obtain ⟨fam, hfam, h⟩ := Option.bind_eq_some_iff.mp h
  by_cases hk : histOk s gs fam = true
  ·rw [if_pos hk] at h
   injection h with h
   injection h with h1 h2
   subst h2
   have E1 := Aside0.mk h1
   have HGS := Aside0.mk hgs
   have HFAM := Aside0.mk hfam
   simp only [histOk, Bool.and_eq_true, decide_eq_true_eq, List.all_eq_true] at hk
   obtain ⟨⟨⟨⟨⟨hk1, hk2⟩, hk3⟩, hk4⟩, hk5⟩, hk6⟩ := hk
   have HK1 := Aside0.mk hk1
   have HK2 := Aside0.mk hk2
   have HK3 := Aside0.mk hk3
   have HK4 := Aside0.mk hk4
   have HK5 := Aside0.mk hk5
   have HK6 := Aside0.mk hk6
   clear h1 hgs hfam hk1 hk2 hk3 hk4 hk5 hk6
   go_enter Tryz.func8, Tryz.ntmps8
   go_upto_region 4 with (first | (go_at_call 20; refine (Zch.calls KK A0 c0 l0 a1 s n 0 _ HR.out HC.out KA.out).mono ?_; rintro e5 w5 ⟨v5, rfl, hS5, hb5⟩; obtain ⟨A, c, rfl, hcl, hC5⟩ := Kd.N_reads (Kd.S_N hS5); have S5 := Aside0.mk (Kd.F_bound (Kd.N_F (Kd.S_N hS5))); have CL := Aside0.mk hcl; have HB5 := Aside0.mk hb5; clear hS5 hC5 hcl hb5) | ((with_reducible refine gate_dst (N := 6) rfl ?_); refine box_event ?hg (N := 6) ?hd (cs := #[.slice none 0 0]) (t := 40) ?hr ?_; (case hd => rfl); (case hg => rfl); (case hr => first | (go_simp; done) | (go_simp; rfl)); intro hb6 hg w6 hbox hb; have BH := Aside0.mk hbox; have GH := Aside0.mk hg; have HB6 := Aside0.mk (below_step HB5.out hb); have S6 := Aside0.mk (Kd.F_below S5.out hb); clear hbox hg hb; have hz0 : w6.cell? ⟨hb6, 0, none⟩ = some (.slice none 0 0) := cell_of BH.out 0 rfl; have hf0 := blk_frozen BH.out 0))
   have BH7 := Aside0.mk (blk_put (cs' := #[.slice A s.length c]) BH.out 0 (.slice A s.length c) rfl)
   have HB7 := Aside0.mk (below_set (j := 0) (v := .slice A s.length c) HB6.out (show w.heap.size ≤ hb6 by have := below_size HB5.out; have := GH.out; omega))
   have S7 := Aside0.mk (Kd.F_far (p := ⟨hb6, 0, none⟩) S6.out (fun k hk => by have h1 := hk.2; have h2 := GH.out; show k ≠ hb6; omega) (.slice A s.length c))
   have HZ : Aside0 (w5.heap.size ≤ (w6.setCell ⟨hb6, 0, none⟩ (.slice A s.length c)).heap.size) := ⟨by have h1 := blk_lt BH7.out; have h2 := GH.out; omega⟩
   clear hz0 hf0 BH HB6 S6
   generalize w6.setCell ⟨hb6, 0, none⟩ (.slice A s.length c) = w7 at BH7 HB7 S7 HZ ⊢
   have hz7 : w7.cell? ⟨hb6, 0, none⟩ = some (.slice A s.length c) := cell_of BH7.out 0 rfl
   go_wp2_with (first | (go_at_call 21; refine (Zcf.calls A c s n gs fam (lgOf s) w7 (Kd.F_now S7.out) CL.out HGS.out (fun g hg => (HK1.out g hg).1) HFAM.out HK2.out (fun x hx => lg_some (HK3.out x hx).1) (fun x hx => (HK3.out x hx).2) (fun e he => (HK4.out e he).1) HK5.out).mono ?_; rintro e8 w8 ⟨p, rfl, hh8, hge8, hb8⟩; have H8 := Aside0.mk hh8; have G8 := Aside0.mk hge8; have HB8 := Aside0.mk (below_step HB7.out hb8); have S8 := Aside0.mk (Kd.F_below S7.out hb8); have BH8 := Aside0.mk (blk_below BH7.out hb8); have ZB := Aside0.mk (below_size hb8); clear hh8 hge8 hb8; have hz8 : w8.cell? ⟨hb6, 0, none⟩ = some (.slice A s.length c) := cell_of BH8.out 0 rfl))
   clear hz7
   obtain ⟨bf, bl, bp, bo, Ag, cg, nf, nl, np, no, hp, hsf, hsl, hsp, hso, hcg, hF⟩ := H8.out
   obtain ⟨m, hm⟩ : ∃ m, m = w8.heap.size := ⟨_, rfl⟩
   have HP := Aside0.mk hp
   have hpm : p < m := by rw [hm]; exact blk_lt hp
   have S8S := Aside0.mk (And.intro hsf (And.intro hsl (And.intro hsp hso)))
   have HCG := Aside0.mk hcg
   have FG8 := Aside0.mk (Kd.F_mono (Kd.F_bound hF) (fun k hk => (⟨hk.1, by rw [hm]; exact hk.2⟩ : k ≠ p ∧ k < m)))
   have FS8 := Aside0.mk (Kd.F_mono (Kd.F_bound S8.out) (fun k hk => (⟨by have h1 := hk.1.2; have h2 := G8.out; have h3 := HZ.out; omega, by rw [hm]; exact hk.2⟩ : k ≠ p ∧ k < m)))
   have hpw : w.heap.size ≤ p := Nat.le_trans (below_size HB7.out) G8.out
   clear hp hsf hsl hsp hso hcg hF H8 S8 S7
   obtain ⟨LG, hLG⟩ : ∃ x, x = (logsOf (lgOf s) fam) := ⟨_, rfl⟩
   obtain ⟨PM, hPM⟩ : ∃ x, x = (s.foldl (scanEv (logsOf (lgOf s) fam) fam) ([], [], [])).2.1 := ⟨_, rfl⟩
   obtain ⟨OR, hOR⟩ : ∃ x, x = (s.foldl (scanEv (logsOf (lgOf s) fam) fam) ([], [], [])).2.2 := ⟨_, rfl⟩
   have E2 := Aside0.mk (show (histGo s gs fam LG PM OR s.length).1 = r1 by rw [hLG, hPM, hOR]; exact E1.out)
   rw [← hPM, ← hOR, ← hLG] at S8S
   clear hLG hPM hOR E1
   go_loopg [10, 30] s.length (fun kq v10 v30 wq => ∃ (j : Nat) (bg : Bool) (out : List S34), v30 = .int .i64 j ∧ Aside0 (j + kq = s.length) ∧ Aside0 ((out, bg) = histGo s gs fam LG PM OR j) ∧ Aside0 (Kd.N k34 34 wq m (fun k => (k ≠ p ∧ k < m) ∨ m ≤ k) v10 out) ∧ Aside0 (∀ k, k < m → k ≠ p → wq.heap[k]? = w8.heap[k]?) ∧ Aside0 (m ≤ wq.heap.size) ∧ Aside0 (wq.heap[p]? = some (.cells #[.slice A s.length c, .slice Ag gs.length cg, .map (some bf), .map (some bl), .map (some bp), .map (some bo), .bool bg] 79 (0, 0))) ∧ Aside0 (Below w.heap.size w wq) ∧ Aside0 (out.length ≤ j))
   case atStart => exact ⟨0, false, [], rfl, ⟨by omega⟩, ⟨rfl⟩, ⟨Kd.N_nil _ _ _ _ _⟩, ⟨fun _ _ _ => rfl⟩, ⟨Nat.le_of_eq hm⟩, HP, HB8, ⟨Nat.le_refl _⟩⟩
   case round =>
    obtain ⟨j, bg, out, rfl, HJ, HH, HO, KP, MQ, HPQ, HB, HOL⟩ := hrel
    have hj := HJ.out
    have hsl := HK5.out
    by_cases hjl : j < s.length
    ·cases gk with
     | zero => exact absurd hj (by omega)
     | succ k2 =>
      have FG := Aside0.mk (Kd.F_step FG8.out (fun k hk _ => KP.out k hk.2 hk.1))
      have FS := Aside0.mk (Kd.F_step FS8.out (fun k hk _ => KP.out k hk.2 hk.1))
      have hlt4 : bf < m ∧ bl < m ∧ bp < m ∧ bo < m := by rw [hm]; exact ⟨SetAt.lt S8S.out.1, SetAt.lt S8S.out.2.1, SetAt.lt S8S.out.2.2.1, SetAt.lt S8S.out.2.2.2⟩
      have hnp : bf ≠ p ∧ bl ≠ p ∧ bp ≠ p ∧ bo ≠ p := ⟨(blk_notmap HP.out S8S.out.1).symm, (blk_notmap HP.out S8S.out.2.1).symm, (blk_notmap HP.out S8S.out.2.2.1).symm, (blk_notmap HP.out S8S.out.2.2.2).symm⟩
      have SQ : Aside0 (SetI wr bf nf fam ∧ SetS wr bl nl LG ∧ SetS wr bp np PM ∧ SetI wr bo no OR) := ⟨⟨SetAt.keepb S8S.out.1 (KP.out _ hlt4.1 hnp.1), SetAt.keepb S8S.out.2.1 (KP.out _ hlt4.2.1 hnp.2.1), SetAt.keepb S8S.out.2.2.1 (KP.out _ hlt4.2.2.1 hnp.2.2.1), SetAt.keepb S8S.out.2.2.2 (KP.out _ hlt4.2.2.2 hnp.2.2.2)⟩⟩
      obtain ⟨e, he⟩ : ∃ e, e = rd_T34 s (j : Int) := ⟨_, rfl⟩
      have hem : e ∈ s := by rw [he, show rd_T34 s (j : Int) = s[j] by simp [rd_T34, List.getD_eq_getElem?_getD, List.getElem?_eq_getElem hjl]]; exact List.getElem_mem hjl
      have EOK := Aside0.mk (HK4.out e hem).1
      have ENM := Aside0.mk (HK4.out e hem).2
      obtain ⟨⟨e2, b2, bg2⟩, hPP⟩ : ∃ r, r = partP gs fam LG PM OR bg j e := ⟨_, rfl⟩
      have PP := Aside0.mk hPP
      have e2f := partP_fields gs fam LG PM OR bg j e
      rw [← hPP] at e2f
      have E2F := Aside0.mk e2f
      have hstep : histGo s gs fam LG PM OR (j + 1) = (if b2 = true then out ++ [e2] else out, bg2) := by
       show (let r := partP gs fam LG PM OR (histGo s gs fam LG PM OR j).2 j (rd_T34 s j); (if r.2.1 = true then (histGo s gs fam LG PM OR j).1 ++ [r.1] else (histGo s gs fam LG PM OR j).1, r.2.2)) = _
       rw [← HH.out, ← he, ← hPP]
      have STP := Aside0.mk hstep
      have HE := Aside0.mk he
      clear hPP e2f hstep hem hlt4 hnp he
      go_upto_region 10 with (first | (go_at_call 22; refine (Zco.calls p bf bl bp bo Ag cg nf nl np no A c s gs fam LG PM OR bg j e wr HPQ.out SQ.out.1 SQ.out.2.1 SQ.out.2.2.1 SQ.out.2.2.2 HCG.out (Kd.F_mono FG.out (fun k hk => hk.1)) (fun k => k ≠ p ∧ k < m) FS.out hjl HE.out HK6.out (fun g hg x hx => (HK1.out g hg).2 x hx) EOK.out ENM.out).mono ?_; rw [← PP.out]; rintro e9 w9 ⟨v4, rfl, hv4, hg9, hp9⟩; obtain ⟨A4, c4, rfl⟩ := Kd.V_slice hv4; have V4 := Aside0.mk hv4; have G9 := Aside0.mk hg9; have P9 := Aside0.mk hp9; have N9 := Aside0.mk (Kd.N_grown HO.out hg9 (fun k hk e => by have e := Option.some.inj e; rcases hk with hk | hk; exact hk.1 e; omega)); have KP9 := Aside0.mk (fun k (h1 : k < m) (h2 : k ≠ p) => (hg9.block k (by have := MQ.out; omega) (fun e => h2 (Option.some.inj e))).trans (KP.out k h1 h2)); have B9 := Aside0.mk (HB.out.grown hg9 HB.out.size (fun k e => by have e := Option.some.inj e; omega)); have M9 := Aside0.mk (Nat.le_trans MQ.out hg9.size); clear hv4 hg9 hp9) | ((with_reducible refine gate_dst (N := 12) rfl ?_); refine box_event ?hg (N := 12) ?hd (cs := evz) (t := 34) ?hr ?_; (case hd => rfl); (case hg => rfl); (case hr => first | (go_simp; done) | (go_simp; rfl)); intro eb hg w10 hbox hb; have BE := Aside0.mk hbox; have GE := Aside0.mk hg; have HBX := Aside0.mk hb; clear hbox hg hb; have z0 : w10.cell? ⟨eb, 0, none⟩ = some (.int .i64 0) := cell_of BE.out 0 rfl; have zf0 := blk_frozen BE.out 0; have z1 : w10.cell? ⟨eb, 1, none⟩ = some (.int .i64 0) := cell_of BE.out 1 rfl; have zf1 := blk_frozen BE.out 1; have z2 : w10.cell? ⟨eb, 2, none⟩ = some (.string ⟨#[]⟩) := cell_of BE.out 2 rfl; have zf2 := blk_frozen BE.out 2; have z3 : w10.cell? ⟨eb, 3, none⟩ = some (.string ⟨#[]⟩) := cell_of BE.out 3 rfl; have zf3 := blk_frozen BE.out 3; have z4 : w10.cell? ⟨eb, 4, none⟩ = some (.slice none 0 0) := cell_of BE.out 4 rfl; have zf4 := blk_frozen BE.out 4; have z5 : w10.cell? ⟨eb, 5, none⟩ = some (.string ⟨#[]⟩) := cell_of BE.out 5 rfl; have zf5 := blk_frozen BE.out 5))
      change Code.wp _ _ _ _ (evSet w10 eb (⟨e.f0, e.f1, e.f2, e.f3, e2.f4, e.f5⟩ : S34) A4 c4)
      have heb : w9.heap.size ≤ eb := Nat.le_of_eq GE.out.symm
      have hb11 := evSet_below (eb := eb) HBX.out heb (⟨e.f0, e.f1, e.f2, e.f3, e2.f4, e.f5⟩ : S34) A4 c4
      have BE11 := Aside0.mk (evSet_blk BE.out (⟨e.f0, e.f1, e.f2, e.f3, e2.f4, e.f5⟩ : S34) A4 c4)
      have N11 := Aside0.mk (Kd.N_below N9.out hb11)
      have V11 := Aside0.mk (Kd.V_below V4.out hb11)
      have KP11 := Aside0.mk (fun k (h1 : k < m) (h2 : k ≠ p) => (hb11.block k (by have := M9.out; omega)).trans (KP9.out k h1 h2))
      have P11 := Aside0.mk (blk_below P9.out hb11)
      have B11 := Aside0.mk (below_step B9.out hb11)
      have M11 := Aside0.mk (Nat.le_trans M9.out (below_size hb11))
      clear z0 z1 z2 z3 z4 z5 zf0 zf1 zf2 zf3 zf4 zf5 hb11 N9 V4 KP9 P9 B9 BE HBX
      generalize evSet w10 eb (⟨e.f0, e.f1, e.f2, e.f3, e2.f4, e.f5⟩ : S34) A4 c4 = w11 at BE11 N11 V11 KP11 P11 B11 M11 ⊢
      cases b2 with
      | false =>
       go_wp2
       go_roundg k2
       case measure => omega
       case rel => exact ⟨j + 1, bg2, out, by go_num, ⟨by omega⟩, ⟨by rw [STP.out]; rfl⟩, N11, KP11, M11, P11, B11, ⟨by have := HOL.out; omega⟩⟩
      | true =>
       have kk0 : w11.cell? ⟨eb, 0, none⟩ = some (.int .i64 e.f0) := cell_of BE11.out 0 rfl
       have kk1 : w11.cell? ⟨eb, 1, none⟩ = some (.int .i64 e.f1) := cell_of BE11.out 1 rfl
       have kk2 : w11.cell? ⟨eb, 2, none⟩ = some (.string e.f2) := cell_of BE11.out 2 rfl
       have kk3 : w11.cell? ⟨eb, 3, none⟩ = some (.string e.f3) := cell_of BE11.out 3 rfl
       have kk4 : w11.cell? ⟨eb, 4, none⟩ = some (.slice A4 e2.f4.length c4) := cell_of BE11.out 4 rfl
       have kk5 : w11.cell? ⟨eb, 5, none⟩ = some (.string e.f5) := cell_of BE11.out 5 rfl
       have NOK := Aside0.mk (fun k (hk : (k ≠ p ∧ k < m) ∨ wr.heap.size ≤ k) => N_own_ne HO.out hk)
       go_wp2_with (first | ((with_reducible refine gate_builtin (b := .append) (xs := #[.tmp 40, .tmp 42]) rfl ?_); at_builtin; refine Kd.N_append k34 (w0 := w11) m rfl (.tmp 40) (.tmp 42) 22 34 (.agg #[(.int .i64 0), (.int .i64 0), (.string ⟨#[]⟩), (.string ⟨#[]⟩), (.slice none 0 0), (.string ⟨#[]⟩)]) 88 rfl Tryz.underlying22 info34 rfl (by decide) (by omega) _ out (⟨e.f0, e.f1, e.f2, e.f3, e2.f4, e.f5⟩ : S34) [.int .i64 e.f0, .int .i64 e.f1, .string e.f2, .string e.f3, .slice A4 e2.f4.length c4, .string e.f5] (fun k => (k ≠ p ∧ k < m) ∨ m ≤ k) (fun k => (((k ≠ p ∧ k < m) ∨ wr.heap.size ≤ k))) rfl rfl ?aP ?aK ?aF ?aO ?aB ?aS ?aL ?_; (case aP => exact k34_mkF _ _ (⟨e.f0, e.f1, e.f2, e.f3, e2.f4, e.f5⟩ : S34) (Kd.V_at V11.out).2.1 (Kd.V_at V11.out).2.2); (case aK => exact fun k hk => ⟨by have := MQ.out; omega, fun e => NOK.out k hk e⟩); (case aF => exact fun k hk => .inr (by have := M11.out; omega)); (case aO => exact N11.out); (case aB => exact below_m (Below.refl _ _) M11.out); (case aS => exact M11.out); (case aL => have := HOL.out; have := hsl; omega); intro v12 w12 ho12 hb12 hg12 _; have N12 := Aside0.mk ho12; have G12 := Aside0.mk hg12; clear ho12 hb12 hg12))
       have hob : ∀ k, k < m → some k ≠ (u10 : Value).ownBlock := fun k h1 e => by have h2 := Kd.N_base HO.out k e.symm; omega
       have e2e : e2 = (⟨e.f0, e.f1, e.f2, e.f3, e2.f4, e.f5⟩ : S34) := E2F.out
       have hm11 := M11.out
       go_roundg k2
       case measure => omega
       case rel => exact ⟨j + 1, bg2, out ++ [e2], by go_num, ⟨by omega⟩, ⟨by rw [STP.out]; rfl⟩, ⟨by rw [e2e]; exact N12.out⟩, ⟨fun k h1 h2 => (G12.out.block k (by omega) (hob k h1)).trans (KP11.out k h1 h2)⟩, ⟨Nat.le_trans hm11 G12.out.size⟩, ⟨(G12.out.block p (by omega) (hob p hpm)).trans P11.out⟩, ⟨B11.out.grown G12.out B11.out.size (fun k e => by have h2 := Kd.N_base HO.out k e; omega)⟩, ⟨by have := HOL.out; rw [List.length_append]; exact Nat.add_le_add_right this 1⟩⟩
    ·have ejn : j = s.length := by omega
     subst ejn
     have hout : out = r1 := by rw [← E2.out, ← HH.out]
     subst hout
     go_wp2
     go_ret2
     exact ⟨_, rfl, Kd.N_lower (Kd.N_mono HO.out (fun _ _ => trivial)) (by have := below_size HB8.out; omega), HB.out⟩
  ·rw [if_neg hk] at h
   cases h
 ·rw [if_neg c1] at h
  injection h with h
  injection h with h1 h2
  subst h1
  have hne : (er == 0) = false := by simpa using c1
  have hne2 : (er != 0) = true := by simpa using c1
  clear c1
  subst h2
  go_enter Tryz.func8, Tryz.ntmps8
  go_wp2_with (first | (go_at_call 20; refine (Zch.calls KK A0 c0 l0 a1 s n er _ HR.out HC.out KA.out).mono ?_; rintro e5 w5 ⟨v5, rfl, hS5, hb5⟩; obtain ⟨A, c, rfl, hcl, hC5⟩ := Kd.N_reads (Kd.S_N hS5); have S5 := Aside0.mk (Kd.F_bound (Kd.N_F (Kd.S_N hS5))); have CL := Aside0.mk hcl; have HB5 := Aside0.mk hb5; clear hS5 hC5 hcl hb5) | ((with_reducible refine gate_dst (N := 6) rfl ?_); refine box_event ?hg (N := 6) ?hd (cs := #[.slice none 0 0]) (t := 40) ?hr ?_; (case hd => rfl); (case hg => rfl); (case hr => first | (go_simp; done) | (go_simp; rfl)); intro hb6 hg w6 hbox hb; have BH := Aside0.mk hbox; have GH := Aside0.mk hg; have HB6 := Aside0.mk (below_step HB5.out hb); have S6 := Aside0.mk (Kd.F_below S5.out hb); clear hbox hg hb; have hz0 : w6.cell? ⟨hb6, 0, none⟩ = some (.slice none 0 0) := cell_of BH.out 0 rfl; have hf0 := blk_frozen BH.out 0))
  go_ret2
  exact ⟨_, rfl, Kd.N_nil _ _ _ _ _, below_set HB6.out (by have := below_size HB5.out; have := GH.out; omega)⟩
end Go.Proofs.YtjgifmakhnkmdaaGreatDoor.XRep
