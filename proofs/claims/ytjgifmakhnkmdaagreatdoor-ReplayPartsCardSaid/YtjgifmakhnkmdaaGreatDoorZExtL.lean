import Derived.Test.YtjgifmakhnkmdaaGreatDoorZExtK
import Derived.Test.YtjgifmakhnkmdaaGreatDoorZExtP
namespace Go.Proofs.YtjgifmakhnkmdaaGreatDoor.XRep
open Go.RowKit Go.Proofs.YtjgifmakhnkmdaaGreatDoorW.PrintWords Go.Proofs.YtjgifmakhnkmdaaGreatDoorW.PrintLast Go.Proofs.YtjgifmakhnkmdaaGreatDoorW.PrintMore
set_option linter.unusedVariables false
set_option linter.unusedSimpArgs false
def KK : Nat := 1000000000000
theorem index_from (g : List Int) (b : Int) : ∀ (k j : Nat), j ≤ g.length → g.length - j < k → g.length < 1000000000 → (∀ i : Nat, i < j → rd g i ≠ b) → ∃ v, Zaj.l0 k g b (g.length : Int) (j : Int) = some v ∧ decide (v ≥ 0) = decide (b ∈ g) := by
 intro k
 induction k with
 | zero => intro j h1 h2; omega
 | succ k ih =>
  intro j h1 h2 h3 h4
  unfold Zaj.l0
  by_cases hj : j < g.length
  ·rw [if_pos (by omega), if_pos (by omega), if_pos (by omega)]
   by_cases e : b = rd g (j : Int)
   ·rw [if_pos e]
    exact ⟨_, rfl, by rw [decide_eq_true (show ((j : Int) ≥ 0) by omega), decide_eq_true (by rw [e]; exact rd_in hj)]⟩
   ·rw [if_neg e]
    have ew : wrap64 ((j : Int) + 1) = ((j + 1 : Nat) : Int) := by unfold wrap64; omega
    rw [ew]
    refine ih (j + 1) (by omega) (by omega) h3 (fun i hi => ?_)
    by_cases hij : i = j
    ·subst hij; exact fun h => e h.symm
    ·exact h4 i (by omega)
  ·rw [if_neg (by omega)]
   refine ⟨_, rfl, ?_⟩
   have hn : b ∉ g := by
    intro hb
    obtain ⟨i, hi, e⟩ := List.getElem_of_mem hb
    exact h4 i (by omega) (by rw [rd_mem hi]; exact e)
   rw [decide_eq_false hn]
   decide
theorem containsF (g : List Int) (b : Int) (h : g.length < 50000) : Zab.f KK g b = some (decide (b ∈ g)) := by
 obtain ⟨v, h1, h2⟩ := index_from g b KK 0 (by omega) (by unfold KK; omega) (by omega) (fun i hi => absurd hi (by omega))
 unfold Zab.f Zaj.f
 rw [show ((0 : Nat) : Int) = 0 from rfl] at h1
 rw [h1]
 show some _ = _
 rw [h2]
def growL (b : Int) (op : List Int) (gs : List (List Int)) : List Int := gs.foldl (fun op g => if b ∈ g then op ++ g else op) op
theorem growL_snoc (b : Int) (op : List Int) (gs : List (List Int)) (g : List Int) : growL b op (gs ++ [g]) = if b ∈ g then growL b op gs ++ g else growL b op gs := by simp [growL, List.foldl_append]
theorem growL_le (b : Int) (gs : List (List Int)) : ∀ op, op.length ≤ (growL b op gs).length := by
 induction gs with
 | nil => intro op; exact Nat.le_refl _
 | cons g gs ih =>
  intro op
  refine Nat.le_trans ?_ (ih _)
  show op.length ≤ (if b ∈ g then op ++ g else op).length
  split
  ·simp
  ·exact Nat.le_refl _
theorem growL_take (b : Int) (op : List Int) (gs : List (List Int)) (j : Nat) : (growL b op (gs.take j)).length ≤ (growL b op gs).length := by
 have e : gs = gs.take j ++ gs.drop j := (List.take_append_drop j gs).symm
 have : growL b op gs = growL b (growL b op (gs.take j)) (gs.drop j) := by
  unfold growL
  rw [← List.foldl_append, List.take_append_drop]
 rw [this]
 exact growL_le _ _ _
def famGo (s : List S34) (gs : List (List Int)) : Nat → List Int → List Int → Option (List Int)
 | 0, _, _ => none
 | k + 1, out, op =>
  if op.length = 0 then some out else
  if okI (rd op ((op.length : Int) - 1)) = true then
   if rd op ((op.length : Int) - 1) ∈ out then famGo s gs k out (op.take (op.length - 1)) else
   if out.length < 1000000 then
    (Zbn.f KK s (rd op ((op.length : Int) - 1))).bind fun lg =>
    (if lg.2 = true then (Zan.f KK s (rd op ((op.length : Int) - 1))).bind fun up => some (if up.2 = true then op.take (op.length - 1) ++ [up.1] else op.take (op.length - 1)) else some (op.take (op.length - 1))).bind fun op1 =>
    if (growL (rd op ((op.length : Int) - 1)) op1 gs).length ≤ 1000000000000 then famGo s gs k (out ++ [rd op ((op.length : Int) - 1)]) (growL (rd op ((op.length : Int) - 1)) op1 gs) else none
   else none
  else none
theorem R_notmap {α : Type} {d : Kd α} {e : Nat} {w : World} {base : Nat} {ok : Nat → Prop} {v : Value} {xs : List α} {kt b n : Nat} {L : List Lit} (h : d.R e w base ok v xs) (hs : SetAt w kt b n L) : d.R e w base (fun k => ok k ∧ k ≠ b) v xs :=
 Kd.R_mono (Kd.R_bound h) (fun k hk => ⟨hk.1, by
  obtain ⟨_, _, _, q, _, cells, hc⟩ := hk
  rintro rfl
  obtain ⟨D, ⟨es, clock, hb, _⟩, _⟩ := hs
  rw [hb] at hc
  cases hc⟩)
theorem blk_notmap {w : World} {g t : Nat} {cs : Array Value} {kt b n : Nat} {L : List Lit} (h : w.heap[g]? = some (.cells cs t (0, 0))) (hs : SetAt w kt b n L) : g ≠ b := by
 rintro rfl
 obtain ⟨D, ⟨es, clock, hb, _⟩, _⟩ := hs
 rw [hb] at h
 cases h
theorem mk77 (w : World) : (Instr.makeMap 77 none).run Tryz.prog w = .ok (.map (some w.heap.size)) (w.alloc (.map #[] 0)) := by kernel_rfl
theorem mk76 (w : World) : (Instr.makeMap 76 none).run Tryz.prog w = .ok (.map (some w.heap.size)) (w.alloc (.map #[] 0)) := by kernel_rfl
attribute [local go_sem] mk77 mk76
set_option maxHeartbeats 8000000 in
set_option maxRecDepth 100000 in
theorem Zak.calls (k : Nat) (A : Option Addr) (c : Nat) (s : List S34) (n : Int) (Ag : Option Addr) (cg : Nat) (gs : List (List Int)) (r : List Int) (w : World) (hr : Kd.C k34 w A s.length s) (hc : s.length ≤ c) (hg : Kd.C (Kd.slice 3 (Kd.int .i64)) w Ag gs.length gs) (hcg : gs.length ≤ cg) (hlen : ∀ g ∈ gs, g.length < 50000) (h : famGo s gs k [] [n] = some r) :
  Calls Tryz.prog 46 #[.agg #[.slice A s.length c], .int .i64 n, .slice Ag gs.length cg] w fun e w' => ∃ b, e = .returned (.map (some b)) ∧ SetI w' b r.length r ∧ w.heap.size ≤ b ∧ Below w.heap.size w w' := by
 have HR := Aside0.mk hr
 have HC := Aside0.mk hc
 have HG := Aside0.mk hg
 have HCG := Aside0.mk hcg
 have HL := Aside0.mk hlen
 have H' := Aside0.mk h
 clear hr hc hg hcg hlen h
 go_enter Tryz.func46, Tryz.ntmps46
 go_wp2
 have HS0 : SetI (((w.alloc (.cells #[.slice A s.length c] 40)).alloc (.map #[] 0)).alloc (.cells #[.int .i64 n] 3)) (w.heap.size + 1) 0 [] := by
  have e := SetAt.made (w.alloc (.cells #[.slice A s.length c] 40)) 3
  rw [show (w.alloc (.cells #[.slice A s.length c] 40)).heap.size = w.heap.size + 1 by simp] at e
  exact e.below (below_alloc (Below.refl _ _) _)
 have HO0 : Kd.R (Kd.int .i64) 3 (((w.alloc (.cells #[.slice A s.length c] 40)).alloc (.map #[] 0)).alloc (.cells #[.int .i64 n] 3)) w.heap.size (fun _ => True) (.slice (some ⟨w.heap.size + 1 + 1, 0, none⟩) 1 1) [n] :=
  Kd.R_of_own (enc := Value.int .i64) (xs := [n]) ⟨rfl, .inr ⟨_, 1, #[.int .i64 n], rfl, by omega, by
   have e := heap_new ((w.alloc (.cells #[.slice A s.length c] 40)).alloc (.map #[] 0)) (.cells #[.int .i64 n] 3)
   rw [show ((w.alloc (.cells #[.slice A s.length c] 40)).alloc (.map #[] 0)).heap.size = w.heap.size + 1 + 1 by simp] at e
   exact e, Nat.le_refl _, by decide, rfl, rfl⟩⟩ (fun _ _ => trivial)
 have BK0 : (((w.alloc (.cells #[.slice A s.length c] 40)).alloc (.map #[] 0)).alloc (.cells #[.int .i64 n] 3)).heap[w.heap.size]? = some (.cells #[.slice A s.length c] 40 (0, 0)) := blk_alloc (blk_alloc (heap_new w _) _) _
 have HB0 : Below w.heap.size w (((w.alloc (.cells #[.slice A s.length c] 40)).alloc (.map #[] 0)).alloc (.cells #[.int .i64 n] 3)) := below_alloc (below_alloc (below_alloc (Below.refl _ _) _) _) _
 generalize (((w.alloc (.cells #[.slice A s.length c] 40)).alloc (.map #[] 0)).alloc (.cells #[.int .i64 n] 3)) = w3 at HS0 HO0 BK0 HB0 ⊢
 go_loopg [8] k (fun kq v8 wr => ∃ (out op : List Int), Aside0 (famGo s gs kq out op = some r) ∧ Aside0 (kq ≤ k) ∧ Aside0 (SetI wr (w.heap.size + 1) out.length out) ∧ Aside0 (Kd.R (Kd.int .i64) 3 wr w.heap.size (fun _ => True) v8 op) ∧ Aside0 (wr.heap[w.heap.size]? = some (.cells #[.slice A s.length c] 40 (0, 0))) ∧ Aside0 (Below w.heap.size w wr))
 case atStart => exact ⟨[], [n], H', ⟨Nat.le_refl _⟩, ⟨HS0⟩, ⟨HO0⟩, ⟨BK0⟩, ⟨HB0⟩⟩
 case round =>
  clear H' HS0 HO0 BK0 HB0
  obtain ⟨out, op, HA, HK1, HS, HO, BK, HB⟩ := hrel
  cases gk with
  | zero => exact absurd HA.out (by simp [famGo])
  | succ k1 =>
   have H := HA.out
   clear HA
   unfold famGo at H
   obtain ⟨Ao, co, eo⟩ := Kd.R_slice HO.out
   subst eo
   by_cases c0 : op.length = 0
   ·rw [if_pos c0] at H
    obtain rfl := Option.some.inj H
    go_wp2
    go_ret
    exact ⟨_, rfl, HS.out, by omega, HB.out⟩
   ·rw [if_neg c0] at H
    have hle := (Kd.R_reads' HO.out).2.1
    have hmax := Kd.C_max (Kd.R_reads' HO.out).2.2
    obtain ⟨ad, e, hx⟩ := Kd.at_int (Kd.R_reads' HO.out).2.2 ((op.length : Int) - 1) (by omega) (by omega)
    cases e
    have hx2 : wr.cell? (ad.add (op.length - 1)) = some (.int .i64 (rd op ((op.length : Int) - 1))) := by
     have e : ((op.length : Int) - 1).toNat = op.length - 1 := by omega
     rw [← e]; exact hx
    by_cases c1 : okI (rd op ((op.length : Int) - 1)) = true
    ·rw [if_pos c1] at H
     by_cases c2 : rd op ((op.length : Int) - 1) ∈ out
     ·rw [if_pos c2] at H
      have hl := HS.out.look _ c1
      rw [decide_eq_true c2] at hl
      have H' := Aside0.mk H
      clear H c2
      have ew : wrap64 ((op.length : Int) - 1) = (op.length : Int) - 1 := by unfold wrap64; omega
      go_wp2
      clear ew
      go_roundg k1
      case measure => have := HK1.out; omega
      case rel => exact ⟨out, op.take (op.length - 1), H', ⟨by have := HK1.out; omega⟩, HS, ⟨Kd.R_take HO.out (by omega)⟩, BK, HB⟩
     ·rw [if_neg c2] at H
      by_cases c3 : out.length < 1000000
      ·rw [if_pos c3] at H
       have hl := HS.out.look _ c1
       rw [decide_eq_false c2] at hl
       obtain ⟨w4, hput, hs4, hg4, hz4⟩ := SetI.put HS.out (by omega) _ c1
       have HS4 := Aside0.mk (show SetI w4 (w.heap.size + 1) (out ++ [rd op ((op.length : Int) - 1)]).length (out ++ [rd op ((op.length : Int) - 1)]) by simpa using hs4)
       have HB4 := Aside0.mk (HB.out.grown hg4 HB.out.size (fun k e => by injection e with e; omega))
       have HO4 := Aside0.mk (Kd.R_mono (Kd.R_grown (R_notmap (Kd.R_take HO.out (show op.length - 1 ≤ op.length by omega)) HS.out) hg4 (fun k hk e => hk.2 (Option.some.inj e))) (fun _ _ => trivial : ∀ k, _ → True))
       have BK4 := Aside0.mk (blk_grown BK.out hg4 (fun e => blk_notmap BK.out HS.out (Option.some.inj e)))
       clear hs4 hg4 hz4 c2
       obtain ⟨b, hb⟩ : ∃ b, b = rd op ((op.length : Int) - 1) := ⟨_, rfl⟩
       rw [← hb] at H hx hx2 hl hput HS4
       obtain ⟨⟨lg1, lg2⟩, a4, H⟩ := Option.bind_eq_some_iff.mp H
       obtain ⟨op1, a5, H⟩ := Option.bind_eq_some_iff.mp H
       have A4 := Aside0.mk a4
       have A5 := Aside0.mk a5
       clear a4 a5
       by_cases c5 : (growL b op1 gs).length ≤ 1000000000000
       ·rw [if_pos c5] at H
        have H' := Aside0.mk H
        have L5 := Aside0.mk c5
        clear H c5 hb c1
        have ew : wrap64 ((op.length : Int) - 1) = (op.length : Int) - 1 := by unfold wrap64; omega
        have hz4 : w4.cell? ⟨w.heap.size, 0, none⟩ = some (.slice A s.length c) := cell_of BK4.out 0 rfl
        go_upto_if 44 with (first | (go_at_call 34; refine (Zbn.calls KK A c s b lg1 lg2 _ (Kd.C_below HR.out HB4.out) HC.out A4.out).mono ?_; rintro e5 w5 ⟨rfl, hb5⟩; have HB5 := Aside0.mk (below_step HB4.out hb5); have HS5 := Aside0.mk (SetAt.below HS4.out hb5); have HO5 := Aside0.mk (Kd.R_below HO4.out hb5); have BK5 := Aside0.mk (blk_below BK4.out hb5); clear hb5))
        clear ew hl hput hx hx2 hz4
        go_cut [8] (fun v8 wc => Aside0 (Kd.R (Kd.int .i64) 3 wc w.heap.size (fun _ => True) v8 op1) ∧ Aside0 (SetI wc (w.heap.size + 1) (out ++ [b]).length (out ++ [b])) ∧ Aside0 (wc.heap[w.heap.size]? = some (.cells #[.slice A s.length c] 40 (0, 0))) ∧ Aside0 (Below w.heap.size w wc))
        case first =>
         have hz5 : w5.cell? ⟨w.heap.size, 0, none⟩ = some (.slice A s.length c) := cell_of BK5.out 0 rfl
         cases lg2 with
         | false =>
          have e5 := A5.out
          rw [if_neg (by simp)] at e5
          obtain rfl := Option.some.inj e5
          clear e5
          go_wp2
          go_meet
          case rel => exact ⟨HO5, HS5, BK5, HB5⟩
         | true =>
          have e5 := A5.out
          rw [if_pos rfl] at e5
          obtain ⟨⟨up1, up2⟩, a6, e6⟩ := Option.bind_eq_some_iff.mp e5
          have A6 := Aside0.mk a6
          clear e5 a6
          cases up2 with
          | false =>
           rw [if_neg (by simp)] at e6
           obtain rfl := Option.some.inj e6
           clear e6
           go_wp2_with (first | (go_at_call 80; refine (Zan.calls KK A c s b up1 false _ (Kd.C_below HR.out HB5.out) HC.out A6.out).mono ?_; rintro e6 w6 ⟨rfl, hb6⟩; have HB6 := Aside0.mk (below_step HB5.out hb6); have HS6 := Aside0.mk (SetAt.below HS5.out hb6); have HO6 := Aside0.mk (Kd.R_below HO5.out hb6); have BK6 := Aside0.mk (blk_below BK5.out hb6); clear hb6))
           go_meet
           case rel => exact ⟨HO6, HS6, BK6, HB6⟩
          | true =>
           rw [if_pos rfl] at e6
           obtain rfl := Option.some.inj e6
           clear e6
           have L6 := Aside0.mk (Nat.le_trans (Nat.le_trans (by simp : (op.take (op.length - 1)).length + 1 ≤ (op.take (op.length - 1) ++ [up1]).length) (growL_le b gs _)) L5.out)
           have RX := Aside0.mk (fun w6 (h : Kd.R (Kd.int .i64) 3 w6 w.heap.size (fun _ => True) (.slice (some ad) (op.length - 1) co) (op.take (op.length - 1))) (hs : SetI w6 (w.heap.size + 1) (out ++ [b]).length (out ++ [b])) (hb : w6.heap[w.heap.size]? = some (.cells #[.slice A s.length c] 40 (0, 0))) => Kd.R_mono (Kd.R_types (R_notmap h hs) hb (by decide)) (fun k hk => (⟨hk.1.2, hk.2⟩ : k ≠ w.heap.size + 1 ∧ k ≠ w.heap.size)))
           go_wp2_with (first | (go_at_call 80; refine (Zan.calls KK A c s b up1 true _ (Kd.C_below HR.out HB5.out) HC.out A6.out).mono ?_; rintro e6 w6 ⟨rfl, hb6⟩; have HB6 := Aside0.mk (below_step HB5.out hb6); have HS6 := Aside0.mk (SetAt.below HS5.out hb6); have HO6 := Aside0.mk (Kd.R_below HO5.out hb6); have BK6 := Aside0.mk (blk_below BK5.out hb6); clear hb6) | ((with_reducible refine gate_builtin (b := .append) (xs := #[.tmp 52, .tmp 54]) rfl ?_); at_builtin; refine Kd.R_append (Kd.int .i64) (w0 := w) w.heap.size rfl (.tmp 52) (.tmp 54) 32 3 (.int .i64 0) 8 rfl Tryz.underlying32 info3 rfl (by decide) (by omega) _ (op.take (op.length - 1)) up1 [.int .i64 up1] (fun k => k ≠ w.heap.size + 1 ∧ k ≠ w.heap.size) (fun _ => False) rfl rfl ?aP (fun _ hk => hk.elim) ?aF ?aO ?aB ?aS ?aL ?_; (case aP => rfl); (case aF => exact fun k hk => ⟨by have := HS6.out.lt; omega, by have := below_size HB6.out; have := HS6.out.lt; omega⟩); (case aO => exact RX.out w6 HO6.out HS6.out BK6.out); (case aB => exact HB6.out); (case aS => exact HB6.out.size); (case aL => have := L6.out; omega); intro v7 w7 ho7 hb7 hg7 _; have HO7 := Aside0.mk ho7; have HB7 := Aside0.mk hb7; have HS7 := Aside0.mk (SetAt.kept HS6.out hg7 (fun e => by have := (RX.out w6 HO6.out HS6.out BK6.out).1 _ e.symm; exact this.1 rfl)); have BK7 := Aside0.mk (blk_grown BK6.out hg7 (fun e => by have := (RX.out w6 HO6.out HS6.out BK6.out).1 _ e.symm; exact this.2 rfl)); clear ho7 hb7 hg7))
           go_meet
           case rel => exact ⟨⟨Kd.R_mono HO7.out (fun _ _ => trivial)⟩, HS7, BK7, HB7⟩
        case rest =>
         obtain ⟨HO5, HS5, BK5, HB5⟩ := hcut
         have RX := Aside0.mk (fun (w6 : World) (v : Value) (xs : List Int) (h : Kd.R (Kd.int .i64) 3 w6 w.heap.size (fun _ => True) v xs) (hs : SetI w6 (w.heap.size + 1) (out ++ [b]).length (out ++ [b])) (hb : w6.heap[w.heap.size]? = some (.cells #[.slice A s.length c] 40 (0, 0))) => Kd.R_mono (Kd.R_types (R_notmap h hs) hb (by decide)) (fun k hk => (⟨hk.1.2, hk.2⟩ : k ≠ w.heap.size + 1 ∧ k ≠ w.heap.size)))
         go_wp2
         go_loopg [8, 58] gs.length (fun kq v8 v58 wr => ∃ (j : Nat), v58 = .int .i64 j ∧ Aside0 (j + kq = gs.length) ∧ Aside0 (Kd.R (Kd.int .i64) 3 wr w.heap.size (fun _ => True) v8 (growL b op1 (gs.take j))) ∧ Aside0 (SetI wr (w.heap.size + 1) (out ++ [b]).length (out ++ [b])) ∧ Aside0 (wr.heap[w.heap.size]? = some (.cells #[.slice A s.length c] 40 (0, 0))) ∧ Aside0 (Below w.heap.size w wr))
         case atStart => exact ⟨0, rfl, ⟨by omega⟩, HO5, HS5, BK5, HB5⟩
         case round =>
          obtain ⟨j, rfl, HJ, HO6, HS6, BK6, HB6⟩ := hrel
          have hj := HJ.out
          have hgm : gs.length ≤ 9223372036854775807 := Kd.C_max HG.out
          by_cases hjl : j < gs.length
          ·cases gk with
           | zero => exact absurd hj (by omega)
           | succ k2 =>
            obtain ⟨ad2, A2, c2, e2, hx2, hl2, hC2⟩ := at_L10 (Kd.C_below HG.out HB6.out) j (by omega) (by omega)
            cases e2
            simp only [Int.toNat_natCast] at hx2
            have egj : rd_L10 gs (j : Int) = gs[j] := by simp [rd_L10, List.getD_eq_getElem?_getD, List.getElem?_eq_getElem hjl]
            have gmem : rd_L10 gs (j : Int) ∈ gs := by rw [egj]; exact List.getElem_mem hjl
            have etake : gs.take (j + 1) = gs.take j ++ [rd_L10 gs (j : Int)] := by rw [egj, List.take_add_one, List.getElem?_eq_getElem hjl]; rfl
            have EG := Aside0.mk (growL_snoc b op1 (gs.take j) (rd_L10 gs (j : Int)))
            rw [← etake] at EG
            have L6 := Aside0.mk (Nat.le_trans (growL_take b op1 gs (j + 1)) L5.out)
            obtain ⟨g, hg⟩ : ∃ g, g = rd_L10 gs (j : Int) := ⟨_, rfl⟩
            rw [← hg] at hx2 hl2 hC2 gmem EG
            have hcont := containsF g b (HL.out g gmem)
            have HC7 := fun (w : World) (hr : Kd.C (Kd.int .i64) w A2 g.length g) => Zab.calls KK A2 c2 g b (decide (b ∈ g)) w hr hl2 hcont
            clear hcont gmem egj etake hg
            by_cases hbg : b ∈ g
            ·rw [decide_eq_true hbg] at HC7
             rw [if_pos hbg] at EG
             have L7 := Aside0.mk (show (growL b op1 (gs.take j)).length + g.length ≤ 1000000000000 by have := L6.out; rw [EG.out, List.length_append] at this; exact this)
             clear hbg
             go_wp2_with (first | (go_at_call 81; refine (HC7 _ (Kd.C_below hC2 (Below.refl _ _))).mono ?_; rintro e7 w7 ⟨rfl, hd⟩; have hb7 := hd.below; clear hd; have HB7 := Aside0.mk (below_step HB6.out hb7); have HS7 := Aside0.mk (SetAt.below HS6.out hb7); have HO7 := Aside0.mk (Kd.R_below HO6.out hb7); have BK7 := Aside0.mk (blk_below BK6.out hb7); have HC8 := Aside0.mk (Kd.C_below hC2 hb7); clear hb7) | ((with_reducible refine gate_builtin (b := .append) (xs := #[.tmp 65, .tmp 66]) rfl ?_); at_builtin; refine Kd.R_append_rows (Kd.int .i64) (w0 := w) w.heap.size rfl (.tmp 65) (.tmp 66) 32 3 (.int .i64 0) 8 rfl Tryz.underlying32 info3 rfl (by decide) (by omega) _ (growL b op1 (gs.take j)) g _ _ _ (fun k => k ≠ w.heap.size + 1 ∧ k ≠ w.heap.size) (fun _ => False) rfl rfl ?aO ?aR (fun _ _ h => h) (fun _ h => h.elim) ?aF ?aB ?aS ?aL ?_; (case aO => exact RX.out _ _ _ HO7.out HS7.out BK7.out); (case aR => exact HC8.out); (case aF => exact fun k hk => ⟨by have := HS7.out.lt; omega, by have := HS7.out.lt; omega⟩); (case aB => exact HB7.out); (case aS => exact HB7.out.size); (case aL => have := L7.out; omega); intro v8 w8 ho8 hb8 hg8 _; have HO8 := Aside0.mk ho8; have HB8 := Aside0.mk hb8; have HS8 := Aside0.mk (SetAt.kept HS7.out hg8 (fun e => by have := (RX.out _ _ _ HO7.out HS7.out BK7.out).1 _ e.symm; exact this.1 rfl)); have BK8 := Aside0.mk (blk_grown BK7.out hg8 (fun e => by have := (RX.out _ _ _ HO7.out HS7.out BK7.out).1 _ e.symm; exact this.2 rfl)); clear ho8 hb8 hg8))
             go_roundg k2
             case measure => omega
             case rel => exact ⟨j + 1, by go_num, ⟨by omega⟩, ⟨by rw [EG.out]; exact Kd.R_mono HO8.out (fun _ _ => trivial)⟩, HS8, BK8, HB8⟩
            ·rw [decide_eq_false hbg] at HC7
             rw [if_neg hbg] at EG
             clear hbg
             go_wp2_with (first | (go_at_call 81; refine (HC7 _ (Kd.C_below hC2 (Below.refl _ _))).mono ?_; rintro e7 w7 ⟨rfl, hd⟩; have hb7 := hd.below; clear hd; have HB7 := Aside0.mk (below_step HB6.out hb7); have HS7 := Aside0.mk (SetAt.below HS6.out hb7); have HO7 := Aside0.mk (Kd.R_below HO6.out hb7); have BK7 := Aside0.mk (blk_below BK6.out hb7); have HC8 := Aside0.mk (Kd.C_below hC2 hb7); clear hb7))
             go_roundg k2
             case measure => omega
             case rel => exact ⟨j + 1, by go_num, ⟨by omega⟩, ⟨by rw [EG.out]; exact HO7.out⟩, HS7, BK7, HB7⟩
          ·have ejn : gs.take j = gs := List.take_of_length_le (by omega)
           have HO9 := HO6.out
           rw [ejn] at HO9
           have HO10 := Aside0.mk HO9
           clear HO9 ejn
           go_wp2
           go_roundg k1
           case measure => have := HK1.out; omega
           case rel => exact ⟨out ++ [b], growL b op1 gs, H', ⟨by have := HK1.out; omega⟩, HS6, HO10, BK6, HB6⟩
       ·rw [if_neg c5] at H
        cases H
      ·rw [if_neg c3] at H
       cases H
    ·rw [if_neg c1] at H
     cases H
end Go.Proofs.YtjgifmakhnkmdaaGreatDoor.XRep
