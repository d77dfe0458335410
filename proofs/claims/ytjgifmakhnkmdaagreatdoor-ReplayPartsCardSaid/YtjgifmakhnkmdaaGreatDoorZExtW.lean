import Derived.Laws.ResultCell
import Derived.Test.YtjgifmakhnkmdaaGreatDoorZExtU
import Derived.Test.YtjgifmakhnkmdaaGreatDoorZExtV
namespace Go.Proofs.YtjgifmakhnkmdaaGreatDoor.XRep
set_option maxHeartbeats 8000000
set_option maxRecDepth 100000
open Go.RowKit Go.Proofs.YtjgifmakhnkmdaaGreatDoorW.PrintWords Go.Proofs.YtjgifmakhnkmdaaGreatDoorW.PrintLast Go.Proofs.YtjgifmakhnkmdaaGreatDoorW.PrintMore
set_option linter.unusedVariables false
set_option linter.unusedSimpArgs false
def lineK (e : S34) : Option ByteArray := Zcq.f KK e.f0 e.f1 e.f2 e.f3 e.f4 e.f5
def lineOf (e : S34) : ByteArray := (lineK e).getD ⟨#[]⟩
def storyOk (h : List S34) : Bool := decide (h.length ≤ 100000) && h.all (fun e => (lineK e).isSome && decide ((lineOf e).size ≤ 100000))
def storyText (h : List S34) : List UInt8 := h.flatMap (fun e => (lineOf e).data.toList)
def Zce.f (l0 : List S34) (a1 : ByteArray) : Option (ByteArray × Int) :=
 (Zbs.f l0 a1).bind fun r => if r.2 = 0 then (if storyOk r.1 = true then some (⟨(storyText r.1).toArray⟩, 0) else none) else some (⟨#[]⟩, r.2)
theorem IsBuilder_below {B b : Nat} {bs : List Value} {w w' : World} (h : Lib.IsBuilder 59 5 B b bs w) (hb : Below w.heap.size w w') : Lib.IsBuilder 59 5 B b bs w' := by
 have one : ∀ p, Lib.BuilderAt 59 5 B b p bs w → Lib.BuilderAt 59 5 B b p bs w' := by
  rintro p ⟨h1, v, h2, h3, h4⟩
  refine ⟨h1, v, blk_below h2 hb, ?_, h4⟩
  exact World.ownsRow.kept h3 (row := none) (grown_of_below hb) (Classical.em _)
 exact h.elim (fun x => .inl (one _ x)) (fun x => .inr (one _ x))
theorem IsBuilder_set {b g : Nat} {bs : List Value} {w : World} {v : Value} (h : Lib.IsBuilder 59 5 b b bs w) (hg : g < b) : Lib.IsBuilder 59 5 b b bs (w.setCell ⟨g, 0, none⟩ v) := by
 have one : ∀ p, Lib.BuilderAt 59 5 b b p bs w → Lib.BuilderAt 59 5 b b p bs (w.setCell ⟨g, 0, none⟩ v) := by
  rintro p ⟨h1, v', h2, h3, h4⟩
  exact ⟨h1, v', blk_far h2 (by show b ≠ g; omega) _, ownsRow_setCell_below h3 hg _, h4⟩
 exact h.elim (fun x => .inl (one _ x)) (fun x => .inr (one _ x))
theorem storyText_step (h : List S34) (j : Nat) (hj : j < h.length) : storyText (h.take (j + 1)) = storyText (h.take j) ++ (lineOf h[j]).data.toList := by
 rw [List.take_add_one, List.getElem?_eq_getElem hj]
 show storyText (h.take j ++ [h[j]]) = _
 unfold storyText
 rw [List.flatMap_append, List.flatMap_cons, List.flatMap_nil, List.append_nil]
theorem lineK_some {e : S34} (h : (lineK e).isSome = true) : Zcq.f KK e.f0 e.f1 e.f2 e.f3 e.f4 e.f5 = some (lineOf e) := by
 unfold lineOf
 cases hx : lineK e with
 | none => rw [hx] at h; cases h
 | some v => exact hx
theorem storyText_le (h : List S34) (hk : ∀ e ∈ h, (lineOf e).size ≤ 100000) : (storyText h).length ≤ h.length * 100000 := by
 induction h with
 | nil => simp [storyText]
 | cons e t ih =>
  have h1 := ih (fun e he => hk e (List.mem_cons_of_mem _ he))
  have h2 := hk e List.mem_cons_self
  have h3 : (lineOf e).data.toList.length = (lineOf e).size := rfl
  simp only [storyText, List.flatMap_cons, List.length_append, List.length_cons] at h1 ⊢
  omega
theorem res11 {w : World} {g : Nat} {s : ByteArray} {tmps : Array Value} (h4 : tmps.getD 4 undef = .pointer (some ⟨g, 0, none⟩)) (h : w.cell? ⟨g, 0, none⟩ = some (.string s)) : (results Tryz.f11 tmps).run Tryz.prog w = .ok (.tuple #[.string s, tmps.getD 5 undef]) w := by
 rw [results_cell_tmp (p := 4) (u := 5) (ty := 9) rfl, h4]
 have hu := Tryz.underlying9
 simp [asAddr, Result.andThen, go_sem, hu, h]
theorem Zcg.calls (b g : Nat) (l : List UInt8) (s0 : ByteArray) (w : World) (hB : Lib.IsBuilder 59 5 b b (Lib.byteCells l) w) (hgb : g < b) (hg : w.heap[g]? = some (.cells #[.string s0] 9 (0, 0))) :
  CallsD Tryz.prog 30 #[.pointer (some ⟨b, 0, none⟩), .pointer (some ⟨g, 0, none⟩)] .returning w fun e u' w' => u' = .returning ∧ (e = .returned (.tuple #[]) ∧ w'.heap[g]? = some (.cells #[.string ⟨l.toArray⟩] 9 (0, 0)) ∧ Below g w w') := by
 refine callsD_of_wp Tryz.func30 rfl ?_
 simp only [Tryz.ntmps30, List.size_toArray, List.length_cons, List.length_nil, Nat.reduceAdd, Nat.reduceSub, Array.replicate_succ, Array.replicate_zero, List.push_toArray, List.append_toArray, List.cons_append, List.nil_append]
 have hbw : b ≤ w.heap.size := by
  rcases hB with h | h
  ·exact Nat.le_of_lt (Lib.BuilderAt.lt h)
  ·exact Nat.le_of_lt (Lib.BuilderAt.lt h)
 go_wp2_with (go_at_call 31; refine (Tryz.Builder_String_any b b l w hB hbw).mono ?_; rintro e5 w5 ⟨rfl, hb5⟩; have hg5 : w5.heap[g]? = some (.cells #[.string s0] 9 (0, 0)) := (hb5.block g hgb).trans hg; have hz5 : w5.cell? ⟨g, 0, none⟩ = some (.string s0) := cell_of hg5 0 rfl; have hf5 := blk_frozen hg5 0)
 go_end0
 exact ⟨rfl, blk_put hg5 0 _ rfl, (Below.mono hb5 (Nat.le_of_lt hgb)).setCell (Nat.le_refl _) _⟩
theorem Zce.calls (A0 : Option Addr) (c0 : Nat) (l0 : List S34) (a1 : ByteArray) (r1 : ByteArray) (r2 : Int) (w : World) (hgl : Glob w) (hr0 : Kd.C k34 w A0 l0.length l0) (hc0 : l0.length ≤ c0) (h : Zce.f l0 a1 = some (r1, r2)) :
  Calls Tryz.prog 11 #[.slice A0 l0.length c0, .string a1] w fun e w' => e = .returned (.tuple #[.string r1, .int .i64 r2]) ∧ Below w.heap.size w w' := by
 have HR := Aside0.mk hr0
 have HC := Aside0.mk hc0
 have GL := Aside0.mk hgl
 clear hr0 hc0 hgl
 unfold Zce.f at h
 obtain ⟨⟨hs, er⟩, ka, h⟩ := Option.bind_eq_some_iff.mp h
 have KA := Aside0.mk ka
 clear ka
 by_cases c1 : er = 0
 ·rw [if_pos c1] at h
  subst c1
  by_cases hk : storyOk hs = true
  ·rw [if_pos hk] at h
   injection h with h
   injection h with h1 h2
   subst h2
   have E1 := Aside0.mk h1
   clear h1
   simp only [storyOk, Bool.and_eq_true, decide_eq_true_eq, List.all_eq_true] at hk
   have HK1 := Aside0.mk hk.1
   have HK2 := Aside0.mk hk.2
   clear hk
   go_enter_defers Tryz.func11, Tryz.ntmps11
   go_upto_region 6 with (first | ((with_reducible refine gate_dst (N := 4) rfl ?_); refine box_event ?hg (N := 4) ?hd (cs := #[.string ⟨#[]⟩]) (t := 9) ?hr ?_; (case hd => rfl); (case hg => rfl); (case hr => first | (go_simp; done) | (go_simp; rfl)); intro rb hg w4 hbox hb; have BH := Aside0.mk hbox; have GH := Aside0.mk hg; have HB4 := Aside0.mk hb; clear hbox hg hb; have hz0 : w4.cell? ⟨rb, 0, none⟩ = some (.string ⟨#[]⟩) := cell_of BH.out 0 rfl; have hf0 := blk_frozen BH.out 0) | (go_at_call 8; refine (Zbs.calls A0 c0 l0 a1 hs 0 _ (Kd.C_below HR.out HB4.out) HC.out KA.out).mono ?_; rintro e5 w5 ⟨v5, rfl, hN5, hb5⟩; obtain ⟨A, c, rfl, hcl, hC5⟩ := Kd.N_reads hN5; have B5 := Aside0.mk (blk_below BH.out hb5); have F5 := Aside0.mk (Kd.F_bound (Kd.N_F hN5)); have HB5 := Aside0.mk (below_step HB4.out hb5); clear hN5 hC5 hb5 hz0 hf0; have hz1 : w5.cell? ⟨rb, 0, none⟩ = some (.string ⟨#[]⟩) := cell_of B5.out 0 rfl; have hf1 := blk_frozen B5.out 0) | ((with_reducible refine gate_dst (N := 7) rfl ?_); refine box_event ?hg (N := 7) ?hd (cs := #[.pointer none, .slice none 0 0]) (t := 59) ?hr ?_; (case hd => rfl); (case hg => rfl); (case hr => first | (go_simp; done) | (go_simp; rfl)); intro bb hg w6 hbox hb; have BB := Aside0.mk hbox; have GB := Aside0.mk hg; have HX6 := Aside0.mk hb; clear hbox hg hb))
   obtain ⟨m, hm⟩ : ∃ m, m = w5.heap.size := ⟨_, rfl⟩
   rw [← hm] at F5 HX6 GB
   have egb := GB.out
   subst egb
   have FB6 := Aside0.mk (Kd.F_mono (Kd.F_step F5.out (fun k hk _ => HX6.out.block k hk.2)) (fun k hk => hk.2))
   have RB6 := Aside0.mk ((HX6.out.block rb (by have := blk_lt B5.out; omega)).trans B5.out)
   have hrm : rb < bb := by have := blk_lt B5.out; omega
   have HB6 := Aside0.mk (below_step HB5.out (show Below w5.heap.size w5 w6 by rw [← hm]; exact HX6.out))
   have HWB : Aside0 (w.heap.size ≤ bb) := ⟨by have := GH.out; omega⟩
   have IB6 : Aside0 (Lib.IsBuilder 59 5 bb bb (Lib.byteCells []) w6) := ⟨.inl ⟨Nat.le_refl _, .slice none 0 0, BB.out, World.ownsRow_nil _ _ _ _, by simp [Value.ownBlock]⟩⟩
   have M6 : Aside0 (bb ≤ w6.heap.size) := ⟨Nat.le_of_lt (blk_lt BB.out)⟩
   clear hz1 hf1 BB GB F5 B5 HX6 HB5 hm
   go_wp2
   go_loopg [22] hs.length (fun kq v22 wq => ∃ (j : Nat), v22 = .int .i64 j ∧ Aside0 (j + kq = hs.length) ∧ Aside0 (Lib.IsBuilder 59 5 bb bb (Lib.byteCells (storyText (hs.take j))) wq) ∧ Aside0 (Below bb w6 wq) ∧ Aside0 (bb ≤ wq.heap.size))
   case atStart => exact ⟨0, rfl, ⟨by omega⟩, IB6, ⟨Below.refl _ _⟩, M6⟩
   case round =>
    obtain ⟨j, rfl, HJ, IB, BW, MW⟩ := hrel
    have hj := HJ.out
    have hsm := HK1.out
    have FB := Aside0.mk (Kd.F_step FB6.out (fun k hk _ => BW.out.block k hk))
    by_cases hjl : j < hs.length
    ·cases gk with
     | zero => exact absurd hj (by omega)
     | succ k2 =>
      obtain ⟨ad, A4, c4, eA, y0, y1, y2, y3, y4, y5, hl4, hC4⟩ := at_F34 FB.out (j : Int) (by omega) (by omega)
      cases eA
      simp only [Int.toNat_natCast] at y0 y1 y2 y3 y4 y5
      have eqj : rd_T34 hs (j : Int) = hs[j] := by simp [rd_T34, List.getD_eq_getElem?_getD, List.getElem?_eq_getElem hjl]
      have hmem : rd_T34 hs (j : Int) ∈ hs := by rw [eqj]; exact List.getElem_mem hjl
      have etake : storyText (hs.take (j + 1)) = storyText (hs.take j) ++ (lineOf (rd_T34 hs (j : Int))).data.toList := by rw [eqj]; exact storyText_step hs j hjl
      have hok := HK2.out _ hmem
      have hle := storyText_le (hs.take j) (fun e he => (HK2.out e (List.mem_of_mem_take he)).2)
      have hle2 : (hs.take j).length ≤ 100000 := by rw [List.length_take]; omega
      have hlen : (storyText (hs.take j)).length ≤ 10000000000 := by omega
      have HLEN := Aside0.mk hlen
      have STP := Aside0.mk etake
      clear etake eqj hmem hle hle2 hlen
      obtain ⟨e, he⟩ : ∃ e, e = rd_T34 hs (j : Int) := ⟨_, rfl⟩
      rw [← he] at y0 y1 y2 y3 y4 y5 hl4 hC4 hok STP
      have hlk := lineK_some hok.1
      have hls := hok.2
      obtain ⟨ln, hln⟩ : ∃ ln, ln = lineOf e := ⟨_, rfl⟩
      rw [← hln] at hlk hls STP
      have LK := Aside0.mk hlk
      have SUM : Aside0 ((Lib.byteCells (storyText (hs.take j))).length + ln.size ≤ 140737488355328) := ⟨by rw [Lib.byteCells_length]; have := HLEN.out; omega⟩
      clear hlk hls hln
      have C4 := Aside0.mk hC4
      have L4 := Aside0.mk hl4
      clear hok he hC4 hl4
      go_upto_region 9 with (first | ((with_reducible refine gate_dst (N := 9) rfl ?_); refine box_event ?hg (N := 9) ?hd (cs := evz) (t := 34) ?hr ?_; (case hd => rfl); (case hg => rfl); (case hr => first | (go_simp; done) | (go_simp; rfl)); intro eb hg w2 hbox hb; have BX := Aside0.mk hbox; have GX := Aside0.mk hg; have BB := Aside0.mk hb; clear hbox hg hb; have hc0 : w2.cell? ⟨eb, 0, none⟩ = some (.int .i64 0) := cell_of BX.out 0 rfl; have hf0 := blk_frozen BX.out 0; have hc1 : w2.cell? ⟨eb, 1, none⟩ = some (.int .i64 0) := cell_of BX.out 1 rfl; have hf1 := blk_frozen BX.out 1; have hc2 : w2.cell? ⟨eb, 2, none⟩ = some (.string ⟨#[]⟩) := cell_of BX.out 2 rfl; have hf2 := blk_frozen BX.out 2; have hc3 : w2.cell? ⟨eb, 3, none⟩ = some (.string ⟨#[]⟩) := cell_of BX.out 3 rfl; have hf3 := blk_frozen BX.out 3; have hc4 : w2.cell? ⟨eb, 4, none⟩ = some (.slice none 0 0) := cell_of BX.out 4 rfl; have hf4 := blk_frozen BX.out 4; have hc5 : w2.cell? ⟨eb, 5, none⟩ = some (.string ⟨#[]⟩) := cell_of BX.out 5 rfl; have hf5 := blk_frozen BX.out 5))
      change Code.wp _ _ _ _ (evSet w2 eb e A4 c4)
      have BK3 := Aside0.mk (evSet_blk BX.out e A4 c4)
      have hb3 := evSet_below (eb := eb) BB.out (Nat.le_of_eq GX.out.symm) e A4 c4
      clear hc0 hc1 hc2 hc3 hc4 hc5 hf0 hf1 hf2 hf3 hf4 hf5 y0 y1 y2 y3 y4 y5
      have IB3 := Aside0.mk (IsBuilder_below IB.out hb3)
      have C43 := Aside0.mk (Kd.F_below C4.out hb3)
      have BW3 := Aside0.mk (Below.trans BW.out (below_m hb3 MW.out))
      have MW3 := Aside0.mk (Nat.le_trans MW.out (below_size hb3))
      generalize evSet w2 eb e A4 c4 = w3 at BK3 hb3 IB3 C43 BW3 MW3 ⊢
      have q0 : w3.cell? ⟨eb, 0, none⟩ = some (.int .i64 e.f0) := cell_of BK3.out 0 rfl
      have q1 : w3.cell? ⟨eb, 1, none⟩ = some (.int .i64 e.f1) := cell_of BK3.out 1 rfl
      have q2 : w3.cell? ⟨eb, 2, none⟩ = some (.string e.f2) := cell_of BK3.out 2 rfl
      have q3 : w3.cell? ⟨eb, 3, none⟩ = some (.string e.f3) := cell_of BK3.out 3 rfl
      have q4 : w3.cell? ⟨eb, 4, none⟩ = some (.slice A4 e.f4.length c4) := cell_of BK3.out 4 rfl
      have q5 : w3.cell? ⟨eb, 5, none⟩ = some (.string e.f5) := cell_of BK3.out 5 rfl
      clear hb3
      go_wp2_with (first | (go_at_call 16; refine (Zcq.calls KK e.f0 e.f1 e.f2 e.f3 A4 c4 e.f4 e.f5 ln _ (Glob.below GL.out (Below.trans HB6.out (Below.mono BW3.out HWB.out))) (Kd.F_now C43.out) L4.out LK.out).mono ?_; rintro e7 w7 ⟨rfl, hb7⟩; have IB7 := Aside0.mk (IsBuilder_below IB3.out hb7); have BW7 := Aside0.mk (Below.trans BW3.out (below_m hb7 MW3.out)); have MW7 := Aside0.mk (Nat.le_trans MW3.out (below_size hb7)); clear hb7 q0 q1 q2 q3 q4 q5) | (go_at_call 32; refine (Tryz.Builder_WriteString bb bb _ ln _ IB7.out SUM.out MW7.out).mono ?_; rintro e8 w8 ⟨rfl, hi8, hb8⟩; have IB8 := Aside0.mk hi8; have BW8 := Aside0.mk (Below.trans BW7.out hb8); have MW8 := Aside0.mk (Nat.le_trans MW7.out hb8.size); clear hi8 hb8))
      go_roundg k2
      case measure => omega
      case rel => exact ⟨j + 1, by go_num, ⟨by omega⟩, ⟨by rw [STP.out]; unfold Lib.byteCells; rw [List.map_append]; exact .inr IB8.out⟩, BW8, MW8⟩
    ·have ejn : j = hs.length := by omega
     subst ejn
     have RB := Aside0.mk ((BW.out.block rb hrm).trans RB6.out)
     have hz9 : wr.cell? ⟨rb, 0, none⟩ = some (.string ⟨#[]⟩) := cell_of RB.out 0 rfl
     have hf9 := blk_frozen RB.out 0
     go_wp2
     refine leaves_cons (f := 30) (args := #[.pointer (some ⟨bb, 0, none⟩), .pointer (some ⟨rb, 0, none⟩)]) (by simp) (by simp [go_sem]) ?_
     have IB9 : Lib.IsBuilder 59 5 bb bb (Lib.byteCells (storyText hs)) (wr.setCell ⟨rb, 0, none⟩ (.string ⟨#[]⟩)) := IsBuilder_set (by have := IB.out; rwa [List.take_length] at this) hrm
     refine (Zcg.calls bb rb (storyText hs) ⟨#[]⟩ _ IB9 hrm (blk_put RB.out 0 _ rfl)).mono ?_
     rintro e9 u9' w9 ⟨rfl, rfl, hg9, hb9⟩
     exact ⟨_, res11 rfl (cell_of hg9 0 rfl), by rw [E1.out]; rfl, Below.trans (below_set (Below.trans HB6.out (Below.mono BW.out HWB.out)) (Nat.le_of_eq GH.out.symm)) (Below.mono hb9 (Nat.le_of_eq GH.out.symm))⟩
  ·rw [if_neg hk] at h
   cases h
 ·rw [if_neg c1] at h
  injection h with h
  injection h with h1 h2
  subst h1
  have hne : (er == 0) = false := by simpa using c1
  have hne2 : (er != 0) = true := by simpa using c1
  clear c1
  subst h2
  go_enter_defers Tryz.func11, Tryz.ntmps11
  go_wp2_with (first | ((with_reducible refine gate_dst (N := 4) rfl ?_); refine box_event ?hg (N := 4) ?hd (cs := #[.string ⟨#[]⟩]) (t := 9) ?hr ?_; (case hd => rfl); (case hg => rfl); (case hr => first | (go_simp; done) | (go_simp; rfl)); intro rb hg w4 hbox hb; have BH := Aside0.mk hbox; have GH := Aside0.mk hg; have HB4 := Aside0.mk hb; clear hbox hg hb; have hz0 : w4.cell? ⟨rb, 0, none⟩ = some (.string ⟨#[]⟩) := cell_of BH.out 0 rfl; have hf0 := blk_frozen BH.out 0) | (go_at_call 8; refine (Zbs.calls A0 c0 l0 a1 hs er _ (Kd.C_below HR.out HB4.out) HC.out KA.out).mono ?_; rintro e5 w5 ⟨v5, rfl, hN5, hb5⟩; have B5 := Aside0.mk (blk_below BH.out hb5); have N5 := Aside0.mk hN5; have HB5 := Aside0.mk (below_step HB4.out hb5); clear hN5 hb5 hz0 hf0; have hz1 : w5.cell? ⟨rb, 0, none⟩ = some (.string ⟨#[]⟩) := cell_of B5.out 0 rfl; have hf1 := blk_frozen B5.out 0))
  exact ⟨_, res11 rfl ((cell_of (blk_put B5.out 0 _ rfl) 0 rfl)), rfl, below_set HB5.out (by have := GH.out; omega)⟩
end Go.Proofs.YtjgifmakhnkmdaaGreatDoor.XRep
