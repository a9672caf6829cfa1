-- Laid by our own driver (wip/tools/xprint.py) out of the kit's print.
import Derived.Test.YthiiodgpdoljoaaPLcx0
import Derived.Test.YthiiodgpdoljoaaPLcx8
import Derived.Test.YthiiodgpdoljoaaPLcx9
import Derived.Test.YthiiodgpdoljoaaPLcx11
import Derived.Test.YthiiodgpdoljoaaPLcx14
namespace Go.Proofs.Ythiiodgpdoljoaa.PLc
open Go.RowKit Go.Proofs.YthiiodgpdoljoaaW.PrintWords Go.Proofs.YthiiodgpdoljoaaW.PrintLast Go.Proofs.YthiiodgpdoljoaaW.PrintMore
attribute [local go_sem] max2_int min2_int max_two min_two max_three min_three max_four min_four   -- for this text's walks alone
set_option linter.unusedVariables false
set_option linter.unusedSimpArgs false

/-! ### circuit_lay: function 58 -/

/-- What lay answers: the error, or the board. -/
def layErr (w : Int) (l : List S105) (e : Int) : Int := if e ≠ 0 then e else if (gateAll w l).cs.length > 40 then 2 else 0
def layBd (w : Int) (l : List S105) (e : Int) : Bd := if layErr w l e = 0 then gateAll w l else ⟨[], [], []⟩
def LayPost (w : World) (b : Bd) (r : Int) (e : Ending) (w' : World) : Prop :=
 ∃ (vw vc : Value) (Al : Option Addr) (nl kl : Nat), e = .returned (.tuple #[.agg #[vw, vc, .slice Al nl kl], .int .i64 r]) ∧ Kd.R k76 76 w' w.heap.size (fun _ => True) vw b.ws ∧ Kd.R (Kd.slice 118 k118) 50 w' w.heap.size (fun _ => True) vc b.cs ∧ Below w.heap.size w w'

theorem ne_new {w : World} {g g' : Nat} {o : Obj} (h : w.heap[g]? = some o) (hg : g' = w.heap.size) : g ≠ g' := by have := blk_lt h; omega
set_option maxHeartbeats 4000000 in
set_option maxRecDepth 100000 in
theorem lay_err (k : Nat) (s0 s1 s2 s3 s4 : Int) (As : Option Addr) (cs : Nat) (gates : List S105) (e0 : Int) (w : World) (hr : Kd.C k105 w As gates.length gates) (hc : gates.length ≤ cs) (h : circuit_Check.f k s0 s1 s2 s3 s4 gates = some e0) (he : (e0 != 0) = true) :
  Calls Try.prog 58 #[.agg #[.int .i64 s0, .int .i64 s1, .int .i64 s2, .int .i64 s3, .int .i64 s4, .slice As gates.length cs]] w (LayPost w ⟨[], [], []⟩ e0) := by
 have HE := Aside0.mk he; clear he
 have HRD := Aside0.mk hr; have HC := Aside0.mk hc; have HCK := Aside0.mk h
 clear hr hc h; have hu24 := Try.underlying24; have hu108 := Try.underlying108; have hu105 := Try.underlying105
 go_enter Try.func58, Try.ntmps58
 have hne := HE.out
 go_wp2_with (first | ((with_reducible refine gate_dst (N := 1) rfl ?_); refine box_event rfl (N := 1) rfl (cs := #[.int .i64 s0, .int .i64 s1, .int .i64 s2, .int .i64 s3, .int .i64 s4, .slice As gates.length cs]) (t := 24) (by first | (go_simp; done) | (go_simp; rfl)) ?_; intro gs hgs wgs hbox hb; have BKgs := Aside0.mk hbox; have HBgs := Aside0.mk hb; clear hbox hb hgs; have hcs0 := (blk_cell BKgs.out 0).trans rfl; have hcs1 := (blk_cell BKgs.out 1).trans rfl; have hcs2 := (blk_cell BKgs.out 2).trans rfl; have hcs3 := (blk_cell BKgs.out 3).trans rfl; have hcs4 := (blk_cell BKgs.out 4).trans rfl; have hcs5 := (blk_cell BKgs.out 5).trans rfl; have HBW := Aside0.mk HBgs.out) | ((with_reducible refine gate_dst (N := 2) rfl ?_); refine box_event rfl (N := 2) rfl (cs := #[.slice none 0 0, .slice none 0 0, .slice none 0 0]) (t := 108) (by first | (go_simp; done) | (go_simp; rfl)) ?_; intro gr hgr wgr hbox hb; have GEr := Aside0.mk (by rw [hgr]; exact below_size HBW.out : w.heap.size ≤ gr); have NSR := Aside0.mk (ne_new BKgs.out hgr); have BKgr := Aside0.mk hbox; have HBgr := Aside0.mk hb; clear hbox hb hgr; replace BKgs := Aside0.mk (blk_below BKgs.out HBgr.out); replace HBW := Aside0.mk (below_step HBW.out HBgr.out); have hcs0 := (blk_cell BKgs.out 0).trans rfl; have hcs1 := (blk_cell BKgs.out 1).trans rfl; have hcs2 := (blk_cell BKgs.out 2).trans rfl; have hcs3 := (blk_cell BKgs.out 3).trans rfl; have hcs4 := (blk_cell BKgs.out 4).trans rfl; have hcs5 := (blk_cell BKgs.out 5).trans rfl) | ((with_reducible refine gate_dst (N := 4) rfl ?_); refine box_event rfl (N := 4) rfl (cs := #[.slice none 0 0, .slice none 0 0, .slice none 0 0]) (t := 108) (by first | (go_simp; done) | (go_simp; rfl)) ?_; intro gb hgb wgb hbox hb; have GEb := Aside0.mk (by rw [hgb]; exact below_size HBW.out : w.heap.size ≤ gb); have NER := Aside0.mk (ne_new BKgr.out hgb); have NES := Aside0.mk (ne_new BKgs.out hgb); have BKgb := Aside0.mk hbox; have HBgb := Aside0.mk hb; clear hbox hb hgb; replace BKgs := Aside0.mk (blk_below BKgs.out HBgb.out); replace BKgr := Aside0.mk (blk_below BKgr.out HBgb.out); replace HBW := Aside0.mk (below_step HBW.out HBgb.out); have hcs0 := (blk_cell BKgs.out 0).trans rfl; have hcs1 := (blk_cell BKgs.out 1).trans rfl; have hcs2 := (blk_cell BKgs.out 2).trans rfl; have hcs3 := (blk_cell BKgs.out 3).trans rfl; have hcs4 := (blk_cell BKgs.out 4).trans rfl; have hcs5 := (blk_cell BKgs.out 5).trans rfl) | (go_at_call 21; (with_reducible refine (circuit_Check.calls k s0 s1 s2 s3 s4 As cs gates e0 _ (Kd.C_below HRD.out HBW.out) HC.out HCK.out).mono ?_); rintro e w' ⟨rfl, hb⟩; replace BKgs := Aside0.mk (blk_below BKgs.out hb); replace BKgr := Aside0.mk (blk_below BKgr.out hb); replace BKgb := Aside0.mk (blk_below BKgb.out hb); replace HBW := Aside0.mk (below_step HBW.out hb); clear hb; have hcs0 := (blk_cell BKgs.out 0).trans rfl; have hcs1 := (blk_cell BKgs.out 1).trans rfl; have hcs2 := (blk_cell BKgs.out 2).trans rfl; have hcs3 := (blk_cell BKgs.out 3).trans rfl; have hcs4 := (blk_cell BKgs.out 4).trans rfl; have hcs5 := (blk_cell BKgs.out 5).trans rfl; have hcgb0 := (blk_cell BKgb.out 0).trans rfl; have hfgb0 := blk_frozen BKgb.out 0; have hcgb1 := (blk_cell BKgb.out 1).trans rfl; have hfgb1 := blk_frozen BKgb.out 1; have hcgb2 := (blk_cell BKgb.out 2).trans rfl; have hfgb2 := blk_frozen BKgb.out 2; have hcgr0 := (blk_cell BKgr.out 0).trans rfl; have hfgr0 := blk_frozen BKgr.out 0; have hcgr1 := (blk_cell BKgr.out 1).trans rfl; have hfgr1 := blk_frozen BKgr.out 1; have hcgr2 := (blk_cell BKgr.out 2).trans rfl; have hfgr2 := blk_frozen BKgr.out 2))
 refine bodyPost_ret (results_ct rfl _ _ gr 108 #[.slice none 0 0, .slice none 0 0, .slice none 0 0] (0, 0) _ rfl (blk_set (blk_set (blk_set BKgr.out 0 _) 1 _) 2 _) Try.underlying108 rfl (by kernel_rfl)) rfl ?_
 exact ⟨_, _, _, _, _, rfl, Kd.R_nil _ _ _ _ _, Kd.R_nil _ _ _ _ _, ((HBW.out.setCell GEr.out _).setCell GEr.out _).setCell GEr.out _⟩

theorem BrdS.setOther {base : Nat} {w0 w : World} {g n : Nat} {b : Bd} (h : BrdS base w0 w g b n) {k : Nat} {cells : Array Value} (hk : w.heap[k]? = some (.cells cells 105 (0, 0))) (hb : base ≤ k) (h0 : w0.heap.size ≤ k) (j : Nat) (v : Value) : BrdS base w0 (w.setCell ⟨k, j, none⟩ v) g b n := by
 obtain ⟨⟨vw, vc, vl, bg, hbg, rw, rc, rl⟩, hB, hS, hT⟩ := h
 refine ⟨⟨vw, vc, vl, blk_far bg (blk_ne bg hk (by decide)) v, hbg, Kd.R_set rw hk (by decide) j v, Kd.R_set rc hk (by decide) j v, Kd.R_set rl hk (by decide) j v⟩, hB.setCell hb _, hS, fun k' cells' t hk' a b' c d => blk_far (hT k' cells' t hk' a b' c d) (by have := blk_lt hk'; show k' ≠ k; omega) v⟩

theorem below_size0 {base : Nat} {w w' : World} (h : Below base w w') (hz : base ≤ w.heap.size) : w.heap.size ≤ w'.heap.size := h.size
set_option maxHeartbeats 4000000 in
set_option maxRecDepth 100000 in
theorem lay_ok (k : Nat) (s0 s1 s2 s3 s4 : Int) (As : Option Addr) (cs : Nat) (gates : List S105) (e0 : Int) (w : World) (hr : Kd.C k105 w As gates.length gates) (hc : gates.length ≤ cs) (h : circuit_Check.f k s0 s1 s2 s3 s4 gates = some e0) (he : e0 = 0) (hk : ∀ g ∈ gates, 1 ≤ g.f0 ∧ g.f0 ≤ 8) (hlen : gates.length ≤ 100) :
  Calls Try.prog 58 #[.agg #[.int .i64 s0, .int .i64 s1, .int .i64 s2, .int .i64 s3, .int .i64 s4, .slice As gates.length cs]] w (LayPost w (layBd s0 gates 0) (layErr s0 gates 0)) := by
 subst he
 have HKK := Aside0.mk hk; clear hk
 have HRD := Aside0.mk hr; have HC := Aside0.mk hc; have HCK := Aside0.mk h
 clear hr hc h; have hu24 := Try.underlying24; have hu108 := Try.underlying108; have hu105 := Try.underlying105
 go_enter Try.func58, Try.ntmps58
 go_wp2_with (first | ((with_reducible refine gate_dst (N := 1) rfl ?_); refine box_event rfl (N := 1) rfl (cs := #[.int .i64 s0, .int .i64 s1, .int .i64 s2, .int .i64 s3, .int .i64 s4, .slice As gates.length cs]) (t := 24) (by first | (go_simp; done) | (go_simp; rfl)) ?_; intro gs hgs wgs hbox hb; have BKgs := Aside0.mk hbox; have HBgs := Aside0.mk hb; clear hbox hb hgs; have hcs0 := (blk_cell BKgs.out 0).trans rfl; have hcs1 := (blk_cell BKgs.out 1).trans rfl; have hcs2 := (blk_cell BKgs.out 2).trans rfl; have hcs3 := (blk_cell BKgs.out 3).trans rfl; have hcs4 := (blk_cell BKgs.out 4).trans rfl; have hcs5 := (blk_cell BKgs.out 5).trans rfl; have HBW := Aside0.mk HBgs.out) | ((with_reducible refine gate_dst (N := 2) rfl ?_); refine box_event rfl (N := 2) rfl (cs := #[.slice none 0 0, .slice none 0 0, .slice none 0 0]) (t := 108) (by first | (go_simp; done) | (go_simp; rfl)) ?_; intro gr hgr wgr hbox hb; have GEr := Aside0.mk (by rw [hgr]; exact below_size HBW.out : w.heap.size ≤ gr); have NSR := Aside0.mk (ne_new BKgs.out hgr); have BKgr := Aside0.mk hbox; have HBgr := Aside0.mk hb; clear hbox hb hgr; replace BKgs := Aside0.mk (blk_below BKgs.out HBgr.out); replace HBW := Aside0.mk (below_step HBW.out HBgr.out); have hcs0 := (blk_cell BKgs.out 0).trans rfl; have hcs1 := (blk_cell BKgs.out 1).trans rfl; have hcs2 := (blk_cell BKgs.out 2).trans rfl; have hcs3 := (blk_cell BKgs.out 3).trans rfl; have hcs4 := (blk_cell BKgs.out 4).trans rfl; have hcs5 := (blk_cell BKgs.out 5).trans rfl) | ((with_reducible refine gate_dst (N := 4) rfl ?_); refine box_event rfl (N := 4) rfl (cs := #[.slice none 0 0, .slice none 0 0, .slice none 0 0]) (t := 108) (by first | (go_simp; done) | (go_simp; rfl)) ?_; intro gb hgb wgb hbox hb; have GEb := Aside0.mk (by rw [hgb]; exact below_size HBW.out : w.heap.size ≤ gb); have NER := Aside0.mk (ne_new BKgr.out hgb); have NES := Aside0.mk (ne_new BKgs.out hgb); have BKgb := Aside0.mk hbox; have HBgb := Aside0.mk hb; clear hbox hb hgb; replace BKgs := Aside0.mk (blk_below BKgs.out HBgb.out); replace BKgr := Aside0.mk (blk_below BKgr.out HBgb.out); replace HBW := Aside0.mk (below_step HBW.out HBgb.out); have hcs0 := (blk_cell BKgs.out 0).trans rfl; have hcs1 := (blk_cell BKgs.out 1).trans rfl; have hcs2 := (blk_cell BKgs.out 2).trans rfl; have hcs3 := (blk_cell BKgs.out 3).trans rfl; have hcs4 := (blk_cell BKgs.out 4).trans rfl; have hcs5 := (blk_cell BKgs.out 5).trans rfl) | (go_at_call 21; (with_reducible refine (circuit_Check.calls k s0 s1 s2 s3 s4 As cs gates 0 _ (Kd.C_below HRD.out HBW.out) HC.out HCK.out).mono ?_); rintro e wS ⟨rfl, hb⟩; replace BKgs := Aside0.mk (blk_below BKgs.out hb); replace BKgr := Aside0.mk (blk_below BKgr.out hb); replace BKgb := Aside0.mk (blk_below BKgb.out hb); replace HBW := Aside0.mk (below_step HBW.out hb); clear hb; have hcs0 := (blk_cell BKgs.out 0).trans rfl; have hcs1 := (blk_cell BKgs.out 1).trans rfl; have hcs2 := (blk_cell BKgs.out 2).trans rfl; have hcs3 := (blk_cell BKgs.out 3).trans rfl; have hcs4 := (blk_cell BKgs.out 4).trans rfl; have hcs5 := (blk_cell BKgs.out 5).trans rfl; have hcgb0 := (blk_cell BKgb.out 0).trans rfl; have hfgb0 := blk_frozen BKgb.out 0; have hcgb1 := (blk_cell BKgb.out 1).trans rfl; have hfgb1 := blk_frozen BKgb.out 1; have hcgb2 := (blk_cell BKgb.out 2).trans rfl; have hfgb2 := blk_frozen BKgb.out 2; have hcgr0 := (blk_cell BKgr.out 0).trans rfl; have hfgr0 := blk_frozen BKgr.out 0; have hcgr1 := (blk_cell BKgr.out 1).trans rfl; have hfgr1 := blk_frozen BKgr.out 1; have hcgr2 := (blk_cell BKgr.out 2).trans rfl; have hfgr2 := blk_frozen BKgr.out 2))
 have HS0 : Aside0 (BrdS w.heap.size wS wS gb (gateAll s0 (gates.take 0)) (60 * 0)) := Aside0.mk ⟨⟨_, _, _, BKgb.out, GEb.out, Kd.R_nil _ _ _ _ _, Kd.R_nil _ _ _ _ _, Kd.R_nil _ _ _ _ _⟩, Below.refl _ _, ⟨by simp [gateAll], by simp [gateAll], by simp [gateAll]⟩, TK.refl _ _⟩
 have NGs := Aside0.mk (blk_ne BKgs.out BKgb.out (by decide))
 have HZS := Aside0.mk (below_size HBW.out); clear hcgb0 hcgr0 hfgb0 hfgr0; clear hcgb1 hcgr1 hfgb1 hfgr1; clear hcgb2 hcgr2 hfgb2 hfgr2
 go_loopg [17] (gates.length + 1) (fun kq v17 wc => ∃ i : Nat, v17 = .int .i64 (i : Int) ∧ i + kq = gates.length + 1 ∧ i ≤ gates.length ∧ Aside0 (BrdS w.heap.size wS wc gb (gateAll s0 (gates.take i)) (60 * i)))
 case atStart => exact ⟨0, rfl, by omega, by omega, HS0⟩
 case round =>
  obtain ⟨i, rfl, hi, hile, HS⟩ := hrel
  have BKs_ := Aside0.mk (HS.out.kept gs _ 24 BKgs.out (by decide) (by decide) (by decide) NGs.out)
  have BKr_ := Aside0.mk (HS.out.kept gr _ 108 BKgr.out (by decide) (by decide) (by decide) (fun e => NER.out e))
  clear HS0
  by_cases hlt : i < gates.length
  ·have hd1 : decide ((i : Int) < (gates.length : Int)) = true := by simp; omega
   have hd2 : decide (i < gates.length) = true := by simp; omega
   have HX := Kd.C_below HRD.out (HBW.out.trans HS.out.below)
   obtain ⟨ad, eA, hx0, hx1, hx2, hx3, hx4⟩ := at_T105 HX (i : Int) (by omega) (by omega)
   subst eA
   simp only [Int.toNat_natCast] at hx0 hx1 hx2 hx3 hx4
   have hp := eq_true (show (0 : Int) ≤ (i : Int) by omega)
   have hq := eq_true (show (i : Int) < (gates.length : Int) by omega)
   have hmem : rd_T105 gates (i : Int) = gates[i] := by simp [rd_T105, List.getD_eq_getElem?_getD, hlt]
   have hk1 : 1 ≤ (rd_T105 gates (i : Int)).f0 := by rw [hmem]; exact (HKK.out _ (List.getElem_mem hlt)).1
   have hk8 : (rd_T105 gates (i : Int)).f0 ≤ 8 := by rw [hmem]; exact (HKK.out _ (List.getElem_mem hlt)).2
   have HMEM := Aside0.mk hmem; clear hmem HX
   have hcs0 := (blk_cell BKs_.out 0).trans rfl; have hcs1 := (blk_cell BKs_.out 1).trans rfl; have hcs2 := (blk_cell BKs_.out 2).trans rfl; have hcs3 := (blk_cell BKs_.out 3).trans rfl; have hcs4 := (blk_cell BKs_.out 4).trans rfl; have hcs5 := (blk_cell BKs_.out 5).trans rfl
   go_wp2_with (first | ((with_reducible refine gate_dst (N := 7) rfl ?_); refine box_event rfl (N := 7) rfl (cs := #[.int .i64 0, .int .i64 0, .int .i64 0, .int .i64 0, .int .i64 0]) (t := 105) (by first | (go_simp; done) | (go_simp; rfl)) ?_; intro gg hgg wgg hbox hb; have GEg := Aside0.mk (by rw [hgg]; exact below_size (HBW.out.trans HS.out.below) : w.heap.size ≤ gg); have GSg := Aside0.mk (by rw [hgg]; exact below_size0 HS.out.below HZS.out : wS.heap.size ≤ gg); have hne1 : gs ≠ gg := ne_new BKs_.out hgg; have hne2 : gg ≠ gs := fun e_ => hne1 e_.symm; replace BKs_ := Aside0.mk (blk_below BKs_.out hb); replace HS := Aside0.mk (HS.out.step hb); have BKgg := Aside0.mk hbox; have hcg := (blk_cell BKgg.out 0).trans rfl; clear hbox hb hgg; have hcs0 := (blk_cell BKs_.out 0).trans rfl; have hcs1 := (blk_cell BKs_.out 1).trans rfl; have hcs2 := (blk_cell BKs_.out 2).trans rfl; have hcs3 := (blk_cell BKs_.out 3).trans rfl; have hcs4 := (blk_cell BKs_.out 4).trans rfl; have hcs5 := (blk_cell BKs_.out 5).trans rfl; have hcg0 := (blk_cell BKgg.out 0).trans rfl; have hfg0 := blk_frozen BKgg.out 0; have hcg1 := (blk_cell BKgg.out 1).trans rfl; have hfg1 := blk_frozen BKgg.out 1; have hcg2 := (blk_cell BKgg.out 2).trans rfl; have hfg2 := blk_frozen BKgg.out 2; have hcg3 := (blk_cell BKgg.out 3).trans rfl; have hfg3 := blk_frozen BKgg.out 3; have hcg4 := (blk_cell BKgg.out 4).trans rfl; have hfg4 := blk_frozen BKgg.out 4) | (go_at_call 88; (with_reducible refine (circuit_board_gate.calls s0 s1 s2 s3 s4 (some ad) gates.length cs (rd_T105 gates (i : Int)) ((((((HS.out).setOther (BKgg.out) GEg.out GSg.out 0 (.int .i64 (rd_T105 gates (i : Int)).f0)).setOther (blk_set (BKgg.out) 0 (.int .i64 (rd_T105 gates (i : Int)).f0)) GEg.out GSg.out 1 (.int .i64 (rd_T105 gates (i : Int)).f1)).setOther (blk_set (blk_set (BKgg.out) 0 (.int .i64 (rd_T105 gates (i : Int)).f0)) 1 (.int .i64 (rd_T105 gates (i : Int)).f1)) GEg.out GSg.out 2 (.int .i64 (rd_T105 gates (i : Int)).f2)).setOther (blk_set (blk_set (blk_set (BKgg.out) 0 (.int .i64 (rd_T105 gates (i : Int)).f0)) 1 (.int .i64 (rd_T105 gates (i : Int)).f1)) 2 (.int .i64 (rd_T105 gates (i : Int)).f2)) GEg.out GSg.out 3 (.int .i64 (rd_T105 gates (i : Int)).f3)).setOther (blk_set (blk_set (blk_set (blk_set (BKgg.out) 0 (.int .i64 (rd_T105 gates (i : Int)).f0)) 1 (.int .i64 (rd_T105 gates (i : Int)).f1)) 2 (.int .i64 (rd_T105 gates (i : Int)).f2)) 3 (.int .i64 (rd_T105 gates (i : Int)).f3)) GEg.out GSg.out 4 (.int .i64 (rd_T105 gates (i : Int)).f4)) (by omega) hk1 hk8).mono ?_); rintro e w' ⟨rfl, hb⟩; have HS' := Aside0.mk hb; clear hb))
   go_roundg (gates.length - i)
   case measure => omega
   case rel =>
    refine ⟨i + 1, by first | rfl | go_num, by omega, by omega, ⟨?_⟩⟩
    have h := HS'.out
    rw [HMEM.out] at h
    rw [List.take_add_one, List.getElem?_eq_getElem hlt]
    unfold gateAll
    rw [List.foldl_append]
    exact h.more (by omega)
  ·have hd1 : decide ((i : Int) < (gates.length : Int)) = false := by simp; omega
   have hd2 : decide (i < gates.length) = false := by simp; omega
   have hi2 : i = gates.length := by omega
   subst hi2
   rw [List.take_length] at HS
   obtain ⟨⟨vw, vc, vl, bg, hbg, rw_, rc, rl⟩, hB, hS, hT⟩ := HS.out
   obtain ⟨Aw, cw, ew⟩ := Kd.R_slice rw_; obtain ⟨Ac, cc, ec⟩ := Kd.R_slice rc; obtain ⟨Al, cl_, el⟩ := Kd.R_slice rl
   subst ew ec el
   have BG := Aside0.mk bg; have RW := Aside0.mk rw_; have RC := Aside0.mk rc; have HB := Aside0.mk (HBW.out.trans hB)
   have hcb0 := (blk_cell BG.out 0).trans rfl; have hcb1 := (blk_cell BG.out 1).trans rfl; have hcb2 := (blk_cell BG.out 2).trans rfl
   have hcr0 := (blk_cell BKr_.out 0).trans rfl; have hcr1 := (blk_cell BKr_.out 1).trans rfl; have hcr2 := (blk_cell BKr_.out 2).trans rfl
   have hfr0 := blk_frozen BKr_.out 0; have hfr1 := blk_frozen BKr_.out 1; have hfr2 := blk_frozen BKr_.out 2
   have hsm := hS.2.1; clear bg rw_ rc rl hB hS hT hbg
   by_cases h40 : (gateAll s0 gates).cs.length > 40
   ·have hz1 : decide ((40 : Int) < ((gateAll s0 gates).cs.length : Int)) = true := by simp; omega
    have hz2 : decide (40 < (gateAll s0 gates).cs.length) = true := by simp; omega
    have H40 := Aside0.mk h40; clear h40
    go_wp2
    have hfin : layBd s0 gates 0 = ⟨[], [], []⟩ ∧ layErr s0 gates 0 = 2 := by
     have h0 : layErr s0 gates 0 = 2 := by unfold layErr; rw [if_neg (by decide), if_pos H40.out]
     exact ⟨by unfold layBd; rw [h0]; rfl, h0⟩
    rw [hfin.1, hfin.2]
    refine bodyPost_ret (results_ct rfl _ _ gr 108 #[.slice none 0 0, .slice none 0 0, .slice none 0 0] (0, 0) _ rfl (blk_set (blk_set (blk_set BKr_.out 0 _) 1 _) 2 _) Try.underlying108 rfl (by kernel_rfl)) rfl ?_
    exact ⟨_, _, _, _, _, rfl, Kd.R_nil _ _ _ _ _, Kd.R_nil _ _ _ _ _, ((HB.out.setCell GEr.out _).setCell GEr.out _).setCell GEr.out _⟩
   ·have hz1 : decide ((40 : Int) < ((gateAll s0 gates).cs.length : Int)) = false := by simp; omega
    have hz2 : decide (40 < (gateAll s0 gates).cs.length) = false := by simp; omega
    have H40 := Aside0.mk h40; clear h40
    go_wp2
    have hfin : layBd s0 gates 0 = gateAll s0 gates ∧ layErr s0 gates 0 = 0 := by
     have h0 : layErr s0 gates 0 = 0 := by unfold layErr; rw [if_neg (by decide), if_neg H40.out]
     exact ⟨by unfold layBd; rw [h0]; rfl, h0⟩
    rw [hfin.1, hfin.2]
    refine bodyPost_ret (results_ct rfl _ _ gr 108 #[(.slice Aw (gateAll s0 gates).ws.length cw), (.slice Ac (gateAll s0 gates).cs.length cc), (.slice Al (gateAll s0 gates).l.length cl_)] (0, 0) _ rfl (blk_set (blk_set (blk_set BKr_.out 0 _) 1 _) 2 _) Try.underlying108 rfl (by kernel_rfl)) rfl ?_
    exact ⟨_, _, _, _, _, rfl, Kd.R_mono (Kd.R_set (Kd.R_set (Kd.R_set RW.out BKr_.out (by decide) 0 _) (blk_set BKr_.out 0 _) (by decide) 1 _) (blk_set (blk_set BKr_.out 0 _) 1 _) (by decide) 2 _) (fun _ _ => trivial), Kd.R_mono (Kd.R_set (Kd.R_set (Kd.R_set RC.out BKr_.out (by decide) 0 _) (blk_set BKr_.out 0 _) (by decide) 1 _) (blk_set (blk_set BKr_.out 0 _) 1 _) (by decide) 2 _) (fun _ _ => trivial), ((HB.out.setCell GEr.out _).setCell GEr.out _).setCell GEr.out _⟩

theorem lay_any (k : Nat) (s0 s1 s2 s3 s4 : Int) (As : Option Addr) (cs : Nat) (gates : List S105) (e0 : Int) (w : World) (hr : Kd.C k105 w As gates.length gates) (hc : gates.length ≤ cs) (h : circuit_Check.f k s0 s1 s2 s3 s4 gates = some e0) (hk : e0 = 0 → (∀ g ∈ gates, 1 ≤ g.f0 ∧ g.f0 ≤ 8) ∧ gates.length ≤ 100) :
  Calls Try.prog 58 #[.agg #[.int .i64 s0, .int .i64 s1, .int .i64 s2, .int .i64 s3, .int .i64 s4, .slice As gates.length cs]] w (LayPost w (layBd s0 gates e0) (layErr s0 gates e0)) := by
 by_cases he : e0 = 0
 ·subst he
  exact lay_ok k s0 s1 s2 s3 s4 As cs gates 0 w hr hc h rfl (hk rfl).1 (hk rfl).2
 ·have h1 : layErr s0 gates e0 = e0 := by unfold layErr; rw [if_pos he]
  have h2 : layBd s0 gates e0 = ⟨[], [], []⟩ := by unfold layBd; rw [h1, if_neg he]
  rw [h1, h2]
  exact lay_err k s0 s1 s2 s3 s4 As cs gates e0 w hr hc h (by simpa using he)
def kindsOk (l : List S105) : Bool := l.all (fun g => decide (1 ≤ g.f0 ∧ g.f0 ≤ 8)) && decide (l.length ≤ 100)

theorem below_lower {base base' : Nat} {w w' : World} (h : Below base' w w') (hb : base ≤ base') : Below base w w' := ⟨h.os, h.tape, h.output, h.size, fun i hi => h.block i (Nat.lt_of_lt_of_le hi hb)⟩


/-! ### circuit_Wires: function 14 -/

def circuit_Wires.f (k : Nat) (a0_0 a0_1 a0_2 a0_3 a0_4 : Int) (l0_5 : List S105) : Option (List S76 × Int) := (circuit_Check.f k a0_0 a0_1 a0_2 a0_3 a0_4 l0_5).bind fun e => if e = 0 ∧ kindsOk l0_5 = false then none else some ((layBd a0_0 l0_5 e).ws, layErr a0_0 l0_5 e)
theorem circuit_Wires.mono : ∀ (a0_0 a0_1 a0_2 a0_3 a0_4 : Int) (l0_5 : List S105) (k : Nat), LeO (circuit_Wires.f k a0_0 a0_1 a0_2 a0_3 a0_4 l0_5) (circuit_Wires.f (k + 1) a0_0 a0_1 a0_2 a0_3 a0_4 l0_5) := fun _ _ _ _ _ _ k => LeO.bind (circuit_Check.mono _ _ _ _ _ _ k) (fun _ => LeO.refl _)
set_option maxHeartbeats 4000000 in
set_option maxRecDepth 100000 in
theorem circuit_Wires.calls (k : Nat) (a0_0 : Int) (a0_1 : Int) (a0_2 : Int) (a0_3 : Int) (a0_4 : Int) (A0_5 : Option Addr) (c0_5 : Nat) (l0_5 : List S105) (r1 : List S76) (r2 : Int) (w : World) (hr0_5 : Kd.C k105 w A0_5 l0_5.length l0_5) (hc0_5 : l0_5.length ≤ c0_5) (h : circuit_Wires.f k a0_0 a0_1 a0_2 a0_3 a0_4 l0_5 = some (r1, r2)) :
  Calls Try.prog 14 #[.agg #[.int .i64 a0_0, .int .i64 a0_1, .int .i64 a0_2, .int .i64 a0_3, .int .i64 a0_4, .slice A0_5 l0_5.length c0_5]] w fun e w' => ∃ v0_ : Value, e = .returned (.tuple #[v0_, .int .i64 r2]) ∧ Kd.R k76 76 w' w.heap.size (fun _ => True) v0_ r1 ∧ Below w.heap.size w w' := by
 obtain ⟨e0, hC, h2⟩ := Option.bind_eq_some_iff.1 h
 have h3 : ¬ (e0 = 0 ∧ kindsOk l0_5 = false) ∧ r1 = (layBd a0_0 l0_5 e0).ws ∧ r2 = layErr a0_0 l0_5 e0 := by
  by_cases hq : e0 = 0 ∧ kindsOk l0_5 = false
  ·rw [if_pos hq] at h2; cases h2
  ·rw [if_neg hq] at h2; injection h2 with h2; injection h2 with ha hb; exact ⟨hq, ha.symm, hb.symm⟩
 obtain ⟨hq, rfl, rfl⟩ := h3
 have hk : e0 = 0 → (∀ g ∈ l0_5, 1 ≤ g.f0 ∧ g.f0 ≤ 8) ∧ l0_5.length ≤ 100 := by
  intro he
  have : kindsOk l0_5 = true := by cases hb : kindsOk l0_5 with | true => rfl | false => exact absurd ⟨he, hb⟩ hq
  simpa [kindsOk] using this
 have HRD := Aside0.mk hr0_5; have HC := Aside0.mk hc0_5; have HCK := Aside0.mk hC; have HK := Aside0.mk hk
 clear h h2 hq hr0_5 hc0_5 hC hk; have hu24 := Try.underlying24; have hu108 := Try.underlying108
 go_enter Try.func14, Try.ntmps14
 go_wp2_with (first | ((with_reducible refine gate_dst (N := 1) rfl ?_); refine box_event rfl (N := 1) rfl (cs := #[.int .i64 a0_0, .int .i64 a0_1, .int .i64 a0_2, .int .i64 a0_3, .int .i64 a0_4, .slice A0_5 l0_5.length c0_5]) (t := 24) (by first | (go_simp; done) | (go_simp; rfl)) ?_; intro gs hgs wgs hbox hb; have BKgs := Aside0.mk hbox; have HBgs := Aside0.mk hb; clear hbox hb hgs; have hcs0 := (blk_cell BKgs.out 0).trans rfl; have hcs1 := (blk_cell BKgs.out 1).trans rfl; have hcs2 := (blk_cell BKgs.out 2).trans rfl; have hcs3 := (blk_cell BKgs.out 3).trans rfl; have hcs4 := (blk_cell BKgs.out 4).trans rfl; have hcs5 := (blk_cell BKgs.out 5).trans rfl; have HBW := Aside0.mk HBgs.out) | (go_at_call 58; (with_reducible refine (lay_any k a0_0 a0_1 a0_2 a0_3 a0_4 A0_5 c0_5 l0_5 e0 _ (Kd.C_below HRD.out HBW.out) HC.out HCK.out HK.out).mono ?_); rintro e w' ⟨vw, vc, Al, nl, kl, rfl, hw_, hc_, hb⟩; obtain ⟨Aw, cw, ew⟩ := Kd.R_slice hw_; obtain ⟨Ac, cc, ec⟩ := Kd.R_slice hc_; subst ew ec; have RWW := Aside0.mk hw_; have RCC := Aside0.mk hc_; have HB2 := Aside0.mk (HBW.out.trans (below_lower hb (below_size HBW.out))); clear hw_ hc_ hb) | ((with_reducible refine gate_dst (N := 4) rfl ?_); refine box_event rfl (N := 4) rfl (cs := #[.slice none 0 0, .slice none 0 0, .slice none 0 0]) (t := 108) (by first | (go_simp; done) | (go_simp; rfl)) ?_; intro gb hgb wgb hbox hb; have BKgb := Aside0.mk hbox; have HBgb := Aside0.mk hb; have HGB := Aside0.mk hgb; clear hbox hb hgb; have GEb := Aside0.mk (by rw [HGB.out]; exact below_size HB2.out : w.heap.size ≤ gb); have hcb0 := (blk_cell BKgb.out 0).trans rfl; have hfb0 := blk_frozen BKgb.out 0; have hcb1 := (blk_cell BKgb.out 1).trans rfl; have hfb1 := blk_frozen BKgb.out 1; have hcb2 := (blk_cell BKgb.out 2).trans rfl; have hfb2 := blk_frozen BKgb.out 2))
 go_ret2
 refine ⟨_, rfl, ?_, ?_⟩
 ·exact (Kd.R_lower (Kd.R_mono (Kd.R_set (Kd.R_set (Kd.R_set (Kd.R_below RWW.out HBgb.out) BKgb.out (by decide) 0 _) (blk_set BKgb.out 0 _) (by decide) 1 _) (blk_set (blk_set BKgb.out 0 _) 1 _) (by decide) 2 _) (fun _ _ => trivial)) (below_size HBW.out))
 ·exact ((((below_step HB2.out HBgb.out).setCell GEb.out _).setCell GEb.out _).setCell GEb.out _)


/-! ### circuit_Conds: function 15 -/

def circuit_Conds.f (k : Nat) (a0_0 a0_1 a0_2 a0_3 a0_4 : Int) (l0_5 : List S105) : Option (List (List S118) × Int) := (circuit_Check.f k a0_0 a0_1 a0_2 a0_3 a0_4 l0_5).bind fun e => if e = 0 ∧ kindsOk l0_5 = false then none else some ((layBd a0_0 l0_5 e).cs, layErr a0_0 l0_5 e)
theorem circuit_Conds.mono : ∀ (a0_0 a0_1 a0_2 a0_3 a0_4 : Int) (l0_5 : List S105) (k : Nat), LeO (circuit_Conds.f k a0_0 a0_1 a0_2 a0_3 a0_4 l0_5) (circuit_Conds.f (k + 1) a0_0 a0_1 a0_2 a0_3 a0_4 l0_5) := fun _ _ _ _ _ _ k => LeO.bind (circuit_Check.mono _ _ _ _ _ _ k) (fun _ => LeO.refl _)
set_option maxHeartbeats 4000000 in
set_option maxRecDepth 100000 in
theorem circuit_Conds.calls (k : Nat) (a0_0 : Int) (a0_1 : Int) (a0_2 : Int) (a0_3 : Int) (a0_4 : Int) (A0_5 : Option Addr) (c0_5 : Nat) (l0_5 : List S105) (r1 : List (List S118)) (r2 : Int) (w : World) (hr0_5 : Kd.C k105 w A0_5 l0_5.length l0_5) (hc0_5 : l0_5.length ≤ c0_5) (h : circuit_Conds.f k a0_0 a0_1 a0_2 a0_3 a0_4 l0_5 = some (r1, r2)) :
  Calls Try.prog 15 #[.agg #[.int .i64 a0_0, .int .i64 a0_1, .int .i64 a0_2, .int .i64 a0_3, .int .i64 a0_4, .slice A0_5 l0_5.length c0_5]] w fun e w' => ∃ v0_ : Value, e = .returned (.tuple #[v0_, .int .i64 r2]) ∧ Kd.N (Kd.slice 118 k118) 50 w' w.heap.size (fun k_ => (w.heap.size ≤ k_)) v0_ r1 ∧ Below w.heap.size w w' := by
 obtain ⟨e0, hC, h2⟩ := Option.bind_eq_some_iff.1 h
 have h3 : ¬ (e0 = 0 ∧ kindsOk l0_5 = false) ∧ r1 = (layBd a0_0 l0_5 e0).cs ∧ r2 = layErr a0_0 l0_5 e0 := by
  by_cases hq : e0 = 0 ∧ kindsOk l0_5 = false
  ·rw [if_pos hq] at h2; cases h2
  ·rw [if_neg hq] at h2; injection h2 with h2; injection h2 with ha hb; exact ⟨hq, ha.symm, hb.symm⟩
 obtain ⟨hq, rfl, rfl⟩ := h3
 have hk : e0 = 0 → (∀ g ∈ l0_5, 1 ≤ g.f0 ∧ g.f0 ≤ 8) ∧ l0_5.length ≤ 100 := by
  intro he
  have : kindsOk l0_5 = true := by cases hb : kindsOk l0_5 with | true => rfl | false => exact absurd ⟨he, hb⟩ hq
  simpa [kindsOk] using this
 have HRD := Aside0.mk hr0_5; have HC := Aside0.mk hc0_5; have HCK := Aside0.mk hC; have HK := Aside0.mk hk
 clear h h2 hq hr0_5 hc0_5 hC hk; have hu24 := Try.underlying24; have hu108 := Try.underlying108
 go_enter Try.func15, Try.ntmps15
 go_wp2_with (first | ((with_reducible refine gate_dst (N := 1) rfl ?_); refine box_event rfl (N := 1) rfl (cs := #[.int .i64 a0_0, .int .i64 a0_1, .int .i64 a0_2, .int .i64 a0_3, .int .i64 a0_4, .slice A0_5 l0_5.length c0_5]) (t := 24) (by first | (go_simp; done) | (go_simp; rfl)) ?_; intro gs hgs wgs hbox hb; have BKgs := Aside0.mk hbox; have HBgs := Aside0.mk hb; clear hbox hb hgs; have hcs0 := (blk_cell BKgs.out 0).trans rfl; have hcs1 := (blk_cell BKgs.out 1).trans rfl; have hcs2 := (blk_cell BKgs.out 2).trans rfl; have hcs3 := (blk_cell BKgs.out 3).trans rfl; have hcs4 := (blk_cell BKgs.out 4).trans rfl; have hcs5 := (blk_cell BKgs.out 5).trans rfl; have HBW := Aside0.mk HBgs.out) | (go_at_call 58; (with_reducible refine (lay_any k a0_0 a0_1 a0_2 a0_3 a0_4 A0_5 c0_5 l0_5 e0 _ (Kd.C_below HRD.out HBW.out) HC.out HCK.out HK.out).mono ?_); rintro e w' ⟨vw, vc, Al, nl, kl, rfl, hw_, hc_, hb⟩; obtain ⟨Aw, cw, ew⟩ := Kd.R_slice hw_; obtain ⟨Ac, cc, ec⟩ := Kd.R_slice hc_; subst ew ec; have RWW := Aside0.mk hw_; have RCC := Aside0.mk hc_; have HB2 := Aside0.mk (HBW.out.trans (below_lower hb (below_size HBW.out))); clear hw_ hc_ hb) | ((with_reducible refine gate_dst (N := 4) rfl ?_); refine box_event rfl (N := 4) rfl (cs := #[.slice none 0 0, .slice none 0 0, .slice none 0 0]) (t := 108) (by first | (go_simp; done) | (go_simp; rfl)) ?_; intro gb hgb wgb hbox hb; have BKgb := Aside0.mk hbox; have HBgb := Aside0.mk hb; have HGB := Aside0.mk hgb; clear hbox hb hgb; have GEb := Aside0.mk (by rw [HGB.out]; exact below_size HB2.out : w.heap.size ≤ gb); have hcb0 := (blk_cell BKgb.out 0).trans rfl; have hfb0 := blk_frozen BKgb.out 0; have hcb1 := (blk_cell BKgb.out 1).trans rfl; have hfb1 := blk_frozen BKgb.out 1; have hcb2 := (blk_cell BKgb.out 2).trans rfl; have hfb2 := blk_frozen BKgb.out 2))
 go_ret2
 refine ⟨_, rfl, ?_, ?_⟩
 ·exact Kd.R_N (Kd.R_mono (Kd.R_bound (Kd.R_lower (Kd.R_mono (Kd.R_set (Kd.R_set (Kd.R_set (Kd.R_below RCC.out HBgb.out) BKgb.out (by decide) 0 _) (blk_set BKgb.out 0 _) (by decide) 1 _) (blk_set (blk_set BKgb.out 0 _) 1 _) (by decide) 2 _) (fun _ _ => trivial)) (below_size HBW.out))) (fun k hk => hk.2.1))
 ·exact ((((below_step HB2.out HBgb.out).setCell GEb.out _).setCell GEb.out _).setCell GEb.out _)


/-! ### circuit_Used: function 22 -/
def circuit_Used.f (k : Nat) (a0_0 : Int) (a0_1 : Int) (a0_2 : Int) (a0_3 : Int) (a0_4 : Int) (l0_5 : List (S105)) : Option (Int) := (circuit_look.f k a0_0 a0_1 a0_2 a0_3 a0_4 l0_5).bind fun bt119 => (some bt119.1)
theorem circuit_Used.mono : ∀ a0 a1 a2 a3 a4 a5 k, LeO (circuit_Used.f k a0 a1 a2 a3 a4 a5) (circuit_Used.f (k + 1) a0 a1 a2 a3 a4 a5) := by
 intro a0 a1 a2 a3 a4 a5 k
 unfold circuit_Used.f
 repeat' first
   | (with_reducible exact circuit_look.mono _ _ _ _ _ _ _)
   | (with_reducible exact LeO.refl _)
   | (with_reducible exact LeO.none _)
   | (with_reducible refine LeO.ite ?_ ?_)
   | (with_reducible refine LeO.bind ?_ (fun _ => ?_))
   | exact circuit_look.mono _ _ _ _ _ _ _
   | exact LeO.none _
   | refine LeO.ite ?_ ?_
   | refine LeO.bind ?_ (fun _ => ?_)
set_option maxHeartbeats 8000000 in
set_option maxRecDepth 100000 in
theorem circuit_Used.calls (k : Nat) (a0_0 : Int) (a0_1 : Int) (a0_2 : Int) (a0_3 : Int) (a0_4 : Int) (A0_5 : Option Addr) (c0_5 : Nat) (l0_5 : List (S105)) (r : Int) (w : World) (hr0_5 : Kd.C k105 w A0_5 l0_5.length l0_5) (hc0_5 : l0_5.length ≤ c0_5) (h : circuit_Used.f k a0_0 a0_1 a0_2 a0_3 a0_4 l0_5 = some r) :
  Calls Try.prog 22 #[.agg #[.int .i64 a0_0, .int .i64 a0_1, .int .i64 a0_2, .int .i64 a0_3, .int .i64 a0_4, .slice A0_5 l0_5.length c0_5]] w fun e w' => e = .returned (.int .i64 r) ∧ Below w.heap.size w w' := by
 have hu24 := Try.underlying24; have HR0_5 := Aside0.mk hr0_5; have HC0_5 := Aside0.mk hc0_5; clear hr0_5 hc0_5; have HB := Aside0.mk (Below.refl w.heap.size w)
 have H : ((circuit_look.f k a0_0 a0_1 a0_2 a0_3 a0_4 l0_5).bind fun bt119 => (some bt119.1)) = some r := h
 clear h; replace H := Option.bind_eq_some_iff.mp H
 obtain ⟨⟨t119, t120⟩, A20, H⟩ := H
 replace H : (some t119) = some r := H; have A2 := Aside0.mk A20; clear A20; obtain rfl := Option.some.inj H
 go_enter Try.func22, Try.ntmps22
 go_wp2_with (first | ((with_reducible refine gate_dst (N := 1) rfl ?_); refine box_event ?hg (N := 1) ?hd (cs := #[.int .i64 a0_0, .int .i64 a0_1, .int .i64 a0_2, .int .i64 a0_3, .int .i64 a0_4, .slice A0_5 l0_5.length c0_5]) (t := 24) ?hr ?_; (case hd => rfl); (case hg => rfl); (case hr => first | (go_simp; done) | (go_simp; rfl)); intro gb118 hg w3 hbox hb; have n0_ := Aside0.mk (below_step (blA HB.out) hb); have n1_ := Aside0.mk (hbox); have n2_ := Aside0.mk ((by rw [hg]; exact (below_size (blA HB.out)) : w.heap.size ≤ gb118)); have n3_ := Aside0.mk ((by rw [hg]; exact (below_size (blA HB.out)) : w.heap.size ≤ gb118)); clear HB; have HB := n0_; have BK118 := n1_; have GW118 := n2_; have GE118 := n3_; clear n0_ n1_ n2_ n3_; clear hb hbox hg; have hcz4 := fun i => blk_cell BK118.out i; have hfz4 := fun i => blk_frozen BK118.out i; ) | ((with_reducible refine gate_callee (f := 64) rfl ?_); refine goesL_ (some 7) rfl rfl Try.func64 (by kernel_rfl) rfl #[.agg #[.int .i64 a0_0, .int .i64 a0_1, .int .i64 a0_2, .int .i64 a0_3, .int .i64 a0_4, .slice A0_5 l0_5.length c0_5]] rfl (by (try simp only [List.map_toArray, List.map_cons, List.map_nil]); first | done | rfl | (simp only [List.length_drop, List.length_take]; rfl)) ?_; (with_reducible refine (circuit_look.calls k a0_0 a0_1 a0_2 a0_3 a0_4 _ _ l0_5 t119 t120 _ ?side1 ?side2 A2.out).mono ?_); (case side1 => repeat (first | exact (Kd.C_below HR0_5.out HB.out) | (with_reducible refine Kd.C_alloc ?_ _) | (with_reducible refine Kd.C_drewN ?_ _) | (with_reducible refine Kd.C_drew ?_))); (case side2 => exact HC0_5.out); rintro e w5 ⟨rfl, hb⟩; refine ⟨_, rfl, ?_⟩; have n0_ := Aside0.mk (blk_below (g := gb118) (o := .cells #[.int .i64 a0_0, .int .i64 a0_1, .int .i64 a0_2, .int .i64 a0_3, .int .i64 a0_4, .slice A0_5 l0_5.length c0_5] 24 (0, 0)) (bkA BK118.out) hb); have n1_ := Aside0.mk (below_step (blA HB.out) hb); clear BK118; clear HB; have BK118 := n0_; have HB := n1_; clear n0_ n1_; (try clear hb); (try clear hb2); (try clear hk); (try clear hi)))
 go_ret
 exact ⟨by first | rfl | (simp [errW_none, errW_some] <;> rfl) | (simp [*, errW_none, errW_some] <;> rfl), blA HB.out⟩

end Go.Proofs.Ythiiodgpdoljoaa.PLc
