import Derived.Test.YthiiodgpdoljoaaKr1
import Derived.Test.YthiiodgpdoljoaaKr0
import Derived.Test.YthiiodgpdoljoaaKr2
import Derived.Test.YthiiodgpdoljoaaKr3
-- Words and walks that the kit's print has laid for this seat, cut down, and our own texts, merged.
namespace Go.Proofs.Ythiiodgpdoljoaa.PLw
open Go.RowKit Go.Proofs.YthiiodgpdoljoaaW.PrintWords Go.Proofs.YthiiodgpdoljoaaW.PrintLast Go.Proofs.YthiiodgpdoljoaaW.PrintMore
attribute [local go_sem] max2_int min2_int max_two min_two max_three min_three max_four min_four   -- for this text's walks alone
set_option linter.unusedVariables false
set_option linter.unusedSimpArgs false
/-! ### steepleref27_Fits: function 40 -/
mutual
def steepleref27_Fits.l0 : Nat → List (List Int) → Int → Int → Int → Int → Int → Int → List (S106) → Option (Int)
 | 0, _, _, _, _, _, _, _, _ => none
 | k + 1, x1, x7, x227000, x227001, x227002, x227003, x227004, x227005 => if x7 < (x1.length : Int) then (if 0 ≤ x7 then ((steepleref15_Two.f k x227001).bind fun t228 => (if ((rd_L4 x1 x7).length : Int) = t228 then (steepleref27_Fits.l0 k x1 (wrap64 (x7 + 1)) x227000 x227001 x227002 x227003 x227004 x227005) else (some 6))) else (none)) else (steepleref27_Fits.l1 k x1 0 x227000 x227001 x227002 x227003 x227004 x227005)
def steepleref27_Fits.l1 : Nat → List (List Int) → Int → Int → Int → Int → Int → Int → List (S106) → Option (Int)
 | 0, _, _, _, _, _, _, _, _ => none
 | k + 1, x1, x8, x227000, x227001, x227002, x227003, x227004, x227005 => if x8 < (x1.length : Int) then (steepleref27_Fits.l2 k x1 x8 0 x227000 x227001 x227002 x227003 x227004 x227005) else (some 0)
def steepleref27_Fits.l2 : Nat → List (List Int) → Int → Int → Int → Int → Int → Int → Int → List (S106) → Option (Int)
 | 0, _, _, _, _, _, _, _, _, _ => none
 | k + 1, x1, x8, x9, x227000, x227001, x227002, x227003, x227004, x227005 => if 0 ≤ x8 then (if x8 < (x1.length : Int) then (if x9 < ((rd_L4 x1 x8).length : Int) then (if 0 ≤ x9 then ((steepleref15_Two.f k x227000).bind fun t232 => (if 0 ≤ (IntKind.u64.wrap (t232)) then (if (shr .u64 (rd (rd_L4 x1 x8) x9) (IntKind.u64.wrap (t232))) > 0 then (some 5) else (steepleref27_Fits.l2 k x1 x8 (wrap64 (x9 + 1)) x227000 x227001 x227002 x227003 x227004 x227005)) else (none))) else (none)) else (steepleref27_Fits.l1 k x1 (wrap64 (x8 + 1)) x227000 x227001 x227002 x227003 x227004 x227005)) else (none)) else (none)
end
def steepleref27_Fits.f (k : Nat) (a0_0 : Int) (a0_1 : Int) (a0_2 : Int) (a0_3 : Int) (a0_4 : Int) (l0_5 : List (S106)) (l1 : List (List Int)) (a2 : Int) : Option (Int) := if (l1.length : Int) = a2 then (steepleref27_Fits.l0 k l1 0 a0_0 a0_1 a0_2 a0_3 a0_4 l0_5) else (some 6)
theorem steepleref27_Fits.mono_l : ∀ k, (∀ y0 y1 y2 y3 y4 y5 y6 y7, LeO (steepleref27_Fits.l0 k y0 y1 y2 y3 y4 y5 y6 y7) (steepleref27_Fits.l0 (k + 1) y0 y1 y2 y3 y4 y5 y6 y7)) ∧ (∀ y0 y1 y2 y3 y4 y5 y6 y7, LeO (steepleref27_Fits.l1 k y0 y1 y2 y3 y4 y5 y6 y7) (steepleref27_Fits.l1 (k + 1) y0 y1 y2 y3 y4 y5 y6 y7)) ∧ (∀ y0 y1 y2 y3 y4 y5 y6 y7 y8, LeO (steepleref27_Fits.l2 k y0 y1 y2 y3 y4 y5 y6 y7 y8) (steepleref27_Fits.l2 (k + 1) y0 y1 y2 y3 y4 y5 y6 y7 y8))
 | 0 => ⟨fun _ _ _ _ _ _ _ _ r h => by simp [steepleref27_Fits.l0] at h, fun _ _ _ _ _ _ _ _ r h => by simp [steepleref27_Fits.l1] at h, fun _ _ _ _ _ _ _ _ _ r h => by simp [steepleref27_Fits.l2] at h⟩
 | k + 1 => by
  obtain ⟨ih0, ih1, ih2⟩ := steepleref27_Fits.mono_l k
  refine ⟨?_, ?_, ?_⟩
  ·intro y0 y1 y2 y3 y4 y5 y6 y7
   unfold steepleref27_Fits.l0
   repeat' first
   | (with_reducible exact ih0 _ _ _ _ _ _ _ _)
   | (with_reducible exact ih1 _ _ _ _ _ _ _ _)
   | (with_reducible exact ih2 _ _ _ _ _ _ _ _ _)
   | (with_reducible exact steepleref15_Two.mono _ _)
   | (with_reducible exact LeO.refl _)
   | (with_reducible exact LeO.none _)
   | (with_reducible refine LeO.ite ?_ ?_)
   | (with_reducible refine LeO.bind ?_ (fun _ => ?_))
   | exact ih0 _ _ _ _ _ _ _ _
   | exact ih1 _ _ _ _ _ _ _ _
   | exact ih2 _ _ _ _ _ _ _ _ _
   | exact steepleref15_Two.mono _ _
   | exact LeO.none _
   | refine LeO.ite ?_ ?_
   | refine LeO.bind ?_ (fun _ => ?_)
  ·intro y0 y1 y2 y3 y4 y5 y6 y7
   unfold steepleref27_Fits.l1
   repeat' first
   | (with_reducible exact ih0 _ _ _ _ _ _ _ _)
   | (with_reducible exact ih1 _ _ _ _ _ _ _ _)
   | (with_reducible exact ih2 _ _ _ _ _ _ _ _ _)
   | (with_reducible exact steepleref15_Two.mono _ _)
   | (with_reducible exact LeO.refl _)
   | (with_reducible exact LeO.none _)
   | (with_reducible refine LeO.ite ?_ ?_)
   | (with_reducible refine LeO.bind ?_ (fun _ => ?_))
   | exact ih0 _ _ _ _ _ _ _ _
   | exact ih1 _ _ _ _ _ _ _ _
   | exact ih2 _ _ _ _ _ _ _ _ _
   | exact steepleref15_Two.mono _ _
   | exact LeO.none _
   | refine LeO.ite ?_ ?_
   | refine LeO.bind ?_ (fun _ => ?_)
  ·intro y0 y1 y2 y3 y4 y5 y6 y7 y8
   unfold steepleref27_Fits.l2
   repeat' first
   | (with_reducible exact ih0 _ _ _ _ _ _ _ _)
   | (with_reducible exact ih1 _ _ _ _ _ _ _ _)
   | (with_reducible exact ih2 _ _ _ _ _ _ _ _ _)
   | (with_reducible exact steepleref15_Two.mono _ _)
   | (with_reducible exact LeO.refl _)
   | (with_reducible exact LeO.none _)
   | (with_reducible refine LeO.ite ?_ ?_)
   | (with_reducible refine LeO.bind ?_ (fun _ => ?_))
   | exact ih0 _ _ _ _ _ _ _ _
   | exact ih1 _ _ _ _ _ _ _ _
   | exact ih2 _ _ _ _ _ _ _ _ _
   | exact steepleref15_Two.mono _ _
   | exact LeO.none _
   | refine LeO.ite ?_ ?_
   | refine LeO.bind ?_ (fun _ => ?_)
theorem steepleref27_Fits.mono : ∀ a0 a1 a2 a3 a4 a5 a6 a7 k, LeO (steepleref27_Fits.f k a0 a1 a2 a3 a4 a5 a6 a7) (steepleref27_Fits.f (k + 1) a0 a1 a2 a3 a4 a5 a6 a7) := by
 intro a0 a1 a2 a3 a4 a5 a6 a7 k
 obtain ⟨ih0, ih1, ih2⟩ := steepleref27_Fits.mono_l k
 unfold steepleref27_Fits.f
 repeat' first
   | (with_reducible exact ih0 _ _ _ _ _ _ _ _)
   | (with_reducible exact ih1 _ _ _ _ _ _ _ _)
   | (with_reducible exact ih2 _ _ _ _ _ _ _ _ _)
   | (with_reducible exact steepleref15_Two.mono _ _)
   | (with_reducible exact LeO.refl _)
   | (with_reducible exact LeO.none _)
   | (with_reducible refine LeO.ite ?_ ?_)
   | (with_reducible refine LeO.bind ?_ (fun _ => ?_))
   | exact ih0 _ _ _ _ _ _ _ _
   | exact ih1 _ _ _ _ _ _ _ _
   | exact ih2 _ _ _ _ _ _ _ _ _
   | exact steepleref15_Two.mono _ _
   | exact LeO.none _
   | refine LeO.ite ?_ ?_
   | refine LeO.bind ?_ (fun _ => ?_)
set_option maxHeartbeats 8000000 in
set_option maxRecDepth 100000 in
theorem steepleref27_Fits.calls (k : Nat) (a0_0 : Int) (a0_1 : Int) (a0_2 : Int) (a0_3 : Int) (a0_4 : Int) (A0_5 : Option Addr) (c0_5 : Nat) (l0_5 : List (S106)) (A1 : Option Addr) (c1 : Nat) (l1 : List (List Int)) (a2 : Int) (r : Int) (w : World) (hr0_5 : Kd.C k106 w A0_5 l0_5.length l0_5) (hc0_5 : l0_5.length ≤ c0_5) (hr1 : Kd.C (Kd.slice 43 (Kd.int .u64)) w A1 l1.length l1) (hc1 : l1.length ≤ c1) (h : steepleref27_Fits.f k a0_0 a0_1 a0_2 a0_3 a0_4 l0_5 l1 a2 = some r) :
  Calls Try.prog 40 #[.agg #[.int .i64 a0_0, .int .i64 a0_1, .int .i64 a0_2, .int .i64 a0_3, .int .i64 a0_4, .slice A0_5 l0_5.length c0_5], .slice A1 l1.length c1, .int .i64 a2] w fun e w' => e = .returned (.int .i64 r) ∧ Below w.heap.size w w' := by
 have hu28 := Try.underlying28; have HR0_5 := Aside0.mk hr0_5; have HC0_5 := Aside0.mk hc0_5; clear hr0_5 hc0_5; have HR1 := Aside0.mk hr1; have HC1 := Aside0.mk hc1; clear hr1 hc1; have HB := Aside0.mk (Below.refl w.heap.size w)
 have H : (if (l1.length : Int) = a2 then (steepleref27_Fits.l0 k l1 0 a0_0 a0_1 a0_2 a0_3 a0_4 l0_5) else (some 6)) = some r := h
 clear h
 by_cases c4 : (l1.length : Int) = a2
 ·rw [if_pos c4] at H
  have c4b0 : ((l1.length : Int) == a2) = true := beq_iff_eq.mpr c4; have c4b1 : ((l1.length : Int) != a2) = false := bne_eq_false_iff_eq.mpr c4; clear c4; have H' := Aside0.mk H; clear H
  go_enter Try.func40, Try.ntmps40
  go_wp2_with (first | ((with_reducible refine gate_dst (N := 3) rfl ?_); refine box_event ?hg (N := 3) ?hd (cs := #[.int .i64 a0_0, .int .i64 a0_1, .int .i64 a0_2, .int .i64 a0_3, .int .i64 a0_4, .slice A0_5 l0_5.length c0_5]) (t := 28) ?hr ?_; (case hd => rfl); (case hg => rfl); (case hr => first | (go_simp; done) | (go_simp; rfl)); intro gb226 hg w5 hbox hb; have n0_ := Aside0.mk (below_step (blA HB.out) hb); have n1_ := Aside0.mk (hbox); have n2_ := Aside0.mk ((by rw [hg]; exact (below_size (blA HB.out)) : w.heap.size ≤ gb226)); have n3_ := Aside0.mk ((by rw [hg]; exact (below_size (blA HB.out)) : w.heap.size ≤ gb226)); clear HB; have HB := n0_; have BK226 := n1_; have GW226 := n2_; have GE226 := n3_; clear n0_ n1_ n2_ n3_; clear hb hbox hg))
  repeat (go_quiet (first | ((with_reducible refine gate_dst (N := 3) rfl ?_); refine box_event ?hg (N := 3) ?hd (cs := #[.int .i64 a0_0, .int .i64 a0_1, .int .i64 a0_2, .int .i64 a0_3, .int .i64 a0_4, .slice A0_5 l0_5.length c0_5]) (t := 28) ?hr ?_; (case hd => rfl); (case hg => rfl); (case hr => first | (go_simp; done) | (go_simp; rfl)); intro gb226 hg w5 hbox hb; have n0_ := Aside0.mk (below_step (blA HB.out) hb); have n1_ := Aside0.mk (hbox); have n2_ := Aside0.mk ((by rw [hg]; exact (below_size (blA HB.out)) : w.heap.size ≤ gb226)); have n3_ := Aside0.mk ((by rw [hg]; exact (below_size (blA HB.out)) : w.heap.size ≤ gb226)); clear HB; have HB := n0_; have BK226 := n1_; have GW226 := n2_; have GE226 := n3_; clear n0_ n1_ n2_ n3_; clear hb hbox hg)); try go_wp2_with (first | ((with_reducible refine gate_dst (N := 3) rfl ?_); refine box_event ?hg (N := 3) ?hd (cs := #[.int .i64 a0_0, .int .i64 a0_1, .int .i64 a0_2, .int .i64 a0_3, .int .i64 a0_4, .slice A0_5 l0_5.length c0_5]) (t := 28) ?hr ?_; (case hd => rfl); (case hg => rfl); (case hr => first | (go_simp; done) | (go_simp; rfl)); intro gb226 hg w5 hbox hb; have n0_ := Aside0.mk (below_step (blA HB.out) hb); have n1_ := Aside0.mk (hbox); have n2_ := Aside0.mk ((by rw [hg]; exact (below_size (blA HB.out)) : w.heap.size ≤ gb226)); have n3_ := Aside0.mk ((by rw [hg]; exact (below_size (blA HB.out)) : w.heap.size ≤ gb226)); clear HB; have HB := n0_; have BK226 := n1_; have GW226 := n2_; have GE226 := n3_; clear n0_ n1_ n2_ n3_; clear hb hbox hg)))
  go_loopg [7] k (fun kq v7 w' => ∃ (x7_1 : Int), v7 = .int .i64 x7_1 ∧ Aside0 (steepleref27_Fits.l0 kq l1 x7_1 a0_0 a0_1 a0_2 a0_3 a0_4 l0_5 = some r) ∧ Aside0 (kq ≤ k) ∧ Aside0 (w'.heap[gb226]? = some (.cells #[.int .i64 a0_0, .int .i64 a0_1, .int .i64 a0_2, .int .i64 a0_3, .int .i64 a0_4, (.slice A0_5 l0_5.length c0_5)] 28 (0, 0))) ∧ Aside0 (Below w.heap.size w w'))
  case atStart => exact ⟨(0), eqA, H', ⟨Nat.le_refl _⟩, ⟨bkA BK226.out⟩, ⟨blA HB.out⟩⟩
  case round =>
   clear H'; (try clear c1); (try clear p2); (try clear c4); (try clear c4b0); (try clear c4b1); obtain ⟨x7_1, rfl, HA, HK1, BK226, HB⟩ := hrel
   cases gk with
   | zero => exact absurd HA.out (by simp [steepleref27_Fits.l0])
   | succ k1 =>
    have H := HA.out; clear HA
    simp only [steepleref27_Fits.l0] at H
    by_cases c6 : x7_1 < (l1.length : Int)
    ·rw [if_pos c6] at H
     have c6b0 : decide (x7_1 < (l1.length : Int)) = true := decide_eq_true c6; clear c6
     by_cases c7 : 0 ≤ x7_1
     ·rw [if_pos c7] at H
      have c7b0 : decide (0 ≤ x7_1) = true := decide_eq_true c7; clear c7; replace H := Option.bind_eq_some_iff.mp H; obtain ⟨t228, A80, H⟩ := H
      (try dsimp only at H)
      have A8 := Aside0.mk A80; clear A80
      by_cases c9 : ((rd_L4 l1 x7_1).length : Int) = t228
      ·rw [if_pos c9] at H
       have c9b0 : (((rd_L4 l1 x7_1).length : Int) == t228) = true := beq_iff_eq.mpr c9; have c9b1 : (((rd_L4 l1 x7_1).length : Int) != t228) = false := bne_eq_false_iff_eq.mpr c9; clear c9; have H' := Aside0.mk H; clear H
       have p227 : 0 ≤ (x7_1 : Int) := of_decide_eq_true (by first | (with_reducible assumption) | assumption)
       have q227 : x7_1 < (l1.length : Int) := of_decide_eq_true (by first | (with_reducible assumption) | assumption)
       obtain ⟨ad227, A227_0, c227_0, e227, hx227_0, hl227_0, hi227_0⟩ := at_L4 HR1.out x7_1 p227 q227
       cases e227
       replace hx227_0 := (HB.out.cell (World.block_lt_of_cell? w _ hx227_0)).trans hx227_0; have HR227_0 := Aside0.mk hi227_0; have HC227_0 := Aside0.mk hl227_0; clear hi227_0 hl227_0; replace p227 := eq_true p227; replace q227 := eq_true q227
       have hcz10 := fun i => blk_cell BK226.out i
       have hfz10 := fun i => blk_frozen BK226.out i
       go_wp2_with (first | (go_at_call 32; (with_reducible refine (steepleref15_Two.calls k1 a0_1 t228 _ A8.out).mono ?_); rintro e w' ⟨rfl, ⟨nd, rfl⟩⟩; (try first | exact ⟨rfl, _, World.drewN_drewN _ _ _⟩ | exact ⟨rfl, _, Eq.trans (World.drewN_drewN _ _ _) (congrArg (World.drewN _) (Nat.add_assoc _ _ _))⟩)))
       repeat (go_quiet (first | (go_at_call 32; (with_reducible refine (steepleref15_Two.calls k1 a0_1 t228 _ A8.out).mono ?_); rintro e w' ⟨rfl, ⟨nd, rfl⟩⟩; (try first | exact ⟨rfl, _, World.drewN_drewN _ _ _⟩ | exact ⟨rfl, _, Eq.trans (World.drewN_drewN _ _ _) (congrArg (World.drewN _) (Nat.add_assoc _ _ _))⟩))); try go_wp2_with (first | (go_at_call 32; (with_reducible refine (steepleref15_Two.calls k1 a0_1 t228 _ A8.out).mono ?_); rintro e w' ⟨rfl, ⟨nd, rfl⟩⟩; (try first | exact ⟨rfl, _, World.drewN_drewN _ _ _⟩ | exact ⟨rfl, _, Eq.trans (World.drewN_drewN _ _ _) (congrArg (World.drewN _) (Nat.add_assoc _ _ _))⟩))))
       go_roundg k1
       case measure => have := HK1.out; omega
       case rel => exact ⟨(wrap64 (x7_1 + 1)), eqA, H', ⟨by have := HK1.out; omega⟩, ⟨bkA BK226.out⟩, ⟨blA HB.out⟩⟩
      ·rw [if_neg c9] at H
       have c9b0 : (((rd_L4 l1 x7_1).length : Int) == t228) = false := beq_eq_false_iff_ne.mpr c9; have c9b1 : (((rd_L4 l1 x7_1).length : Int) != t228) = true := bne_iff_ne.mpr c9; obtain rfl := Option.some.inj H
       have p227 : 0 ≤ (x7_1 : Int) := of_decide_eq_true (by first | (with_reducible assumption) | assumption)
       have q227 : x7_1 < (l1.length : Int) := of_decide_eq_true (by first | (with_reducible assumption) | assumption)
       obtain ⟨ad227, A227_0, c227_0, e227, hx227_0, hl227_0, hi227_0⟩ := at_L4 HR1.out x7_1 p227 q227
       cases e227
       replace hx227_0 := (HB.out.cell (World.block_lt_of_cell? w _ hx227_0)).trans hx227_0; have HR227_0 := Aside0.mk hi227_0; have HC227_0 := Aside0.mk hl227_0; clear hi227_0 hl227_0; replace p227 := eq_true p227; replace q227 := eq_true q227
       have hcz11 := fun i => blk_cell BK226.out i
       have hfz11 := fun i => blk_frozen BK226.out i
       go_wp2_with (first | (go_at_call 32; (with_reducible refine (steepleref15_Two.calls k1 a0_1 t228 _ A8.out).mono ?_); rintro e w' ⟨rfl, ⟨nd, rfl⟩⟩; (try first | exact ⟨rfl, _, World.drewN_drewN _ _ _⟩ | exact ⟨rfl, _, Eq.trans (World.drewN_drewN _ _ _) (congrArg (World.drewN _) (Nat.add_assoc _ _ _))⟩)))
       repeat (go_quiet (first | (go_at_call 32; (with_reducible refine (steepleref15_Two.calls k1 a0_1 t228 _ A8.out).mono ?_); rintro e w' ⟨rfl, ⟨nd, rfl⟩⟩; (try first | exact ⟨rfl, _, World.drewN_drewN _ _ _⟩ | exact ⟨rfl, _, Eq.trans (World.drewN_drewN _ _ _) (congrArg (World.drewN _) (Nat.add_assoc _ _ _))⟩))); try go_wp2_with (first | (go_at_call 32; (with_reducible refine (steepleref15_Two.calls k1 a0_1 t228 _ A8.out).mono ?_); rintro e w' ⟨rfl, ⟨nd, rfl⟩⟩; (try first | exact ⟨rfl, _, World.drewN_drewN _ _ _⟩ | exact ⟨rfl, _, Eq.trans (World.drewN_drewN _ _ _) (congrArg (World.drewN _) (Nat.add_assoc _ _ _))⟩))))
       go_ret
       exact ⟨by first | rfl | (simp [errW_none, errW_some] <;> rfl) | (simp [*, errW_none, errW_some] <;> rfl), blA HB.out⟩
     ·rw [if_neg c7] at H
      exact absurd H (by simp)
    ·rw [if_neg c6] at H
     have c6b0 : decide (x7_1 < (l1.length : Int)) = false := decide_eq_false c6; clear c6; have H' := Aside0.mk H; clear H
     go_wp2
     repeat (go_quiet (fail); try go_wp2)
     go_loopg [8] k1 (fun kq v8 w' => ∃ (x8_2 : Int), v8 = .int .i64 x8_2 ∧ Aside0 (steepleref27_Fits.l1 kq l1 x8_2 a0_0 a0_1 a0_2 a0_3 a0_4 l0_5 = some r) ∧ Aside0 (kq ≤ k1) ∧ Aside0 (w'.heap[gb226]? = some (.cells #[.int .i64 a0_0, .int .i64 a0_1, .int .i64 a0_2, .int .i64 a0_3, .int .i64 a0_4, (.slice A0_5 l0_5.length c0_5)] 28 (0, 0))) ∧ Aside0 (Below w.heap.size w w'))
     case atStart => exact ⟨(0), eqA, H', ⟨Nat.le_refl _⟩, ⟨bkA BK226.out⟩, ⟨blA HB.out⟩⟩
     case round =>
      clear H'; (try clear c1); (try clear c2); (try clear p2); (try clear q2); (try clear hx2); (try clear c4); (try clear c4b0); (try clear c4b1); (try clear c6); (try clear c6b0); (try clear p6); (try clear c7); (try clear c7b0); (try clear c9); (try clear c9b0); (try clear c9b1); (try clear hcz10); (try clear hcz11); (try clear hfz10); (try clear hfz11); (try clear hx227_0); (try clear p2); (try clear p227); (try clear q227); obtain ⟨x8_2, rfl, HA, HK2, BK226, HB⟩ := hrel
      cases gk with
      | zero => exact absurd HA.out (by simp [steepleref27_Fits.l1])
      | succ k2 =>
       have H := HA.out; clear HA
       simp only [steepleref27_Fits.l1] at H
       by_cases c12 : x8_2 < (l1.length : Int)
       ·rw [if_pos c12] at H
        have c12b0 : decide (x8_2 < (l1.length : Int)) = true := decide_eq_true c12; clear c12; have H' := Aside0.mk H; clear H
        go_wp2
        repeat (go_quiet (fail); try go_wp2)
        go_loopg [9] k2 (fun kq v9 w' => ∃ (x9_3 : Int), v9 = .int .i64 x9_3 ∧ Aside0 (steepleref27_Fits.l2 kq l1 x8_2 x9_3 a0_0 a0_1 a0_2 a0_3 a0_4 l0_5 = some r) ∧ Aside0 (kq ≤ k2) ∧ Aside0 (w'.heap[gb226]? = some (.cells #[.int .i64 a0_0, .int .i64 a0_1, .int .i64 a0_2, .int .i64 a0_3, .int .i64 a0_4, (.slice A0_5 l0_5.length c0_5)] 28 (0, 0))) ∧ Aside0 (Below w.heap.size w w'))
        case atStart => exact ⟨(0), eqA, H', ⟨Nat.le_refl _⟩, ⟨bkA BK226.out⟩, ⟨blA HB.out⟩⟩
        case round =>
         clear H'; (try clear c1); (try clear c2); (try clear p2); (try clear q2); (try clear hx2); (try clear c4); (try clear c4b0); (try clear c4b1); (try clear c6); (try clear c6b0); (try clear p6); (try clear c7); (try clear c7b0); (try clear c9); (try clear c9b0); (try clear c9b1); (try clear c12); (try clear c12b0); (try clear hcz10); (try clear hcz11); (try clear hfz10); (try clear hfz11); (try clear hx227_0); (try clear p2); (try clear p227); (try clear p6); (try clear q2); (try clear q227); obtain ⟨x9_3, rfl, HA, HK3, BK226, HB⟩ := hrel
         cases gk with
         | zero => exact absurd HA.out (by simp [steepleref27_Fits.l2])
         | succ k3 =>
          have H := HA.out; clear HA
          simp only [steepleref27_Fits.l2] at H
          by_cases c13 : 0 ≤ x8_2
          ·rw [if_pos c13] at H
           have c13b0 : decide (0 ≤ x8_2) = true := decide_eq_true c13; clear c13
           by_cases c14 : x8_2 < (l1.length : Int)
           ·rw [if_pos c14] at H
            have c14b0 : decide (x8_2 < (l1.length : Int)) = true := decide_eq_true c14; clear c14
            by_cases c15 : x9_3 < ((rd_L4 l1 x8_2).length : Int)
            ·rw [if_pos c15] at H
             have c15b0 : decide (x9_3 < ((rd_L4 l1 x8_2).length : Int)) = true := decide_eq_true c15; clear c15
             by_cases c16 : 0 ≤ x9_3
             ·rw [if_pos c16] at H
              have c16b0 : decide (0 ≤ x9_3) = true := decide_eq_true c16; clear c16; replace H := Option.bind_eq_some_iff.mp H; obtain ⟨t232, A170, H⟩ := H
              (try dsimp only at H)
              have A17 := Aside0.mk A170; clear A170
              obtain ⟨ji18, hji18⟩ : ∃ j_ : Int, (IntKind.u64.wrap (t232)) = j_ := ⟨_, rfl⟩
              replace H : (if 0 ≤ (ji18) then (if (shr .u64 (rd (rd_L4 l1 x8_2) x9_3) (ji18)) > 0 then (some 5) else (steepleref27_Fits.l2 k3 l1 x8_2 (wrap64 (x9_3 + 1)) a0_0 a0_1 a0_2 a0_3 a0_4 l0_5)) else (none)) = some r := by first | (rw [hji18] at H; exact H) | (simp only [hji18] at H ⊢; exact H)
              (try rw [hji18] at A17)
              by_cases c19 : 0 ≤ (ji18)
              ·rw [if_pos c19] at H
               have c19b0 := eq_true c19; have c19b1 : decide (0 ≤ (ji18)) = true := decide_eq_true c19; clear c19
               obtain ⟨ji20, hji20⟩ : ∃ j_ : Int, (shr .u64 (rd (rd_L4 l1 x8_2) x9_3) (ji18)) = j_ := ⟨_, rfl⟩
               replace H : (if (ji20) > 0 then (some 5) else (steepleref27_Fits.l2 k3 l1 x8_2 (wrap64 (x9_3 + 1)) a0_0 a0_1 a0_2 a0_3 a0_4 l0_5)) = some r := by first | (rw [hji20] at H; exact H) | (simp only [hji20] at H ⊢; exact H)
               (try rw [hji20] at A17)
               have hji20_ : ((rd (rd_L4 l1 x8_2) x9_3) / 2 ^ min (ji18).toNat 64) = ji20 := hji20; have hji20z : (ji18) ≤ 64 → ((rd (rd_L4 l1 x8_2) x9_3) / 2 ^ (ji18).toNat) = ji20 := shr_small hji20
               by_cases c21 : (ji20) > 0
               ·rw [if_pos c21] at H
                have c21b0 : decide (0 < (ji20)) = true := decide_eq_true c21; clear c21; obtain rfl := Option.some.inj H
                have p229 : 0 ≤ (x8_2 : Int) := of_decide_eq_true (by first | (with_reducible assumption) | assumption)
                have q229 : x8_2 < (l1.length : Int) := of_decide_eq_true (by first | (with_reducible assumption) | assumption)
                obtain ⟨ad229, A229_0, c229_0, e229, hx229_0, hl229_0, hi229_0⟩ := at_L4 HR1.out x8_2 p229 q229
                cases e229
                replace hx229_0 := (HB.out.cell (World.block_lt_of_cell? w _ hx229_0)).trans hx229_0; have HR229_0 := Aside0.mk hi229_0; have HC229_0 := Aside0.mk hl229_0; clear hi229_0 hl229_0; replace p229 := eq_true p229; replace q229 := eq_true q229
                have p230 : 0 ≤ (x8_2 : Int) := of_decide_eq_true (by first | (with_reducible assumption) | assumption)
                have q230 : x8_2 < (l1.length : Int) := of_decide_eq_true (by first | (with_reducible assumption) | assumption)
                obtain ⟨ad230, A230_0, c230_0, e230, hx230_0, hl230_0, hi230_0⟩ := at_L4 HR1.out x8_2 p230 q230
                obtain rfl : ad229 = ad230 := (by injection e230)
                replace hx230_0 := (HB.out.cell (World.block_lt_of_cell? w _ hx230_0)).trans hx230_0; have HR230_0 := Aside0.mk hi230_0; have HC230_0 := Aside0.mk hl230_0; clear hi230_0 hl230_0; replace p230 := eq_true p230; replace q230 := eq_true q230; have ea_ := Option.some.inj (hx229_0.symm.trans hx230_0)
                injection ea_ with ea_ en_ ec_
                subst ea_; subst ec_; clear en_
                have p231 : 0 ≤ (x9_3 : Int) := of_decide_eq_true (by first | (with_reducible assumption) | assumption)
                have q231 : x9_3 < ((rd_L4 l1 x8_2).length : Int) := of_decide_eq_true (by first | (with_reducible assumption) | assumption)
                obtain ⟨ad231, e231, hx231_0⟩ := Kd.at_int HR230_0.out x9_3 p231 q231
                cases e231
                replace hx231_0 := (HB.out.cell (World.block_lt_of_cell? w _ hx231_0)).trans hx231_0; replace p231 := eq_true p231; replace q231 := eq_true q231
                have hcz22 := fun i => blk_cell BK226.out i
                have hfz22 := fun i => blk_frozen BK226.out i
                go_wp2_with (first | (go_at_call 32; (with_reducible refine (steepleref15_Two.calls k3 a0_0 t232 _ A17.out).mono ?_); rintro e w' ⟨rfl, ⟨nd, rfl⟩⟩; (try first | exact ⟨rfl, _, World.drewN_drewN _ _ _⟩ | exact ⟨rfl, _, Eq.trans (World.drewN_drewN _ _ _) (congrArg (World.drewN _) (Nat.add_assoc _ _ _))⟩)))
                repeat (go_quiet (first | (go_at_call 32; (with_reducible refine (steepleref15_Two.calls k3 a0_0 t232 _ A17.out).mono ?_); rintro e w' ⟨rfl, ⟨nd, rfl⟩⟩; (try first | exact ⟨rfl, _, World.drewN_drewN _ _ _⟩ | exact ⟨rfl, _, Eq.trans (World.drewN_drewN _ _ _) (congrArg (World.drewN _) (Nat.add_assoc _ _ _))⟩))); try go_wp2_with (first | (go_at_call 32; (with_reducible refine (steepleref15_Two.calls k3 a0_0 t232 _ A17.out).mono ?_); rintro e w' ⟨rfl, ⟨nd, rfl⟩⟩; (try first | exact ⟨rfl, _, World.drewN_drewN _ _ _⟩ | exact ⟨rfl, _, Eq.trans (World.drewN_drewN _ _ _) (congrArg (World.drewN _) (Nat.add_assoc _ _ _))⟩))))
                go_ret
                exact ⟨by first | rfl | (simp [errW_none, errW_some] <;> rfl) | (simp only [← hji18, ← hji20]; first | rfl | (simp [errW_none, errW_some] <;> rfl)) | (simp [*, errW_none, errW_some] <;> rfl), blA HB.out⟩
               ·rw [if_neg c21] at H
                have c21b0 : decide (0 < (ji20)) = false := decide_eq_false c21; clear c21; have H' := Aside0.mk H; clear H
                have p229 : 0 ≤ (x8_2 : Int) := of_decide_eq_true (by first | (with_reducible assumption) | assumption)
                have q229 : x8_2 < (l1.length : Int) := of_decide_eq_true (by first | (with_reducible assumption) | assumption)
                obtain ⟨ad229, A229_0, c229_0, e229, hx229_0, hl229_0, hi229_0⟩ := at_L4 HR1.out x8_2 p229 q229
                cases e229
                replace hx229_0 := (HB.out.cell (World.block_lt_of_cell? w _ hx229_0)).trans hx229_0; have HR229_0 := Aside0.mk hi229_0; have HC229_0 := Aside0.mk hl229_0; clear hi229_0 hl229_0; replace p229 := eq_true p229; replace q229 := eq_true q229
                have p230 : 0 ≤ (x8_2 : Int) := of_decide_eq_true (by first | (with_reducible assumption) | assumption)
                have q230 : x8_2 < (l1.length : Int) := of_decide_eq_true (by first | (with_reducible assumption) | assumption)
                obtain ⟨ad230, A230_0, c230_0, e230, hx230_0, hl230_0, hi230_0⟩ := at_L4 HR1.out x8_2 p230 q230
                obtain rfl : ad229 = ad230 := (by injection e230)
                replace hx230_0 := (HB.out.cell (World.block_lt_of_cell? w _ hx230_0)).trans hx230_0; have HR230_0 := Aside0.mk hi230_0; have HC230_0 := Aside0.mk hl230_0; clear hi230_0 hl230_0; replace p230 := eq_true p230; replace q230 := eq_true q230; have ea_ := Option.some.inj (hx229_0.symm.trans hx230_0)
                injection ea_ with ea_ en_ ec_
                subst ea_; subst ec_; clear en_
                have p231 : 0 ≤ (x9_3 : Int) := of_decide_eq_true (by first | (with_reducible assumption) | assumption)
                have q231 : x9_3 < ((rd_L4 l1 x8_2).length : Int) := of_decide_eq_true (by first | (with_reducible assumption) | assumption)
                obtain ⟨ad231, e231, hx231_0⟩ := Kd.at_int HR230_0.out x9_3 p231 q231
                cases e231
                replace hx231_0 := (HB.out.cell (World.block_lt_of_cell? w _ hx231_0)).trans hx231_0; replace p231 := eq_true p231; replace q231 := eq_true q231
                have hcz23 := fun i => blk_cell BK226.out i
                have hfz23 := fun i => blk_frozen BK226.out i
                go_wp2_with (first | (go_at_call 32; (with_reducible refine (steepleref15_Two.calls k3 a0_0 t232 _ A17.out).mono ?_); rintro e w' ⟨rfl, ⟨nd, rfl⟩⟩; (try first | exact ⟨rfl, _, World.drewN_drewN _ _ _⟩ | exact ⟨rfl, _, Eq.trans (World.drewN_drewN _ _ _) (congrArg (World.drewN _) (Nat.add_assoc _ _ _))⟩)))
                repeat (go_quiet (first | (go_at_call 32; (with_reducible refine (steepleref15_Two.calls k3 a0_0 t232 _ A17.out).mono ?_); rintro e w' ⟨rfl, ⟨nd, rfl⟩⟩; (try first | exact ⟨rfl, _, World.drewN_drewN _ _ _⟩ | exact ⟨rfl, _, Eq.trans (World.drewN_drewN _ _ _) (congrArg (World.drewN _) (Nat.add_assoc _ _ _))⟩))); try go_wp2_with (first | (go_at_call 32; (with_reducible refine (steepleref15_Two.calls k3 a0_0 t232 _ A17.out).mono ?_); rintro e w' ⟨rfl, ⟨nd, rfl⟩⟩; (try first | exact ⟨rfl, _, World.drewN_drewN _ _ _⟩ | exact ⟨rfl, _, Eq.trans (World.drewN_drewN _ _ _) (congrArg (World.drewN _) (Nat.add_assoc _ _ _))⟩))))
                go_roundg k3
                case measure => have := HK1.out; have := HK2.out; have := HK3.out; omega
                case rel => exact ⟨(wrap64 (x9_3 + 1)), eqA, H', ⟨by have := HK1.out; have := HK2.out; have := HK3.out; omega⟩, ⟨bkA BK226.out⟩, ⟨blA HB.out⟩⟩
              ·rw [if_neg c19] at H
               exact absurd H (by simp)
             ·rw [if_neg c16] at H
              exact absurd H (by simp)
            ·rw [if_neg c15] at H
             have c15b0 : decide (x9_3 < ((rd_L4 l1 x8_2).length : Int)) = false := decide_eq_false c15; clear c15; have H' := Aside0.mk H; clear H
             have p229 : 0 ≤ (x8_2 : Int) := of_decide_eq_true (by first | (with_reducible assumption) | assumption)
             have q229 : x8_2 < (l1.length : Int) := of_decide_eq_true (by first | (with_reducible assumption) | assumption)
             obtain ⟨ad229, A229_0, c229_0, e229, hx229_0, hl229_0, hi229_0⟩ := at_L4 HR1.out x8_2 p229 q229
             cases e229
             replace hx229_0 := (HB.out.cell (World.block_lt_of_cell? w _ hx229_0)).trans hx229_0; have HR229_0 := Aside0.mk hi229_0; have HC229_0 := Aside0.mk hl229_0; clear hi229_0 hl229_0; replace p229 := eq_true p229; replace q229 := eq_true q229
             go_wp2
             repeat (go_quiet (fail); try go_wp2)
             go_roundg k3
             case measure => have := HK1.out; have := HK2.out; have := HK3.out; omega
             case rel => exact ⟨(wrap64 (x8_2 + 1)), eqA, H', ⟨by have := HK1.out; have := HK2.out; have := HK3.out; omega⟩, ⟨bkA BK226.out⟩, ⟨blA HB.out⟩⟩
           ·rw [if_neg c14] at H
            exact absurd H (by simp)
          ·rw [if_neg c13] at H
           exact absurd H (by simp)
       ·rw [if_neg c12] at H
        have c12b0 : decide (x8_2 < (l1.length : Int)) = false := decide_eq_false c12; clear c12; obtain rfl := Option.some.inj H
        go_wp2
        repeat (go_quiet (fail); try go_wp2)
        go_ret
        exact ⟨by first | rfl | (simp [errW_none, errW_some] <;> rfl) | (simp [*, errW_none, errW_some] <;> rfl), blA HB.out⟩
 ·rw [if_neg c4] at H
  have c4b0 : ((l1.length : Int) == a2) = false := beq_eq_false_iff_ne.mpr c4; have c4b1 : ((l1.length : Int) != a2) = true := bne_iff_ne.mpr c4; obtain rfl := Option.some.inj H
  go_enter Try.func40, Try.ntmps40
  go_wp2_with (first | ((with_reducible refine gate_dst (N := 3) rfl ?_); refine box_event ?hg (N := 3) ?hd (cs := #[.int .i64 a0_0, .int .i64 a0_1, .int .i64 a0_2, .int .i64 a0_3, .int .i64 a0_4, .slice A0_5 l0_5.length c0_5]) (t := 28) ?hr ?_; (case hd => rfl); (case hg => rfl); (case hr => first | (go_simp; done) | (go_simp; rfl)); intro gb226 hg w24 hbox hb; have n0_ := Aside0.mk (below_step (blA HB.out) hb); have n1_ := Aside0.mk (hbox); have n2_ := Aside0.mk ((by rw [hg]; exact (below_size (blA HB.out)) : w.heap.size ≤ gb226)); have n3_ := Aside0.mk ((by rw [hg]; exact (below_size (blA HB.out)) : w.heap.size ≤ gb226)); clear HB; have HB := n0_; have BK226 := n1_; have GW226 := n2_; have GE226 := n3_; clear n0_ n1_ n2_ n3_; clear hb hbox hg))
  repeat (go_quiet (first | ((with_reducible refine gate_dst (N := 3) rfl ?_); refine box_event ?hg (N := 3) ?hd (cs := #[.int .i64 a0_0, .int .i64 a0_1, .int .i64 a0_2, .int .i64 a0_3, .int .i64 a0_4, .slice A0_5 l0_5.length c0_5]) (t := 28) ?hr ?_; (case hd => rfl); (case hg => rfl); (case hr => first | (go_simp; done) | (go_simp; rfl)); intro gb226 hg w24 hbox hb; have n0_ := Aside0.mk (below_step (blA HB.out) hb); have n1_ := Aside0.mk (hbox); have n2_ := Aside0.mk ((by rw [hg]; exact (below_size (blA HB.out)) : w.heap.size ≤ gb226)); have n3_ := Aside0.mk ((by rw [hg]; exact (below_size (blA HB.out)) : w.heap.size ≤ gb226)); clear HB; have HB := n0_; have BK226 := n1_; have GW226 := n2_; have GE226 := n3_; clear n0_ n1_ n2_ n3_; clear hb hbox hg)); try go_wp2_with (first | ((with_reducible refine gate_dst (N := 3) rfl ?_); refine box_event ?hg (N := 3) ?hd (cs := #[.int .i64 a0_0, .int .i64 a0_1, .int .i64 a0_2, .int .i64 a0_3, .int .i64 a0_4, .slice A0_5 l0_5.length c0_5]) (t := 28) ?hr ?_; (case hd => rfl); (case hg => rfl); (case hr => first | (go_simp; done) | (go_simp; rfl)); intro gb226 hg w24 hbox hb; have n0_ := Aside0.mk (below_step (blA HB.out) hb); have n1_ := Aside0.mk (hbox); have n2_ := Aside0.mk ((by rw [hg]; exact (below_size (blA HB.out)) : w.heap.size ≤ gb226)); have n3_ := Aside0.mk ((by rw [hg]; exact (below_size (blA HB.out)) : w.heap.size ≤ gb226)); clear HB; have HB := n0_; have BK226 := n1_; have GW226 := n2_; have GE226 := n3_; clear n0_ n1_ n2_ n3_; clear hb hbox hg)))
  go_ret
  exact ⟨by first | rfl | (simp [errW_none, errW_some] <;> rfl) | (simp [*, errW_none, errW_some] <;> rfl), blA HB.out⟩
end Go.Proofs.Ythiiodgpdoljoaa.PLw
namespace Go.Proofs.Ythiiodgpdoljoaa.PLw
open Go.RowKit Go.Proofs.YthiiodgpdoljoaaW.PrintWords Go.Proofs.YthiiodgpdoljoaaW.PrintLast Go.Proofs.YthiiodgpdoljoaaW.PrintMore
attribute [local go_sem] max2_int min2_int max_two min_two max_three min_three max_four min_four   -- for this text's walks alone
set_option linter.unusedVariables false
set_option linter.unusedSimpArgs false
/-! ### steepleref27_Run: function 29 -/
mutual
def steepleref27_Run.l0 : Nat → List (List Int) → List (List Int) → Int → Int → Int → Int → Int → Int → List (S106) → Option ((List (List Int)) × Int)
 | 0, _, _, _, _, _, _, _, _, _ => none
 | k + 1, x1, x5, x6, x283000, x283001, x283002, x283003, x283004, x283005 => (steepleref15_Two.f k x283002).bind fun t288 => (if x6 < t288 then (steepleref27_Run.l1 k x1 x5 x6 ([] : List Int) 0 x283000 x283001 x283002 x283003 x283004 x283005) else (steepleref27_Run.l2 k x5 0 x283000 x283001 x283002 x283003 x283004 x283005))
def steepleref27_Run.l1 : Nat → List (List Int) → List (List Int) → Int → List Int → Int → Int → Int → Int → Int → Int → List (S106) → Option ((List (List Int)) × Int)
 | 0, _, _, _, _, _, _, _, _, _, _, _ => none
 | k + 1, x1, x5, x6, x7, x8, x283000, x283001, x283002, x283003, x283004, x283005 => (steepleref15_Two.f k x283001).bind fun t289 => (if x8 < t289 then (if x6 < (x1.length : Int) then (if 0 ≤ x6 then (if 0 ≤ x8 then (if x8 < ((rd_L4 x1 x6).length : Int) then (if x7.length < 17592186044416 then (steepleref27_Run.l1 k x1 x5 x6 (x7 ++ [rd (rd_L4 x1 x6) x8]) (wrap64 (x8 + 1)) x283000 x283001 x283002 x283003 x283004 x283005) else (none)) else (none)) else (none)) else (none)) else (if x7.length < 17592186044416 then (steepleref27_Run.l1 k x1 x5 x6 (x7 ++ [0]) (wrap64 (x8 + 1)) x283000 x283001 x283002 x283003 x283004 x283005) else (none))) else (if x5.length < 5864062014805 then (steepleref27_Run.l0 k x1 (x5 ++ [x7]) (wrap64 (x6 + 1)) x283000 x283001 x283002 x283003 x283004 x283005) else (none)))
def steepleref27_Run.l2 : Nat → List (List Int) → Int → Int → Int → Int → Int → Int → List (S106) → Option ((List (List Int)) × Int)
 | 0, _, _, _, _, _, _, _, _ => none
 | k + 1, x5, x10, x283000, x283001, x283002, x283003, x283004, x283005 => if x10 < (x283005.length : Int) then (if 0 ≤ x10 then (steepleref27_Run.l3 k x5 x10 0 x283000 x283001 x283002 x283003 x283004 x283005 ((rd_T106 x283005 x10).f0) ((rd_T106 x283005 x10).f1) ((rd_T106 x283005 x10).f2) ((rd_T106 x283005 x10).f3) ((rd_T106 x283005 x10).f4)) else (none)) else (some (x5, 0))
def steepleref27_Run.l3 : Nat → List (List Int) → Int → Int → Int → Int → Int → Int → Int → List (S106) → Int → Int → Int → Int → Int → Option ((List (List Int)) × Int)
 | 0, _, _, _, _, _, _, _, _, _, _, _, _, _, _ => none
 | k + 1, x5, x10, x12, x283000, x283001, x283002, x283003, x283004, x283005, x303000, x303001, x303002, x303003, x303004 => (steepleref15_Two.f k x283001).bind fun t303 => (if x12 < t303 then (if x303000 = 8 then (if 0 ≤ x303002 then (if x303002 < (x5.length : Int) then (if 0 ≤ x12 then (if x12 < ((rd_L4 x5 x303002).length : Int) then (if 0 ≤ x303003 then (if x303003 < (x5.length : Int) then (if x12 < ((rd_L4 x5 x303003).length : Int) then (steepleref27_Run.j4 k x5 x10 x12 ((rd (rd_L4 x5 x303002) x12) != (rd (rd_L4 x5 x303003) x12)) x283000 x283001 x283002 x283003 x283004 x283005 x303000 x303001 x303002 x303003 x303004) else (none)) else (none)) else (none)) else (none)) else (none)) else (none)) else (none)) else (steepleref27_Run.j4 k x5 x10 x12 false x283000 x283001 x283002 x283003 x283004 x283005 x303000 x303001 x303002 x303003 x303004)) else (steepleref27_Run.l2 k x5 (wrap64 (x10 + 1)) x283000 x283001 x283002 x283003 x283004 x283005))
def steepleref27_Run.j4 : Nat → List (List Int) → Int → Int → Bool → Int → Int → Int → Int → Int → List (S106) → Int → Int → Int → Int → Int → Option ((List (List Int)) × Int)
 | 0, _, _, _, _, _, _, _, _, _, _, _, _, _, _, _ => none
 | k + 1, x5, x10, x12, x111, x283000, x283001, x283002, x283003, x283004, x283005, x303000, x303001, x303002, x303003, x303004 => if x111 = true then (some (([] : List (List Int)), 7)) else (if x303000 < 8 then (if 0 ≤ x303002 then (if x303002 < (x5.length : Int) then (if 0 ≤ x12 then (if x12 < ((rd_L4 x5 x303002).length : Int) then (if 0 ≤ x303003 then (if x303003 < (x5.length : Int) then (if x12 < ((rd_L4 x5 x303003).length : Int) then ((steepleref27_Made.f k x283000 x283001 x283002 x283003 x283004 x283005 x303000 x303001 x303002 x303003 x303004 (rd (rd_L4 x5 x303002) x12) (rd (rd_L4 x5 x303003) x12)).bind fun t312 => (if 0 ≤ x303001 then (if x303001 < (x5.length : Int) then (if 0 < (t312.length : Int) then (if x12 < ((rd_L4 x5 x303001).length : Int) then ((some (x5.set (x303001 : Int).toNat ((rd_L4 x5 x303001).set (x12 : Int).toNat (rd t312 0)) : List (List Int))).bind fun y319 => (if x303000 = 7 then (if 0 ≤ x303004 then (if x303004 < (x5.length : Int) then (if 1 < (t312.length : Int) then (if x12 < ((rd_L4 y319 x303004).length : Int) then (steepleref27_Run.l3 k (y319.set (x303004 : Int).toNat ((rd_L4 y319 x303004).set (x12 : Int).toNat (rd t312 1))) x10 (wrap64 (x12 + 1)) x283000 x283001 x283002 x283003 x283004 x283005 x303000 x303001 x303002 x303003 x303004) else (none)) else (none)) else (none)) else (none)) else (steepleref27_Run.l3 k y319 x10 (wrap64 (x12 + 1)) x283000 x283001 x283002 x283003 x283004 x283005 x303000 x303001 x303002 x303003 x303004))) else (none)) else (none)) else (none)) else (none))) else (none)) else (none)) else (none)) else (none)) else (none)) else (none)) else (none)) else (steepleref27_Run.l3 k x5 x10 (wrap64 (x12 + 1)) x283000 x283001 x283002 x283003 x283004 x283005 x303000 x303001 x303002 x303003 x303004))
end
def steepleref27_Run.f (k : Nat) (a0_0 : Int) (a0_1 : Int) (a0_2 : Int) (a0_3 : Int) (a0_4 : Int) (l0_5 : List (S106)) (l1 : List (List Int)) : Option ((List (List Int)) × Int) := (steepleref25_Check.f k a0_0 a0_1 a0_2 a0_3 a0_4 l0_5).bind fun t284 => (if t284 = 0 then ((steepleref27_Fits.f k a0_0 a0_1 a0_2 a0_3 a0_4 l0_5 l1 (wrap64 (a0_3 + a0_4))).bind fun t286 => (if t286 = 0 then (steepleref27_Run.l0 k l1 ([] : List (List Int)) 0 a0_0 a0_1 a0_2 a0_3 a0_4 l0_5) else ((steepleref27_Fits.f k a0_0 a0_1 a0_2 a0_3 a0_4 l0_5 l1 (wrap64 (a0_3 + a0_4))).bind fun t287 => (some (([] : List (List Int)), t287))))) else ((steepleref25_Check.f k a0_0 a0_1 a0_2 a0_3 a0_4 l0_5).bind fun t285 => (some (([] : List (List Int)), t285))))
theorem steepleref27_Run.mono_l : ∀ k, (∀ y0 y1 y2 y3 y4 y5 y6 y7 y8, LeO (steepleref27_Run.l0 k y0 y1 y2 y3 y4 y5 y6 y7 y8) (steepleref27_Run.l0 (k + 1) y0 y1 y2 y3 y4 y5 y6 y7 y8)) ∧ (∀ y0 y1 y2 y3 y4 y5 y6 y7 y8 y9 y10, LeO (steepleref27_Run.l1 k y0 y1 y2 y3 y4 y5 y6 y7 y8 y9 y10) (steepleref27_Run.l1 (k + 1) y0 y1 y2 y3 y4 y5 y6 y7 y8 y9 y10)) ∧ (∀ y0 y1 y2 y3 y4 y5 y6 y7, LeO (steepleref27_Run.l2 k y0 y1 y2 y3 y4 y5 y6 y7) (steepleref27_Run.l2 (k + 1) y0 y1 y2 y3 y4 y5 y6 y7)) ∧ (∀ y0 y1 y2 y3 y4 y5 y6 y7 y8 y9 y10 y11 y12 y13, LeO (steepleref27_Run.l3 k y0 y1 y2 y3 y4 y5 y6 y7 y8 y9 y10 y11 y12 y13) (steepleref27_Run.l3 (k + 1) y0 y1 y2 y3 y4 y5 y6 y7 y8 y9 y10 y11 y12 y13)) ∧ (∀ y0 y1 y2 y3 y4 y5 y6 y7 y8 y9 y10 y11 y12 y13 y14, LeO (steepleref27_Run.j4 k y0 y1 y2 y3 y4 y5 y6 y7 y8 y9 y10 y11 y12 y13 y14) (steepleref27_Run.j4 (k + 1) y0 y1 y2 y3 y4 y5 y6 y7 y8 y9 y10 y11 y12 y13 y14))
 | 0 => ⟨fun _ _ _ _ _ _ _ _ _ r h => by simp [steepleref27_Run.l0] at h, fun _ _ _ _ _ _ _ _ _ _ _ r h => by simp [steepleref27_Run.l1] at h, fun _ _ _ _ _ _ _ _ r h => by simp [steepleref27_Run.l2] at h, fun _ _ _ _ _ _ _ _ _ _ _ _ _ _ r h => by simp [steepleref27_Run.l3] at h, fun _ _ _ _ _ _ _ _ _ _ _ _ _ _ _ r h => by simp [steepleref27_Run.j4] at h⟩
 | k + 1 => by
  obtain ⟨ih0, ih1, ih2, ih3, ih4⟩ := steepleref27_Run.mono_l k
  refine ⟨?_, ?_, ?_, ?_, ?_⟩
  ·intro y0 y1 y2 y3 y4 y5 y6 y7 y8
   unfold steepleref27_Run.l0
   repeat' first
   | (with_reducible exact ih0 _ _ _ _ _ _ _ _ _)
   | (with_reducible exact ih1 _ _ _ _ _ _ _ _ _ _ _)
   | (with_reducible exact ih2 _ _ _ _ _ _ _ _)
   | (with_reducible exact ih3 _ _ _ _ _ _ _ _ _ _ _ _ _ _)
   | (with_reducible exact ih4 _ _ _ _ _ _ _ _ _ _ _ _ _ _ _)
   | (with_reducible exact steepleref15_Two.mono _ _)
   | (with_reducible exact steepleref25_Check.mono _ _ _ _ _ _ _)
   | (with_reducible exact steepleref27_Fits.mono _ _ _ _ _ _ _ _ _)
   | (with_reducible exact steepleref27_Made.mono _ _ _ _ _ _ _ _ _ _ _ _ _ _)
   | (with_reducible exact LeO.refl _)
   | (with_reducible exact LeO.none _)
   | (with_reducible refine LeO.ite ?_ ?_)
   | (with_reducible refine LeO.bind ?_ (fun _ => ?_))
   | exact ih0 _ _ _ _ _ _ _ _ _
   | exact ih1 _ _ _ _ _ _ _ _ _ _ _
   | exact ih2 _ _ _ _ _ _ _ _
   | exact ih3 _ _ _ _ _ _ _ _ _ _ _ _ _ _
   | exact ih4 _ _ _ _ _ _ _ _ _ _ _ _ _ _ _
   | exact steepleref15_Two.mono _ _
   | exact steepleref25_Check.mono _ _ _ _ _ _ _
   | exact steepleref27_Fits.mono _ _ _ _ _ _ _ _ _
   | exact steepleref27_Made.mono _ _ _ _ _ _ _ _ _ _ _ _ _ _
   | exact LeO.none _
   | refine LeO.ite ?_ ?_
   | refine LeO.bind ?_ (fun _ => ?_)
  ·intro y0 y1 y2 y3 y4 y5 y6 y7 y8 y9 y10
   unfold steepleref27_Run.l1
   repeat' first
   | (with_reducible exact ih0 _ _ _ _ _ _ _ _ _)
   | (with_reducible exact ih1 _ _ _ _ _ _ _ _ _ _ _)
   | (with_reducible exact ih2 _ _ _ _ _ _ _ _)
   | (with_reducible exact ih3 _ _ _ _ _ _ _ _ _ _ _ _ _ _)
   | (with_reducible exact ih4 _ _ _ _ _ _ _ _ _ _ _ _ _ _ _)
   | (with_reducible exact steepleref15_Two.mono _ _)
   | (with_reducible exact steepleref25_Check.mono _ _ _ _ _ _ _)
   | (with_reducible exact steepleref27_Fits.mono _ _ _ _ _ _ _ _ _)
   | (with_reducible exact steepleref27_Made.mono _ _ _ _ _ _ _ _ _ _ _ _ _ _)
   | (with_reducible exact LeO.refl _)
   | (with_reducible exact LeO.none _)
   | (with_reducible refine LeO.ite ?_ ?_)
   | (with_reducible refine LeO.bind ?_ (fun _ => ?_))
   | exact ih0 _ _ _ _ _ _ _ _ _
   | exact ih1 _ _ _ _ _ _ _ _ _ _ _
   | exact ih2 _ _ _ _ _ _ _ _
   | exact ih3 _ _ _ _ _ _ _ _ _ _ _ _ _ _
   | exact ih4 _ _ _ _ _ _ _ _ _ _ _ _ _ _ _
   | exact steepleref15_Two.mono _ _
   | exact steepleref25_Check.mono _ _ _ _ _ _ _
   | exact steepleref27_Fits.mono _ _ _ _ _ _ _ _ _
   | exact steepleref27_Made.mono _ _ _ _ _ _ _ _ _ _ _ _ _ _
   | exact LeO.none _
   | refine LeO.ite ?_ ?_
   | refine LeO.bind ?_ (fun _ => ?_)
  ·intro y0 y1 y2 y3 y4 y5 y6 y7
   unfold steepleref27_Run.l2
   repeat' first
   | (with_reducible exact ih0 _ _ _ _ _ _ _ _ _)
   | (with_reducible exact ih1 _ _ _ _ _ _ _ _ _ _ _)
   | (with_reducible exact ih2 _ _ _ _ _ _ _ _)
   | (with_reducible exact ih3 _ _ _ _ _ _ _ _ _ _ _ _ _ _)
   | (with_reducible exact ih4 _ _ _ _ _ _ _ _ _ _ _ _ _ _ _)
   | (with_reducible exact steepleref15_Two.mono _ _)
   | (with_reducible exact steepleref25_Check.mono _ _ _ _ _ _ _)
   | (with_reducible exact steepleref27_Fits.mono _ _ _ _ _ _ _ _ _)
   | (with_reducible exact steepleref27_Made.mono _ _ _ _ _ _ _ _ _ _ _ _ _ _)
   | (with_reducible exact LeO.refl _)
   | (with_reducible exact LeO.none _)
   | (with_reducible refine LeO.ite ?_ ?_)
   | (with_reducible refine LeO.bind ?_ (fun _ => ?_))
   | exact ih0 _ _ _ _ _ _ _ _ _
   | exact ih1 _ _ _ _ _ _ _ _ _ _ _
   | exact ih2 _ _ _ _ _ _ _ _
   | exact ih3 _ _ _ _ _ _ _ _ _ _ _ _ _ _
   | exact ih4 _ _ _ _ _ _ _ _ _ _ _ _ _ _ _
   | exact steepleref15_Two.mono _ _
   | exact steepleref25_Check.mono _ _ _ _ _ _ _
   | exact steepleref27_Fits.mono _ _ _ _ _ _ _ _ _
   | exact steepleref27_Made.mono _ _ _ _ _ _ _ _ _ _ _ _ _ _
   | exact LeO.none _
   | refine LeO.ite ?_ ?_
   | refine LeO.bind ?_ (fun _ => ?_)
  ·intro y0 y1 y2 y3 y4 y5 y6 y7 y8 y9 y10 y11 y12 y13
   unfold steepleref27_Run.l3
   repeat' first
   | (with_reducible exact ih0 _ _ _ _ _ _ _ _ _)
   | (with_reducible exact ih1 _ _ _ _ _ _ _ _ _ _ _)
   | (with_reducible exact ih2 _ _ _ _ _ _ _ _)
   | (with_reducible exact ih3 _ _ _ _ _ _ _ _ _ _ _ _ _ _)
   | (with_reducible exact ih4 _ _ _ _ _ _ _ _ _ _ _ _ _ _ _)
   | (with_reducible exact steepleref15_Two.mono _ _)
   | (with_reducible exact steepleref25_Check.mono _ _ _ _ _ _ _)
   | (with_reducible exact steepleref27_Fits.mono _ _ _ _ _ _ _ _ _)
   | (with_reducible exact steepleref27_Made.mono _ _ _ _ _ _ _ _ _ _ _ _ _ _)
   | (with_reducible exact LeO.refl _)
   | (with_reducible exact LeO.none _)
   | (with_reducible refine LeO.ite ?_ ?_)
   | (with_reducible refine LeO.bind ?_ (fun _ => ?_))
   | exact ih0 _ _ _ _ _ _ _ _ _
   | exact ih1 _ _ _ _ _ _ _ _ _ _ _
   | exact ih2 _ _ _ _ _ _ _ _
   | exact ih3 _ _ _ _ _ _ _ _ _ _ _ _ _ _
   | exact ih4 _ _ _ _ _ _ _ _ _ _ _ _ _ _ _
   | exact steepleref15_Two.mono _ _
   | exact steepleref25_Check.mono _ _ _ _ _ _ _
   | exact steepleref27_Fits.mono _ _ _ _ _ _ _ _ _
   | exact steepleref27_Made.mono _ _ _ _ _ _ _ _ _ _ _ _ _ _
   | exact LeO.none _
   | refine LeO.ite ?_ ?_
   | refine LeO.bind ?_ (fun _ => ?_)
  ·intro y0 y1 y2 y3 y4 y5 y6 y7 y8 y9 y10 y11 y12 y13 y14
   unfold steepleref27_Run.j4
   repeat' first
   | (with_reducible exact ih0 _ _ _ _ _ _ _ _ _)
   | (with_reducible exact ih1 _ _ _ _ _ _ _ _ _ _ _)
   | (with_reducible exact ih2 _ _ _ _ _ _ _ _)
   | (with_reducible exact ih3 _ _ _ _ _ _ _ _ _ _ _ _ _ _)
   | (with_reducible exact ih4 _ _ _ _ _ _ _ _ _ _ _ _ _ _ _)
   | (with_reducible exact steepleref15_Two.mono _ _)
   | (with_reducible exact steepleref25_Check.mono _ _ _ _ _ _ _)
   | (with_reducible exact steepleref27_Fits.mono _ _ _ _ _ _ _ _ _)
   | (with_reducible exact steepleref27_Made.mono _ _ _ _ _ _ _ _ _ _ _ _ _ _)
   | (with_reducible exact LeO.refl _)
   | (with_reducible exact LeO.none _)
   | (with_reducible refine LeO.ite ?_ ?_)
   | (with_reducible refine LeO.bind ?_ (fun _ => ?_))
   | exact ih0 _ _ _ _ _ _ _ _ _
   | exact ih1 _ _ _ _ _ _ _ _ _ _ _
   | exact ih2 _ _ _ _ _ _ _ _
   | exact ih3 _ _ _ _ _ _ _ _ _ _ _ _ _ _
   | exact ih4 _ _ _ _ _ _ _ _ _ _ _ _ _ _ _
   | exact steepleref15_Two.mono _ _
   | exact steepleref25_Check.mono _ _ _ _ _ _ _
   | exact steepleref27_Fits.mono _ _ _ _ _ _ _ _ _
   | exact steepleref27_Made.mono _ _ _ _ _ _ _ _ _ _ _ _ _ _
   | exact LeO.none _
   | refine LeO.ite ?_ ?_
   | refine LeO.bind ?_ (fun _ => ?_)
theorem steepleref27_Run.mono : ∀ a0 a1 a2 a3 a4 a5 a6 k, LeO (steepleref27_Run.f k a0 a1 a2 a3 a4 a5 a6) (steepleref27_Run.f (k + 1) a0 a1 a2 a3 a4 a5 a6) := by
 intro a0 a1 a2 a3 a4 a5 a6 k
 obtain ⟨ih0, ih1, ih2, ih3, ih4⟩ := steepleref27_Run.mono_l k
 unfold steepleref27_Run.f
 repeat' first
   | (with_reducible exact ih0 _ _ _ _ _ _ _ _ _)
   | (with_reducible exact ih1 _ _ _ _ _ _ _ _ _ _ _)
   | (with_reducible exact ih2 _ _ _ _ _ _ _ _)
   | (with_reducible exact ih3 _ _ _ _ _ _ _ _ _ _ _ _ _ _)
   | (with_reducible exact ih4 _ _ _ _ _ _ _ _ _ _ _ _ _ _ _)
   | (with_reducible exact steepleref15_Two.mono _ _)
   | (with_reducible exact steepleref25_Check.mono _ _ _ _ _ _ _)
   | (with_reducible exact steepleref27_Fits.mono _ _ _ _ _ _ _ _ _)
   | (with_reducible exact steepleref27_Made.mono _ _ _ _ _ _ _ _ _ _ _ _ _ _)
   | (with_reducible exact LeO.refl _)
   | (with_reducible exact LeO.none _)
   | (with_reducible refine LeO.ite ?_ ?_)
   | (with_reducible refine LeO.bind ?_ (fun _ => ?_))
   | exact ih0 _ _ _ _ _ _ _ _ _
   | exact ih1 _ _ _ _ _ _ _ _ _ _ _
   | exact ih2 _ _ _ _ _ _ _ _
   | exact ih3 _ _ _ _ _ _ _ _ _ _ _ _ _ _
   | exact ih4 _ _ _ _ _ _ _ _ _ _ _ _ _ _ _
   | exact steepleref15_Two.mono _ _
   | exact steepleref25_Check.mono _ _ _ _ _ _ _
   | exact steepleref27_Fits.mono _ _ _ _ _ _ _ _ _
   | exact steepleref27_Made.mono _ _ _ _ _ _ _ _ _ _ _ _ _ _
   | exact LeO.none _
   | refine LeO.ite ?_ ?_
   | refine LeO.bind ?_ (fun _ => ?_)
def steepleref27_Run.T25 : Bool × List (List Nat × List Nat) := (true, [([], []), ([0], [0]), ([1], [1]), ([2], [2]), ([3], [3]), ([3], [3]), ([5, 3], [3, 5]), ([4, 6, 3], [3, 4, 6]), ([7, 3], [3, 7]), ([3], [3]), ([8, 9, 3], [3, 8, 9]), ([10, 3], [3, 10]), ([3], [3]), ([3], [3]), ([13, 3], [3, 13]), ([12, 14, 3], [3, 12, 14]), ([15, 3], [3, 15]), ([3], [3]), ([16, 17, 3], [3, 16, 17]), ([18, 3], [3, 18]), ([11, 19, 3], [3, 11, 19]), ([3, 20], [3, 20])])
def steepleref27_Run.B25 : List Nat := [0, 1, 3, 7, 15, 15, 47, 127, 255, 15, 1023, 2047, 15, 15, 8207, 28687, 61455, 15, 258063, 520207, 1048575, 2097151]
theorem steepleref27_Run.tab25 : rtab .any (opsOf Try.f29 25) = steepleref27_Run.T25 := by kernel_rfl
theorem steepleref27_Run.bits25 : waitsOk steepleref27_Run.T25.2 steepleref27_Run.B25 = true := by kernel_rfl
def steepleref27_Run.T28 : Bool × List (List Nat × List Nat) := (true, [([], []), ([], []), ([], []), ([], []), ([3], [3]), ([2, 4], [2, 4]), ([5], [5]), ([], []), ([6, 7], [6, 7]), ([8], [8]), ([], []), ([], []), ([11], [11]), ([10, 12], [10, 12]), ([13], [13]), ([], []), ([14, 15], [14, 15]), ([16], [16]), ([0, 1, 9, 17], [0, 1, 9, 17]), ([18, 18, 0, 1, 2, 3, 4, 5, 6, 7, 8, 9, 10, 11, 12, 13, 14, 15, 16, 17, 18], [18])])
def steepleref27_Run.B28 : List Nat := [0, 0, 0, 0, 8, 28, 60, 0, 252, 508, 0, 0, 2048, 7168, 15360, 0, 64512, 130048, 262143, 524287]
theorem steepleref27_Run.tab28 : rtab .any (opsOf Try.f29 28) = steepleref27_Run.T28 := by kernel_rfl
theorem steepleref27_Run.bits28 : waitsOk steepleref27_Run.T28.2 steepleref27_Run.B28 = true := by kernel_rfl
def steepleref27_Run.T29 : Bool × List (List Nat × List Nat) := (true, [([], []), ([], []), ([1], [1]), ([0, 2], [0, 2]), ([3], [3]), ([], []), ([], []), ([6], [6]), ([7], [7]), ([4, 5, 0, 1, 2, 3, 4, 5, 6, 7, 8], [4, 5]), ([9, 8, 0, 1, 2, 3, 4, 5, 6, 7, 8], [8, 9])])
def steepleref27_Run.B29 : List Nat := [0, 0, 2, 7, 15, 0, 0, 64, 192, 511, 1023]
theorem steepleref27_Run.tab29 : rtab .any (opsOf Try.f29 29) = steepleref27_Run.T29 := by kernel_rfl
theorem steepleref27_Run.bits29 : waitsOk steepleref27_Run.T29.2 steepleref27_Run.B29 = true := by kernel_rfl
def steepleref27_Run.T31 : Bool × List (List Nat × List Nat) := (true, [([], []), ([], []), ([1], [1]), ([0, 2], [0, 2]), ([3], [3]), ([], []), ([], []), ([6], [6]), ([7], [7]), ([4, 5, 0, 1, 2, 3, 4, 5, 6, 7, 8], [4, 5]), ([9, 8, 0, 1, 2, 3, 4, 5, 6, 7, 8], [8, 9])])
def steepleref27_Run.B31 : List Nat := [0, 0, 2, 7, 15, 0, 0, 64, 192, 511, 1023]
theorem steepleref27_Run.tab31 : rtab .any (opsOf Try.f29 31) = steepleref27_Run.T31 := by kernel_rfl
theorem steepleref27_Run.bits31 : waitsOk steepleref27_Run.T31.2 steepleref27_Run.B31 = true := by kernel_rfl
set_option maxHeartbeats 8000000 in
set_option maxRecDepth 100000 in
theorem steepleref27_Run.calls (k : Nat) (a0_0 : Int) (a0_1 : Int) (a0_2 : Int) (a0_3 : Int) (a0_4 : Int) (A0_5 : Option Addr) (c0_5 : Nat) (l0_5 : List (S106)) (A1 : Option Addr) (c1 : Nat) (l1 : List (List Int)) (r1 : List (List Int)) (r2 : Int) (w : World) (hr0_5 : Kd.C k106 w A0_5 l0_5.length l0_5) (hc0_5 : l0_5.length ≤ c0_5) (hr1 : Kd.C (Kd.slice 43 (Kd.int .u64)) w A1 l1.length l1) (hc1 : l1.length ≤ c1) (h : steepleref27_Run.f k a0_0 a0_1 a0_2 a0_3 a0_4 l0_5 l1 = some (r1, r2)) :
  Calls Try.prog 29 #[.agg #[.int .i64 a0_0, .int .i64 a0_1, .int .i64 a0_2, .int .i64 a0_3, .int .i64 a0_4, .slice A0_5 l0_5.length c0_5], .slice A1 l1.length c1] w fun e w' => ∃ v0_ : Value, e = .returned (.agg #[v0_, .int .i64 r2]) ∧ Kd.S (Kd.slice 43 (Kd.int .u64)) 68 w' w.heap.size (fun _ => True) v0_ r1 ∧ Below w.heap.size w w' := by
 have hu28 := Try.underlying28; have hu61 := Try.underlying61; have hu106 := Try.underlying106; have HR0_5 := Aside0.mk hr0_5; have HC0_5 := Aside0.mk hc0_5; clear hr0_5 hc0_5; have HR1 := Aside0.mk hr1; have HC1 := Aside0.mk hc1; clear hr1 hc1; have HB := Aside0.mk (Below.refl w.heap.size w)
 have H : ((steepleref25_Check.f k a0_0 a0_1 a0_2 a0_3 a0_4 l0_5).bind fun t284 => (if t284 = 0 then ((steepleref27_Fits.f k a0_0 a0_1 a0_2 a0_3 a0_4 l0_5 l1 (wrap64 (a0_3 + a0_4))).bind fun t286 => (if t286 = 0 then (steepleref27_Run.l0 k l1 ([] : List (List Int)) 0 a0_0 a0_1 a0_2 a0_3 a0_4 l0_5) else ((steepleref27_Fits.f k a0_0 a0_1 a0_2 a0_3 a0_4 l0_5 l1 (wrap64 (a0_3 + a0_4))).bind fun t287 => (some (([] : List (List Int)), t287))))) else ((steepleref25_Check.f k a0_0 a0_1 a0_2 a0_3 a0_4 l0_5).bind fun t285 => (some (([] : List (List Int)), t285))))) = some (r1, r2) := h
 clear h; replace H := Option.bind_eq_some_iff.mp H; obtain ⟨t284, A30, H⟩ := H
 replace H : (if t284 = 0 then ((steepleref27_Fits.f k a0_0 a0_1 a0_2 a0_3 a0_4 l0_5 l1 (wrap64 (a0_3 + a0_4))).bind fun t286 => (if t286 = 0 then (steepleref27_Run.l0 k l1 ([] : List (List Int)) 0 a0_0 a0_1 a0_2 a0_3 a0_4 l0_5) else ((steepleref27_Fits.f k a0_0 a0_1 a0_2 a0_3 a0_4 l0_5 l1 (wrap64 (a0_3 + a0_4))).bind fun t287 => (some (([] : List (List Int)), t287))))) else ((steepleref25_Check.f k a0_0 a0_1 a0_2 a0_3 a0_4 l0_5).bind fun t285 => (some (([] : List (List Int)), t285)))) = some (r1, r2) := H
 have A3 := Aside0.mk A30; clear A30
 by_cases c4 : t284 = 0
 ·rw [if_pos c4] at H
  have c4b0 : (t284 == 0) = true := beq_iff_eq.mpr c4; have c4b1 : (t284 != 0) = false := bne_eq_false_iff_eq.mpr c4; clear c4; replace H := Option.bind_eq_some_iff.mp H; obtain ⟨t286, A50, H⟩ := H
  replace H : (if t286 = 0 then (steepleref27_Run.l0 k l1 ([] : List (List Int)) 0 a0_0 a0_1 a0_2 a0_3 a0_4 l0_5) else ((steepleref27_Fits.f k a0_0 a0_1 a0_2 a0_3 a0_4 l0_5 l1 (wrap64 (a0_3 + a0_4))).bind fun t287 => (some (([] : List (List Int)), t287)))) = some (r1, r2) := H
  have A5 := Aside0.mk A50; clear A50
  by_cases c6 : t286 = 0
  ·rw [if_pos c6] at H
   have c6b0 : (t286 == 0) = true := beq_iff_eq.mpr c6; have c6b1 : (t286 != 0) = false := bne_eq_false_iff_eq.mpr c6; clear c6; have H' := Aside0.mk H; clear H
   go_enter Try.func29, Try.ntmps29
   go_wp2_with (first | ((with_reducible refine gate_dst (N := 2) rfl ?_); refine box_event ?hg (N := 2) ?hd (cs := #[.int .i64 a0_0, .int .i64 a0_1, .int .i64 a0_2, .int .i64 a0_3, .int .i64 a0_4, .slice A0_5 l0_5.length c0_5]) (t := 28) ?hr ?_; (case hd => rfl); (case hg => rfl); (case hr => first | (go_simp; done) | (go_simp; rfl)); intro gb282 hg w7 hbox hb; have n0_ := Aside0.mk (below_step (blA HB.out) hb); have n1_ := Aside0.mk (hbox); have n2_ := Aside0.mk ((by rw [hg]; exact (below_size (blA HB.out)) : w.heap.size ≤ gb282)); have n3_ := Aside0.mk ((by rw [hg]; exact (below_size (blA HB.out)) : w.heap.size ≤ gb282)); clear HB; have HB := n0_; have BK282 := n1_; have GW282 := n2_; have GE282 := n3_; clear n0_ n1_ n2_ n3_; clear hb hbox hg) | ((with_reducible refine gate_dst (N := 4) rfl ?_); refine box_event ?hg (N := 4) ?hd (cs := #[.slice none 0 0, .int .i64 0]) (t := 61) ?hr ?_; (case hd => rfl); (case hg => rfl); (case hr => first | (go_simp; done) | (go_simp; rfl)); intro gb283 hg w8 hbox hb; have n0_ := Aside0.mk (blk_below (bkA BK282.out) hb); have n1_ := Aside0.mk (below_step (blA HB.out) hb); have n2_ := Aside0.mk (hbox); have n3_ := Aside0.mk ((by rw [hg]; exact (below_size (blA HB.out)) : w.heap.size ≤ gb283)); have n4_ := Aside0.mk ((by rw [hg]; exact (below_size (blA HB.out)) : w.heap.size ≤ gb283)); have n5_ := Aside0.mk ((by rw [hg]; exact Nat.ne_of_lt (blk_lt (bkA BK282.out)) : gb282 ≠ gb283)); have n6_ := Aside0.mk ((by rw [hg]; exact Nat.ne_of_gt (blk_lt (bkA BK282.out)) : gb283 ≠ gb282)); clear BK282; clear HB; have BK282 := n0_; have HB := n1_; have BK283 := n2_; have GW283 := n3_; have GE283 := n4_; have NB282_283 := n5_; have NB283_282 := n6_; clear n0_ n1_ n2_ n3_ n4_ n5_ n6_; clear hb hbox hg; have hnb9 := NB282_283.out; have hnc9 := NB283_282.out; have hcz10 := fun i => blk_cell BK282.out i; have hfz10 := fun i => blk_frozen BK282.out i; ) | ((with_reducible refine gate_callee (f := 16) rfl ?_); refine goesL_ (some 15) rfl rfl Try.func16 (by kernel_rfl) rfl #[.agg #[.int .i64 a0_0, .int .i64 a0_1, .int .i64 a0_2, .int .i64 a0_3, .int .i64 a0_4, .slice A0_5 l0_5.length c0_5]] rfl gsA ?_; (with_reducible refine (steepleref25_Check.calls k a0_0 a0_1 a0_2 a0_3 a0_4 _ _ l0_5 t284 _ ?side1 ?side2 A3.out).mono ?_); (case side1 => repeat (first | exact (Kd.C_below HR0_5.out HB.out) | (with_reducible refine Kd.C_alloc ?_ _) | (with_reducible refine Kd.C_drewN ?_ _) | (with_reducible refine Kd.C_drew ?_))); (case side2 => exact HC0_5.out); rintro e w11 ⟨rfl, hb⟩; refine ⟨_, rfl, ?_⟩; have n0_ := Aside0.mk (blk_below (bkA BK282.out) hb); have n1_ := Aside0.mk (blk_below (bkA BK283.out) hb); have n2_ := Aside0.mk (below_step (blA HB.out) hb); clear BK282; clear BK283; clear HB; have BK282 := n0_; have BK283 := n1_; have HB := n2_; clear n0_ n1_ n2_; (try clear hb); have hcz12 := fun i => blk_cell BK282.out i; have hfz12 := fun i => blk_frozen BK282.out i; ) | ((with_reducible refine gate_callee (f := 40) rfl ?_); refine goesL_ (some 27) rfl rfl Try.func40 (by kernel_rfl) rfl #[.agg #[.int .i64 a0_0, .int .i64 a0_1, .int .i64 a0_2, .int .i64 a0_3, .int .i64 a0_4, .slice A0_5 l0_5.length c0_5], .slice A1 l1.length c1, .int .i64 (wrap64 (a0_3 + a0_4))] rfl gsA ?_; (with_reducible refine (steepleref27_Fits.calls k a0_0 a0_1 a0_2 a0_3 a0_4 _ _ l0_5 _ _ l1 (wrap64 (a0_3 + a0_4)) t286 _ ?side1 ?side2 ?side3 ?side4 A5.out).mono ?_); (case side1 => repeat (first | exact (Kd.C_below HR0_5.out HB.out) | (with_reducible refine Kd.C_alloc ?_ _) | (with_reducible refine Kd.C_drewN ?_ _) | (with_reducible refine Kd.C_drew ?_))); (case side2 => exact HC0_5.out); (case side3 => repeat (first | exact (Kd.C_below HR1.out HB.out) | (with_reducible refine Kd.C_alloc ?_ _) | (with_reducible refine Kd.C_drewN ?_ _) | (with_reducible refine Kd.C_drew ?_))); (case side4 => exact HC1.out); rintro e w13 ⟨rfl, hb⟩; refine ⟨_, rfl, ?_⟩; have n0_ := Aside0.mk (blk_below (bkA BK282.out) hb); have n1_ := Aside0.mk (blk_below (bkA BK283.out) hb); have n2_ := Aside0.mk (below_step (blA HB.out) hb); clear BK282; clear BK283; clear HB; have BK282 := n0_; have BK283 := n1_; have HB := n2_; clear n0_ n1_ n2_; (try clear hb)))
   go_loopg [5, 6] k (fun kq v5 v6 w' => ∃ (x5_1 : List (List Int)) (x6_1 : Int), v6 = .int .i64 x6_1 ∧ Aside0 (steepleref27_Run.l0 kq l1 x5_1 x6_1 a0_0 a0_1 a0_2 a0_3 a0_4 l0_5 = some (r1, r2)) ∧ Aside0 (kq ≤ k) ∧ Aside0 (Kd.S (Kd.slice 43 (Kd.int .u64)) 68 w' w.heap.size (fun _ => True) v5 x5_1) ∧ Aside0 (w'.heap[gb282]? = some (.cells #[.int .i64 a0_0, .int .i64 a0_1, .int .i64 a0_2, .int .i64 a0_3, .int .i64 a0_4, (.slice A0_5 l0_5.length c0_5)] 28 (0, 0))) ∧ Aside0 (w'.heap[gb283]? = some (.cells #[(.slice none 0 0), .int .i64 0] 61 (0, 0))) ∧ Aside0 (Below w.heap.size w w'))
   case atStart => exact ⟨(([] : List (List Int))), (0), eqA, H', ⟨Nat.le_refl _⟩, ⟨by first | exact Kd.S_nil _ _ _ _ _ | exact Kd.N_nil _ _ _ _ _ | exact Kd.V_nil _ _ _ _ _ | exact Kd.Q_nil _ _ _ _ _ | exact Kd.R_nil _ _ _ _ _⟩, ⟨bkA BK282.out⟩, ⟨bkA BK283.out⟩, ⟨blA HB.out⟩⟩
   case round =>
    clear H'; (try clear c1); (try clear c2); (try clear p2); (try clear c4); (try clear c4b0); (try clear c4b1); (try clear c6); (try clear c6b0); (try clear c6b1); (try clear p6); (try clear c9); (try clear hcz10); (try clear hcz12); (try clear hfz10); (try clear hfz12); obtain ⟨x5_1, x6_1, rfl, HA, HK1, HO_5, BK282, BK283, HB⟩ := hrel
    cases gk with
    | zero => exact absurd HA.out (by simp [steepleref27_Run.l0])
    | succ k1 =>
     have H := HA.out; clear HA
     simp only [steepleref27_Run.l0] at H
     replace H := Option.bind_eq_some_iff.mp H; obtain ⟨t288, A140, H⟩ := H
     replace H : (if x6_1 < t288 then (steepleref27_Run.l1 k1 l1 x5_1 x6_1 ([] : List Int) 0 a0_0 a0_1 a0_2 a0_3 a0_4 l0_5) else (steepleref27_Run.l2 k1 x5_1 0 a0_0 a0_1 a0_2 a0_3 a0_4 l0_5)) = some (r1, r2) := H
     have A14 := Aside0.mk A140; clear A140
     by_cases c15 : x6_1 < t288
     ·rw [if_pos c15] at H
      have c15b0 : decide (x6_1 < t288) = true := decide_eq_true c15; clear c15; have H' := Aside0.mk H; clear H; have hnb16 := NB282_283.out; have hnc16 := NB283_282.out
      have hcz17 := fun i => blk_cell BK282.out i
      have hfz17 := fun i => blk_frozen BK282.out i
      go_wp2_with (first | ((with_reducible refine gate_callee (f := 32) rfl ?_); refine goesL_ (some 41) rfl rfl Try.func32 (by kernel_rfl) rfl #[.int .i64 a0_2] rfl gsA ?_; (with_reducible refine (steepleref15_Two.calls k1 a0_2 t288 _ A14.out).mono ?_); rintro e w' ⟨rfl, ⟨nd, rfl⟩⟩; refine ⟨_, rfl, ?_⟩))
      go_loopg [7, 8] k1 (fun kq v7 v8 w' => ∃ (x7_2 : List Int) (x8_2 : Int), v8 = .int .i64 x8_2 ∧ Aside0 (steepleref27_Run.l1 kq l1 x5_1 x6_1 x7_2 x8_2 a0_0 a0_1 a0_2 a0_3 a0_4 l0_5 = some (r1, r2)) ∧ Aside0 (kq ≤ k1) ∧ Aside0 (Kd.S (Kd.slice 43 (Kd.int .u64)) 68 w' w.heap.size (fun k_ => some k_ ≠ (v7 : Value).ownBlock) u5 x5_1) ∧ Aside0 (Kd.R (Kd.int .u64) 43 w' w.heap.size (fun _ => True) v7 x7_2) ∧ Aside0 (w'.heap[gb282]? = some (.cells #[.int .i64 a0_0, .int .i64 a0_1, .int .i64 a0_2, .int .i64 a0_3, .int .i64 a0_4, (.slice A0_5 l0_5.length c0_5)] 28 (0, 0))) ∧ Aside0 (w'.heap[gb283]? = some (.cells #[(.slice none 0 0), .int .i64 0] 61 (0, 0))) ∧ Aside0 (Below w.heap.size w w'))
      case atStart => exact ⟨(([] : List Int)), (0), eqA, H', ⟨Nat.le_refl _⟩, ⟨by (with_reducible repeat (first | apply Kd.S_alloc | apply Kd.S_drewN | apply Kd.S_drew)); exact Kd.S_mono HO_5.out (fun _ hk => (by simp [Value.ownBlock]))⟩, ⟨by first | exact Kd.R_nil _ _ _ _ _ | exact Kd.N_nil _ _ _ _ _ | exact Kd.V_nil _ _ _ _ _ | exact Kd.Q_nil _ _ _ _ _ | exact Kd.S_nil _ _ _ _ _⟩, ⟨bkA BK282.out⟩, ⟨bkA BK283.out⟩, ⟨blA HB.out⟩⟩
      case round =>
       clear H'; (try clear c1); (try clear c2); (try clear p2); (try clear c3); (try clear c4); (try clear c4b0); (try clear c4b1); (try clear c6); (try clear c6b0); (try clear c6b1); (try clear p6); (try clear c9); (try clear c15); (try clear c15b0); (try clear c16); (try clear hcz10); (try clear hcz12); (try clear hcz17); (try clear hfz10); (try clear hfz12); (try clear hfz17); (try clear p2); (try clear p6); obtain ⟨x7_2, x8_2, rfl, HA, HK2, HO_5, HO_7, BK282, BK283, HB⟩ := hrel
       cases gk with
       | zero => exact absurd HA.out (by simp [steepleref27_Run.l1])
       | succ k2 =>
        have H := HA.out; clear HA
        simp only [steepleref27_Run.l1] at H
        replace H := Option.bind_eq_some_iff.mp H; obtain ⟨t289, A180, H⟩ := H
        replace H : (if x8_2 < t289 then (if x6_1 < (l1.length : Int) then (if 0 ≤ x6_1 then (if 0 ≤ x8_2 then (if x8_2 < ((rd_L4 l1 x6_1).length : Int) then (if x7_2.length < 17592186044416 then (steepleref27_Run.l1 k2 l1 x5_1 x6_1 (x7_2 ++ [rd (rd_L4 l1 x6_1) x8_2]) (wrap64 (x8_2 + 1)) a0_0 a0_1 a0_2 a0_3 a0_4 l0_5) else (none)) else (none)) else (none)) else (none)) else (if x7_2.length < 17592186044416 then (steepleref27_Run.l1 k2 l1 x5_1 x6_1 (x7_2 ++ [0]) (wrap64 (x8_2 + 1)) a0_0 a0_1 a0_2 a0_3 a0_4 l0_5) else (none))) else (if x5_1.length < 5864062014805 then (steepleref27_Run.l0 k2 l1 (x5_1 ++ [x7_2]) (wrap64 (x6_1 + 1)) a0_0 a0_1 a0_2 a0_3 a0_4 l0_5) else (none))) = some (r1, r2) := H
        have A18 := Aside0.mk A180; clear A180
        by_cases c19 : x8_2 < t289
        ·rw [if_pos c19] at H
         have c19b0 : decide (x8_2 < t289) = true := decide_eq_true c19; clear c19
         by_cases c20 : x6_1 < (l1.length : Int)
         ·rw [if_pos c20] at H
          have c20b0 : decide (x6_1 < (l1.length : Int)) = true := decide_eq_true c20; clear c20
          by_cases c21 : 0 ≤ x6_1
          ·rw [if_pos c21] at H
           have c21b0 : decide (0 ≤ x6_1) = true := decide_eq_true c21; clear c21
           by_cases c22 : 0 ≤ x8_2
           ·rw [if_pos c22] at H
            have c22b0 : decide (0 ≤ x8_2) = true := decide_eq_true c22; clear c22
            by_cases c23 : x8_2 < ((rd_L4 l1 x6_1).length : Int)
            ·rw [if_pos c23] at H
             have c23b0 : decide (x8_2 < ((rd_L4 l1 x6_1).length : Int)) = true := decide_eq_true c23; clear c23
             by_cases c24 : x7_2.length < 17592186044416
             ·rw [if_pos c24] at H
              have LMc24 := Aside0.mk c24; clear c24
              obtain ⟨y292, hy292⟩ : ∃ y_ : List Int, y_ = (x7_2 ++ [rd (rd_L4 l1 x6_1) x8_2]) := ⟨_, rfl⟩
              replace H : (steepleref27_Run.l1 k2 l1 x5_1 x6_1 y292 (wrap64 (x8_2 + 1)) a0_0 a0_1 a0_2 a0_3 a0_4 l0_5) = some (r1, r2) := by first | (rw [hy292]; with_reducible exact H) | (have H2_ := (Option.bind_some _ _).symm.trans H; rw [hy292]; with_reducible exact H2_) | (have H2_ := (Option.bind_some _ _).symm.trans H; with_reducible exact H2_) | with_reducible exact H | (rw [hy292]; exact H) | exact H
              have Ny292 := Aside0.mk hy292; clear hy292; have H' := Aside0.mk H; clear H; have hnb25 := NB282_283.out; have hnc25 := NB283_282.out
              have hcz26 := fun i => blk_cell BK282.out i
              have hfz26 := fun i => blk_frozen BK282.out i
              go_wp2_with (first | ((with_reducible refine gate_callee (f := 32) rfl ?_); refine goesL_ (some 48) rfl rfl Try.func32 (by kernel_rfl) rfl #[.int .i64 a0_1] rfl gsA ?_; (with_reducible refine (steepleref15_Two.calls k2 a0_1 t289 _ A18.out).mono ?_); rintro e w' ⟨rfl, ⟨nd, rfl⟩⟩; refine ⟨_, rfl, ?_⟩; have p290 : 0 ≤ (x6_1 : Int) := of_decide_eq_true (by first | (with_reducible assumption) | assumption); have q290 : x6_1 < (l1.length : Int) := of_decide_eq_true (by first | (with_reducible assumption) | assumption); obtain ⟨ad290, A290_0, c290_0, e290, hx290_0, hl290_0, hi290_0⟩ := at_L4 HR1.out x6_1 p290 q290; cases e290; replace hx290_0 := (HB.out.cell (World.block_lt_of_cell? w _ hx290_0)).trans hx290_0; have HR290_0 := Aside0.mk hi290_0; have HC290_0 := Aside0.mk hl290_0; clear hi290_0 hl290_0; replace p290 := eq_true p290; replace q290 := eq_true q290; have p291 : 0 ≤ (x8_2 : Int) := of_decide_eq_true (by first | (with_reducible assumption) | assumption); have q291 : x8_2 < ((rd_L4 l1 x6_1).length : Int) := of_decide_eq_true (by first | (with_reducible assumption) | assumption); obtain ⟨ad291, e291, hx291_0⟩ := Kd.at_int HR290_0.out x8_2 p291 q291; cases e291; replace hx291_0 := (HB.out.cell (World.block_lt_of_cell? w _ hx291_0)).trans hx291_0; replace p291 := eq_true p291; replace q291 := eq_true q291) | ((with_reducible refine gate_builtin (b := .append) (xs := #[.tmp 63, .tmp 65]) rfl ?_); at_builtin; refine Kd.R_append (Kd.int .u64) (w0 := w) w.heap.size rfl (.tmp 63) (.tmp 65) 68 43 (.int .u64 0) 8 rfl Try.underlying68 info43 rfl (by decide) (by omega) u7 x7_2 (rd (rd_L4 l1 x6_1) x8_2) [.int .u64 (rd (rd_L4 l1 x6_1) x8_2)] (fun _ => True) (fun _ => False) rfl rfl ?aP (fun _ hk => hk.elim) ?aF ?aO ?aB ?aS ?aL ?_; (case aP => exact rfl); (case aB => exact (blA HB.out)); (case aF => exact (fun _ _ => trivial)); (case aO => exact (raA HO_7.out)); (case aS => exact (below_size (blA HB.out))); (case aL => have := LMc24.out; omega); intro v293 w27 ho hb hg hat; rw [← Ny292.out] at ho; have n0_ := Aside0.mk (Kd.S_after (ok := (fun _ => True)) (by (with_reducible repeat (first | apply Kd.S_alloc | apply Kd.S_drewN | apply Kd.S_drew)); exact Kd.S_mono HO_5.out (fun _ hk => ⟨trivial, hk⟩)) hg hat); have n1_ := Aside0.mk (blk_grown (bkA BK282.out) hg (Kd.R_ne HO_7.out BK282.out (by decide))); have n2_ := Aside0.mk (blk_grown (bkA BK283.out) hg (Kd.R_ne HO_7.out BK283.out (by decide))); have n3_ := Aside0.mk (hb); have n4_ := Aside0.mk (ho); clear HO_5; clear BK282; clear BK283; clear HB; clear HO_7; have HO_5 := n0_; have BK282 := n1_; have BK283 := n2_; have HB := n3_; have HO294 := n4_; clear n0_ n1_ n2_ n3_ n4_; clear ho hb hg hat))
              go_roundg k2
              case measure => have := HK1.out; have := HK2.out; omega
              case rel => exact ⟨(y292), (wrap64 (x8_2 + 1)), eqA, H', ⟨by have := HK1.out; have := HK2.out; omega⟩, ⟨by (with_reducible repeat (first | apply Kd.S_alloc | apply Kd.S_drewN | apply Kd.S_drew)); exact Kd.S_mono HO_5.out (fun _ hk => hk.2)⟩, ⟨raA HO294.out⟩, ⟨bkA BK282.out⟩, ⟨bkA BK283.out⟩, ⟨blA HB.out⟩⟩
             ·rw [if_neg c24] at H
              exact absurd H (by simp)
            ·rw [if_neg c23] at H
             exact absurd H (by simp)
           ·rw [if_neg c22] at H
            exact absurd H (by simp)
          ·rw [if_neg c21] at H
           exact absurd H (by simp)
         ·rw [if_neg c20] at H
          have c20b0 : decide (x6_1 < (l1.length : Int)) = false := decide_eq_false c20; clear c20
          by_cases c28 : x7_2.length < 17592186044416
          ·rw [if_pos c28] at H
           have LMc28 := Aside0.mk c28; clear c28
           obtain ⟨y295, hy295⟩ : ∃ y_ : List Int, y_ = (x7_2 ++ [0]) := ⟨_, rfl⟩
           replace H : (steepleref27_Run.l1 k2 l1 x5_1 x6_1 y295 (wrap64 (x8_2 + 1)) a0_0 a0_1 a0_2 a0_3 a0_4 l0_5) = some (r1, r2) := by first | (rw [hy295]; with_reducible exact H) | (have H2_ := (Option.bind_some _ _).symm.trans H; rw [hy295]; with_reducible exact H2_) | (have H2_ := (Option.bind_some _ _).symm.trans H; with_reducible exact H2_) | with_reducible exact H | (rw [hy295]; exact H) | exact H
           have Ny295 := Aside0.mk hy295; clear hy295; have H' := Aside0.mk H; clear H; have hnb29 := NB282_283.out; have hnc29 := NB283_282.out
           have hcz30 := fun i => blk_cell BK282.out i
           have hfz30 := fun i => blk_frozen BK282.out i
           go_wp2_with (first | ((with_reducible refine gate_callee (f := 32) rfl ?_); refine goesL_ (some 48) rfl rfl Try.func32 (by kernel_rfl) rfl #[.int .i64 a0_1] rfl gsA ?_; (with_reducible refine (steepleref15_Two.calls k2 a0_1 t289 _ A18.out).mono ?_); rintro e w' ⟨rfl, ⟨nd, rfl⟩⟩; refine ⟨_, rfl, ?_⟩) | ((with_reducible refine gate_builtin (b := .append) (xs := #[.tmp 63, .tmp 65]) rfl ?_); at_builtin; refine Kd.R_append (Kd.int .u64) (w0 := w) w.heap.size rfl (.tmp 63) (.tmp 65) 68 43 (.int .u64 0) 8 rfl Try.underlying68 info43 rfl (by decide) (by omega) u7 x7_2 0 [.int .u64 0] (fun _ => True) (fun _ => False) rfl rfl ?aP (fun _ hk => hk.elim) ?aF ?aO ?aB ?aS ?aL ?_; (case aP => exact rfl); (case aB => exact (blA HB.out)); (case aF => exact (fun _ _ => trivial)); (case aO => exact (raA HO_7.out)); (case aS => exact (below_size (blA HB.out))); (case aL => have := LMc28.out; omega); intro v296 w31 ho hb hg hat; rw [← Ny295.out] at ho; have n0_ := Aside0.mk (Kd.S_after (ok := (fun _ => True)) (by (with_reducible repeat (first | apply Kd.S_alloc | apply Kd.S_drewN | apply Kd.S_drew)); exact Kd.S_mono HO_5.out (fun _ hk => ⟨trivial, hk⟩)) hg hat); have n1_ := Aside0.mk (blk_grown (bkA BK282.out) hg (Kd.R_ne HO_7.out BK282.out (by decide))); have n2_ := Aside0.mk (blk_grown (bkA BK283.out) hg (Kd.R_ne HO_7.out BK283.out (by decide))); have n3_ := Aside0.mk (hb); have n4_ := Aside0.mk (ho); clear HO_5; clear BK282; clear BK283; clear HB; clear HO_7; have HO_5 := n0_; have BK282 := n1_; have BK283 := n2_; have HB := n3_; have HO297 := n4_; clear n0_ n1_ n2_ n3_ n4_; clear ho hb hg hat))
           go_roundg k2
           case measure => have := HK1.out; have := HK2.out; omega
           case rel => exact ⟨(y295), (wrap64 (x8_2 + 1)), eqA, H', ⟨by have := HK1.out; have := HK2.out; omega⟩, ⟨by (with_reducible repeat (first | apply Kd.S_alloc | apply Kd.S_drewN | apply Kd.S_drew)); exact Kd.S_mono HO_5.out (fun _ hk => hk.2)⟩, ⟨raA HO297.out⟩, ⟨bkA BK282.out⟩, ⟨bkA BK283.out⟩, ⟨blA HB.out⟩⟩
          ·rw [if_neg c28] at H
           exact absurd H (by simp)
        ·rw [if_neg c19] at H
         have c19b0 : decide (x8_2 < t289) = false := decide_eq_false c19; clear c19
         by_cases c32 : x5_1.length < 5864062014805
         ·rw [if_pos c32] at H
          have LMc32 := Aside0.mk c32; clear c32
          obtain ⟨y298, hy298⟩ : ∃ y_ : List (List Int), y_ = (x5_1 ++ [x7_2]) := ⟨_, rfl⟩
          replace H : (steepleref27_Run.l0 k2 l1 y298 (wrap64 (x6_1 + 1)) a0_0 a0_1 a0_2 a0_3 a0_4 l0_5) = some (r1, r2) := by first | (rw [hy298]; with_reducible exact H) | (have H2_ := (Option.bind_some _ _).symm.trans H; rw [hy298]; with_reducible exact H2_) | (have H2_ := (Option.bind_some _ _).symm.trans H; with_reducible exact H2_) | with_reducible exact H | (rw [hy298]; exact H) | exact H
          have Ny298 := Aside0.mk hy298; clear hy298; have H' := Aside0.mk H; clear H; have hnb33 := NB282_283.out; have hnc33 := NB283_282.out
          have hcz34 := fun i => blk_cell BK282.out i
          have hfz34 := fun i => blk_frozen BK282.out i
          go_wp2_with (first | ((with_reducible refine gate_callee (f := 32) rfl ?_); refine goesL_ (some 48) rfl rfl Try.func32 (by kernel_rfl) rfl #[.int .i64 a0_1] rfl gsA ?_; (with_reducible refine (steepleref15_Two.calls k2 a0_1 t289 _ A18.out).mono ?_); rintro e w' ⟨rfl, ⟨nd, rfl⟩⟩; refine ⟨_, rfl, ?_⟩; obtain ⟨Ao36, co36, eo36⟩ := Kd.R_slice HO_7.out; subst eo36) | ((with_reducible refine gate_builtin (b := .append) (xs := #[.tmp 67, .tmp 69]) rfl ?_); at_builtin; refine Kd.S_append (Kd.slice 43 (Kd.int .u64)) (w0 := w) w.heap.size rfl (.tmp 67) (.tmp 69) 56 68 (.slice none 0 0) 24 rfl Try.underlying56 info68 rfl (by decide) (by omega) u5 x5_1 x7_2 [.slice Ao36 x7_2.length co36] (fun _ => True) (fun k_ => some k_ = (.slice Ao36 x7_2.length co36 : Value).ownBlock) rfl rfl ?aP (fun k_ hk_ => ((Kd.R_mono (ok' := fun k_ => ((fun _ => True)) k_ ∧ some k_ ≠ (u5 : Value).ownBlock) (Kd.R_apart' (HO_7.out) (Kd.S_typed HO_5.out) (by decide)) (fun k_ hk => ⟨trivial, hk.2⟩))).1 k_ hk_.symm) ?aF ?aO ?aB ?aS ?aL ?_; (case aP => exact Kd.M_row (Kd.R_mono (Kd.R_tight rfl (Kd.R_mono (ok' := fun k_ => ((fun _ => True)) k_ ∧ some k_ ≠ (u5 : Value).ownBlock) (Kd.R_apart' (HO_7.out) (Kd.S_typed HO_5.out) (by decide)) (fun k_ hk => ⟨trivial, hk.2⟩))) (fun _ h_ => h_))); (case aB => exact (blA HB.out)); (case aF => exact (fun _ _ => trivial)); (case aO => exact (by (with_reducible repeat (first | apply Kd.S_alloc | apply Kd.S_drewN | apply Kd.S_drew)); exact Kd.S_mono HO_5.out (fun k_ hk => ⟨trivial, fun e_ => hk e_⟩))); (case aS => exact (below_size (blA HB.out))); (case aL => have := LMc32.out; omega); intro v299 w35 ho hb hg hat; rw [← Ny298.out] at ho; have n0_ := Aside0.mk (blk_grown (bkA BK282.out) hg (Kd.S_ne HO_5.out BK282.out (by decide))); have n1_ := Aside0.mk (blk_grown (bkA BK283.out) hg (Kd.S_ne HO_5.out BK283.out (by decide))); have n2_ := Aside0.mk (hb); have n3_ := Aside0.mk (ho); clear BK282; clear BK283; clear HB; clear HO_5; clear HO_7; have BK282 := n0_; have BK283 := n1_; have HB := n2_; have HO300 := n3_; clear n0_ n1_ n2_ n3_; clear ho hb hg hat))
          go_roundg k2
          case measure => have := HK1.out; have := HK2.out; omega
          case rel => exact ⟨(y298), (wrap64 (x6_1 + 1)), eqA, H', ⟨by have := HK1.out; have := HK2.out; omega⟩, ⟨by (with_reducible repeat (first | apply Kd.S_alloc | apply Kd.S_drewN | apply Kd.S_drew)); exact HO300.out⟩, ⟨bkA BK282.out⟩, ⟨bkA BK283.out⟩, ⟨blA HB.out⟩⟩
         ·rw [if_neg c32] at H
          exact absurd H (by simp)
     ·rw [if_neg c15] at H
      have c15b0 : decide (x6_1 < t288) = false := decide_eq_false c15; clear c15; have H' := Aside0.mk H; clear H; have hnb37 := NB282_283.out; have hnc37 := NB283_282.out
      have hcz38 := fun i => blk_cell BK282.out i
      have hfz38 := fun i => blk_frozen BK282.out i
      go_wp2_with (first | ((with_reducible refine gate_callee (f := 32) rfl ?_); refine goesL_ (some 41) rfl rfl Try.func32 (by kernel_rfl) rfl #[.int .i64 a0_2] rfl gsA ?_; (with_reducible refine (steepleref15_Two.calls k1 a0_2 t288 _ A14.out).mono ?_); rintro e w' ⟨rfl, ⟨nd, rfl⟩⟩; refine ⟨_, rfl, ?_⟩))
      go_loopg [10] k1 (fun kq v10 w' => ∃ (x5_2 : List (List Int)) (x10_2 : Int) (x284001_2 : Int), v10 = .int .i64 x10_2 ∧ Aside0 (steepleref27_Run.l2 kq x5_2 x10_2 a0_0 a0_1 a0_2 a0_3 a0_4 l0_5 = some (r1, r2)) ∧ Aside0 (kq ≤ k1) ∧ Aside0 (Kd.S (Kd.slice 43 (Kd.int .u64)) 68 w' w.heap.size (fun _ => True) u5 x5_2) ∧ Aside0 (w'.heap[gb282]? = some (.cells #[.int .i64 a0_0, .int .i64 a0_1, .int .i64 a0_2, .int .i64 a0_3, .int .i64 a0_4, (.slice A0_5 l0_5.length c0_5)] 28 (0, 0))) ∧ Aside0 (w'.heap[gb283]? = some (.cells #[(.slice none 0 0), .int .i64 x284001_2] 61 (0, 0))) ∧ Aside0 (Below w.heap.size w w'))
      case atStart => exact ⟨(x5_1), (0), (0), eqA, H', ⟨Nat.le_refl _⟩, ⟨by (with_reducible repeat (first | apply Kd.S_alloc | apply Kd.S_drewN | apply Kd.S_drew)); exact HO_5.out⟩, ⟨bkA BK282.out⟩, ⟨bkA BK283.out⟩, ⟨blA HB.out⟩⟩
      case round =>
       clear H'; (try clear c1); (try clear c2); (try clear p2); (try clear q2); (try clear hx2); (try clear c3); (try clear c4); (try clear c4b0); (try clear c4b1); (try clear c6); (try clear c6b0); (try clear c6b1); (try clear p6); (try clear c9); (try clear c15); (try clear c15b0); (try clear c16); (try clear c19); (try clear c19b0); (try clear c20); (try clear c20b0); (try clear c21); (try clear c21b0); (try clear c22); (try clear c22b0); (try clear c23); (try clear c23b0); (try clear c24); (try clear c25); (try clear c28); (try clear c29); (try clear p29); (try clear q29); (try clear hx29); (try clear c32); (try clear c33); (try clear c37); (try clear hcz10); (try clear hcz12); (try clear hcz17); (try clear hcz26); (try clear hcz30); (try clear hcz34); (try clear hcz38); (try clear hfz10); (try clear hfz12); (try clear hfz17); (try clear hfz26); (try clear hfz30); (try clear hfz34); (try clear hfz38); (try clear hx290_0); (try clear hx291_0); (try clear p2); (try clear p290); (try clear p291); (try clear p6); (try clear q290); (try clear q291); obtain ⟨x5_2, x10_2, x284001_2, rfl, HA, HK2, HO_5, BK282, BK283, HB⟩ := hrel
       cases gk with
       | zero => exact absurd HA.out (by simp [steepleref27_Run.l2])
       | succ k2 =>
        have H := HA.out; clear HA
        simp only [steepleref27_Run.l2] at H
        by_cases c39 : x10_2 < (l0_5.length : Int)
        ·rw [if_pos c39] at H
         have c39b0 : decide (x10_2 < (l0_5.length : Int)) = true := decide_eq_true c39; clear c39
         by_cases c40 : 0 ≤ x10_2
         ·rw [if_pos c40] at H
          have c40b0 : decide (0 ≤ x10_2) = true := decide_eq_true c40; clear c40; have H' := Aside0.mk H; clear H; have hnb41 := NB282_283.out; have hnc41 := NB283_282.out
          have hcz42 := fun i => blk_cell BK282.out i
          have hfz42 := fun i => blk_frozen BK282.out i
          have p301 : 0 ≤ (x10_2 : Int) := of_decide_eq_true (by first | (with_reducible assumption) | assumption)
          have q301 : x10_2 < (l0_5.length : Int) := of_decide_eq_true (by first | (with_reducible assumption) | assumption)
          obtain ⟨ad301, e301, hx301_0, hx301_1, hx301_2, hx301_3, hx301_4⟩ := at_T106 HR0_5.out x10_2 p301 q301
          cases e301
          replace hx301_0 := (HB.out.cell (World.block_lt_of_cell? w _ hx301_0)).trans hx301_0; replace hx301_1 := (HB.out.cell (World.block_lt_of_cell? w _ hx301_1)).trans hx301_1; replace hx301_2 := (HB.out.cell (World.block_lt_of_cell? w _ hx301_2)).trans hx301_2; replace hx301_3 := (HB.out.cell (World.block_lt_of_cell? w _ hx301_3)).trans hx301_3; replace hx301_4 := (HB.out.cell (World.block_lt_of_cell? w _ hx301_4)).trans hx301_4; replace p301 := eq_true p301; replace q301 := eq_true q301
          go_wp2_with (first | ((with_reducible refine gate_dst (N := 11) rfl ?_); refine box_event ?hg (N := 11) ?hd (cs := #[.int .i64 0, .int .i64 0, .int .i64 0, .int .i64 0, .int .i64 0]) (t := 106) ?hr ?_; (case hd => rfl); (case hg => rfl); (case hr => first | (go_simp; done) | (go_simp; rfl)); intro gb302 hg w43 hbox hb; have n0_ := Aside0.mk (Kd.S_below (by (with_reducible repeat (first | apply Kd.S_alloc | apply Kd.S_drewN | apply Kd.S_drew)); exact HO_5.out) hb); have n1_ := Aside0.mk (blk_below (bkA BK282.out) hb); have n2_ := Aside0.mk (blk_below (bkA BK283.out) hb); have n3_ := Aside0.mk (below_step (blA HB.out) hb); have n4_ := Aside0.mk (hbox); have n5_ := Aside0.mk ((by rw [hg]; exact (below_size (blA HB.out)) : w.heap.size ≤ gb302)); have n6_ := Aside0.mk ((by rw [hg]; exact (below_size (blA HB.out)) : w.heap.size ≤ gb302)); have n7_ := Aside0.mk ((by rw [hg]; exact Nat.ne_of_lt (blk_lt (bkA BK282.out)) : gb282 ≠ gb302)); have n8_ := Aside0.mk ((by rw [hg]; exact Nat.ne_of_gt (blk_lt (bkA BK282.out)) : gb302 ≠ gb282)); have n9_ := Aside0.mk ((by rw [hg]; exact Nat.ne_of_lt (blk_lt (bkA BK283.out)) : gb283 ≠ gb302)); have n10_ := Aside0.mk ((by rw [hg]; exact Nat.ne_of_gt (blk_lt (bkA BK283.out)) : gb302 ≠ gb283)); clear HO_5; clear BK282; clear BK283; clear HB; have HO_5 := n0_; have BK282 := n1_; have BK283 := n2_; have HB := n3_; have BK302 := n4_; have GW302 := n5_; have GE302 := n6_; have NB282_302 := n7_; have NB302_282 := n8_; have NB283_302 := n9_; have NB302_283 := n10_; clear n0_ n1_ n2_ n3_ n4_ n5_ n6_ n7_ n8_ n9_ n10_; clear hb hbox hg; have hnb44 := NB302_282.out; have hnc44 := NB282_302.out; have hnb45 := NB302_283.out; have hnc45 := NB283_302.out; have hcz46 := fun i => blk_cell BK302.out i; have hfz46 := fun i => blk_frozen BK302.out i; ))
          go_loopg [12] k2 (fun kq v12 w' => ∃ (x5_3 : List (List Int)) (x12_3 : Int) (x284001_3 : Int), v12 = .int .i64 x12_3 ∧ Aside0 (steepleref27_Run.l3 kq x5_3 x10_2 x12_3 a0_0 a0_1 a0_2 a0_3 a0_4 l0_5 ((rd_T106 l0_5 x10_2).f0) ((rd_T106 l0_5 x10_2).f1) ((rd_T106 l0_5 x10_2).f2) ((rd_T106 l0_5 x10_2).f3) ((rd_T106 l0_5 x10_2).f4) = some (r1, r2)) ∧ Aside0 (kq ≤ k2) ∧ Aside0 (Kd.S (Kd.slice 43 (Kd.int .u64)) 68 w' w.heap.size (fun _ => True) u5 x5_3) ∧ Aside0 (w'.heap[gb282]? = some (.cells #[.int .i64 a0_0, .int .i64 a0_1, .int .i64 a0_2, .int .i64 a0_3, .int .i64 a0_4, (.slice (some ad301) l0_5.length c0_5)] 28 (0, 0))) ∧ Aside0 (w'.heap[gb283]? = some (.cells #[(.slice none 0 0), .int .i64 x284001_3] 61 (0, 0))) ∧ Aside0 (w'.heap[gb302]? = some (.cells #[.int .i64 ((rd_T106 l0_5 x10_2).f0), .int .i64 ((rd_T106 l0_5 x10_2).f1), .int .i64 ((rd_T106 l0_5 x10_2).f2), .int .i64 ((rd_T106 l0_5 x10_2).f3), .int .i64 ((rd_T106 l0_5 x10_2).f4)] 106 (0, 0))) ∧ Aside0 (Below w.heap.size w w'))
          case atStart => exact ⟨(x5_2), (0), (x284001_2), eqA, H', ⟨Nat.le_refl _⟩, ⟨by (with_reducible repeat (first | apply Kd.S_alloc | apply Kd.S_drewN | apply Kd.S_drew)); exact Kd.S_mono (Kd.S_far (p := ⟨gb302, 4, none⟩) (Kd.S_far (p := ⟨gb302, 3, none⟩) (Kd.S_far (p := ⟨gb302, 2, none⟩) (Kd.S_far (p := ⟨gb302, 1, none⟩) (Kd.S_far (p := ⟨gb302, 0, none⟩) (Kd.S_types HO_5.out BK302.out (by decide)) (fun _ hk => hk.2) (.int .i64 ((rd_T106 l0_5 x10_2).f0))) (fun _ hk => hk.2) (.int .i64 ((rd_T106 l0_5 x10_2).f1))) (fun _ hk => hk.2) (.int .i64 ((rd_T106 l0_5 x10_2).f2))) (fun _ hk => hk.2) (.int .i64 ((rd_T106 l0_5 x10_2).f3))) (fun _ hk => hk.2) (.int .i64 ((rd_T106 l0_5 x10_2).f4))) (fun _ hk => trivial)⟩, ⟨by refine bkA ?_; refine blk_far ?_ NB282_302.out _; refine bkA ?_; refine blk_far ?_ NB282_302.out _; refine bkA ?_; refine blk_far ?_ NB282_302.out _; refine bkA ?_; refine blk_far ?_ NB282_302.out _; refine bkA ?_; refine blk_far ?_ NB282_302.out _; refine bkA ?_; exact BK282.out⟩, ⟨by refine bkA ?_; refine blk_far ?_ NB283_302.out _; refine bkA ?_; refine blk_far ?_ NB283_302.out _; refine bkA ?_; refine blk_far ?_ NB283_302.out _; refine bkA ?_; refine blk_far ?_ NB283_302.out _; refine bkA ?_; refine blk_far ?_ NB283_302.out _; refine bkA ?_; exact BK283.out⟩, ⟨by refine bkA ?_; refine blk_put (cs := #[.int .i64 ((rd_T106 l0_5 x10_2).f0), .int .i64 ((rd_T106 l0_5 x10_2).f1), .int .i64 ((rd_T106 l0_5 x10_2).f2), .int .i64 ((rd_T106 l0_5 x10_2).f3), .int .i64 0]) ?_ 4 _ rfl; refine bkA ?_; refine blk_put (cs := #[.int .i64 ((rd_T106 l0_5 x10_2).f0), .int .i64 ((rd_T106 l0_5 x10_2).f1), .int .i64 ((rd_T106 l0_5 x10_2).f2), .int .i64 0, .int .i64 0]) ?_ 3 _ rfl; refine bkA ?_; refine blk_put (cs := #[.int .i64 ((rd_T106 l0_5 x10_2).f0), .int .i64 ((rd_T106 l0_5 x10_2).f1), .int .i64 0, .int .i64 0, .int .i64 0]) ?_ 2 _ rfl; refine bkA ?_; refine blk_put (cs := #[.int .i64 ((rd_T106 l0_5 x10_2).f0), .int .i64 0, .int .i64 0, .int .i64 0, .int .i64 0]) ?_ 1 _ rfl; refine bkA ?_; refine blk_put (cs := #[.int .i64 0, .int .i64 0, .int .i64 0, .int .i64 0, .int .i64 0]) ?_ 0 _ rfl; refine bkA ?_; exact BK302.out⟩, ⟨blA HB.out⟩⟩
          case round =>
           clear H'; (try clear c1); (try clear c2); (try clear p2); (try clear q2); (try clear hx2); (try clear c3); (try clear p3); (try clear q3); (try clear hx3); (try clear c4); (try clear c4b0); (try clear c4b1); (try clear c6); (try clear c6b0); (try clear c6b1); (try clear p6); (try clear c9); (try clear c15); (try clear c15b0); (try clear c16); (try clear c19); (try clear c19b0); (try clear c20); (try clear c20b0); (try clear c21); (try clear c21b0); (try clear c22); (try clear c22b0); (try clear c23); (try clear c23b0); (try clear c24); (try clear c25); (try clear c28); (try clear c29); (try clear p29); (try clear q29); (try clear hx29); (try clear p30); (try clear q30); (try clear hx30); (try clear c32); (try clear c33); (try clear c37); (try clear c39); (try clear c39b0); (try clear c40); (try clear c40b0); (try clear c41); (try clear c44); (try clear c45); (try clear hcz10); (try clear hcz12); (try clear hcz17); (try clear hcz26); (try clear hcz30); (try clear hcz34); (try clear hcz38); (try clear hcz42); (try clear hcz46); (try clear hfz10); (try clear hfz12); (try clear hfz17); (try clear hfz26); (try clear hfz30); (try clear hfz34); (try clear hfz38); (try clear hfz42); (try clear hfz46); (try clear hx290_0); (try clear hx291_0); (try clear hx301_0); (try clear hx301_1); (try clear hx301_2); (try clear hx301_3); (try clear hx301_4); (try clear p2); (try clear p29); (try clear p290); (try clear p291); (try clear p301); (try clear p6); (try clear q2); (try clear q29); (try clear q290); (try clear q291); (try clear q301); obtain ⟨x5_3, x12_3, x284001_3, rfl, HA, HK3, HO_5, BK282, BK283, BK302, HB⟩ := hrel
           cases gk with
           | zero => exact absurd HA.out (by simp [steepleref27_Run.l3])
           | succ k3 =>
            have H := HA.out; clear HA
            simp only [steepleref27_Run.l3] at H
            replace H := Option.bind_eq_some_iff.mp H; obtain ⟨t303, A470, H⟩ := H
            replace H : (if x12_3 < t303 then (if ((rd_T106 l0_5 x10_2).f0) = 8 then (if 0 ≤ ((rd_T106 l0_5 x10_2).f2) then (if ((rd_T106 l0_5 x10_2).f2) < (x5_3.length : Int) then (if 0 ≤ x12_3 then (if x12_3 < ((rd_L4 x5_3 ((rd_T106 l0_5 x10_2).f2)).length : Int) then (if 0 ≤ ((rd_T106 l0_5 x10_2).f3) then (if ((rd_T106 l0_5 x10_2).f3) < (x5_3.length : Int) then (if x12_3 < ((rd_L4 x5_3 ((rd_T106 l0_5 x10_2).f3)).length : Int) then (steepleref27_Run.j4 k3 x5_3 x10_2 x12_3 ((rd (rd_L4 x5_3 ((rd_T106 l0_5 x10_2).f2)) x12_3) != (rd (rd_L4 x5_3 ((rd_T106 l0_5 x10_2).f3)) x12_3)) a0_0 a0_1 a0_2 a0_3 a0_4 l0_5 ((rd_T106 l0_5 x10_2).f0) ((rd_T106 l0_5 x10_2).f1) ((rd_T106 l0_5 x10_2).f2) ((rd_T106 l0_5 x10_2).f3) ((rd_T106 l0_5 x10_2).f4)) else (none)) else (none)) else (none)) else (none)) else (none)) else (none)) else (none)) else (steepleref27_Run.j4 k3 x5_3 x10_2 x12_3 false a0_0 a0_1 a0_2 a0_3 a0_4 l0_5 ((rd_T106 l0_5 x10_2).f0) ((rd_T106 l0_5 x10_2).f1) ((rd_T106 l0_5 x10_2).f2) ((rd_T106 l0_5 x10_2).f3) ((rd_T106 l0_5 x10_2).f4))) else (steepleref27_Run.l2 k3 x5_3 (wrap64 (x10_2 + 1)) a0_0 a0_1 a0_2 a0_3 a0_4 l0_5)) = some (r1, r2) := H
            have A47 := Aside0.mk A470; clear A470
            by_cases c48 : x12_3 < t303
            ·rw [if_pos c48] at H
             have c48b0 : decide (x12_3 < t303) = true := decide_eq_true c48; clear c48; have HC49 := Aside0.mk H; clear H; have hnb50 := NB282_283.out; have hnc50 := NB283_282.out; have hnb51 := NB282_302.out; have hnc51 := NB302_282.out
             have hcz52 := fun i => blk_cell BK282.out i
             have hfz52 := fun i => blk_frozen BK282.out i
             go_upto_region 25 with (first | ((with_reducible refine gate_callee (f := 32) rfl ?_); refine goesL_ (some 86) rfl rfl Try.func32 (by kernel_rfl) rfl #[.int .i64 a0_1] rfl gsA ?_; (with_reducible refine (steepleref15_Two.calls k3 a0_1 t303 _ A47.out).mono ?_); rintro e w' ⟨rfl, ⟨nd, rfl⟩⟩; refine ⟨_, rfl, ?_⟩))
             (try simp only [Act.put, List.setIfInBounds_toArray, List.set_cons_zero, List.set_cons_succ])
             go_cut [111] (fun v111 wc => ∃ (kq : Nat) (x111_48 : Bool), v111 = .bool x111_48 ∧ Aside0 (steepleref27_Run.j4 kq x5_3 x10_2 x12_3 x111_48 a0_0 a0_1 a0_2 a0_3 a0_4 l0_5 ((rd_T106 l0_5 x10_2).f0) ((rd_T106 l0_5 x10_2).f1) ((rd_T106 l0_5 x10_2).f2) ((rd_T106 l0_5 x10_2).f3) ((rd_T106 l0_5 x10_2).f4) = some (r1, r2)) ∧ Aside0 (kq ≤ k3) ∧ Aside0 (Kd.S (Kd.slice 43 (Kd.int .u64)) 68 wc w.heap.size (fun _ => True) u5 x5_3) ∧ Aside0 (wc.heap[gb282]? = some (.cells #[.int .i64 a0_0, .int .i64 a0_1, .int .i64 a0_2, .int .i64 a0_3, .int .i64 a0_4, (.slice (some ad301) l0_5.length c0_5)] 28 (0, 0))) ∧ Aside0 (wc.heap[gb283]? = some (.cells #[(.slice none 0 0), .int .i64 x284001_3] 61 (0, 0))) ∧ Aside0 (wc.heap[gb302]? = some (.cells #[.int .i64 ((rd_T106 l0_5 x10_2).f0), .int .i64 ((rd_T106 l0_5 x10_2).f1), .int .i64 ((rd_T106 l0_5 x10_2).f2), .int .i64 ((rd_T106 l0_5 x10_2).f3), .int .i64 ((rd_T106 l0_5 x10_2).f4)] 106 (0, 0))) ∧ Aside0 (Below w.heap.size w wc))
             case first =>
              have H := HC49.out; clear HC49
              have n0_ := Aside0.mk (Kd.S_drewN HO_5.out nd); have n1_ := Aside0.mk (blk_drewN BK282.out nd); have n2_ := Aside0.mk (blk_drewN BK283.out nd); have n3_ := Aside0.mk (blk_drewN BK302.out nd); have n4_ := Aside0.mk (pw_below_drewN HB.out nd); clear HO_5; clear BK282; clear BK283; clear BK302; clear HB; have HO_5 := n0_; have BK282 := n1_; have BK283 := n2_; have BK302 := n3_; have HB := n4_; clear n0_ n1_ n2_ n3_ n4_
              generalize wr.drewN nd = wr at HO_5 BK282 BK283 BK302 HB ⊢
              have hfz52 := fun i => blk_frozen BK282.out i
              have hcz52 := fun i => blk_cell BK282.out i
              by_cases c53 : ((rd_T106 l0_5 x10_2).f0) = 8
              ·rw [if_pos c53] at H
               have c53b0 : (((rd_T106 l0_5 x10_2).f0) == 8) = true := beq_iff_eq.mpr c53; have c53b1 : (((rd_T106 l0_5 x10_2).f0) != 8) = false := bne_eq_false_iff_eq.mpr c53; clear c53
               (first | rw [c53b0] | (simp only [i64_w, i32_w]; rw [c53b0]) | skip)
               by_cases c54 : 0 ≤ ((rd_T106 l0_5 x10_2).f2)
               ·rw [if_pos c54] at H
                have c54b0 : decide (0 ≤ ((rd_T106 l0_5 x10_2).f2)) = true := decide_eq_true c54; clear c54
                by_cases c55 : ((rd_T106 l0_5 x10_2).f2) < (x5_3.length : Int)
                ·rw [if_pos c55] at H
                 have c55b0 : decide (((rd_T106 l0_5 x10_2).f2) < (x5_3.length : Int)) = true := decide_eq_true c55; clear c55
                 by_cases c56 : 0 ≤ x12_3
                 ·rw [if_pos c56] at H
                  have c56b0 : decide (0 ≤ x12_3) = true := decide_eq_true c56; clear c56
                  by_cases c57 : x12_3 < ((rd_L4 x5_3 ((rd_T106 l0_5 x10_2).f2)).length : Int)
                  ·rw [if_pos c57] at H
                   have c57b0 : decide (x12_3 < ((rd_L4 x5_3 ((rd_T106 l0_5 x10_2).f2)).length : Int)) = true := decide_eq_true c57; clear c57
                   by_cases c58 : 0 ≤ ((rd_T106 l0_5 x10_2).f3)
                   ·rw [if_pos c58] at H
                    have c58b0 : decide (0 ≤ ((rd_T106 l0_5 x10_2).f3)) = true := decide_eq_true c58; clear c58
                    by_cases c59 : ((rd_T106 l0_5 x10_2).f3) < (x5_3.length : Int)
                    ·rw [if_pos c59] at H
                     have c59b0 : decide (((rd_T106 l0_5 x10_2).f3) < (x5_3.length : Int)) = true := decide_eq_true c59; clear c59
                     by_cases c60 : x12_3 < ((rd_L4 x5_3 ((rd_T106 l0_5 x10_2).f3)).length : Int)
                     ·rw [if_pos c60] at H
                      have c60b0 : decide (x12_3 < ((rd_L4 x5_3 ((rd_T106 l0_5 x10_2).f3)).length : Int)) = true := decide_eq_true c60; clear c60; have H' := Aside0.mk H; clear H
                      try go_wp2
                      have n0_ := Aside0.mk (Kd.S_drew HO_5.out); have n1_ := Aside0.mk (blk_drew BK282.out); have n2_ := Aside0.mk (blk_drew BK283.out); have n3_ := Aside0.mk (blk_drew BK302.out); have n4_ := Aside0.mk (below_drew1 HB.out); clear HO_5; clear BK282; clear BK283; clear BK302; clear HB; have HO_5 := n0_; have BK282 := n1_; have BK283 := n2_; have BK302 := n3_; have HB := n4_; clear n0_ n1_ n2_ n3_ n4_; obtain ⟨Ao62, co62, eo62⟩ := Kd.S_slice HO_5.out
                      (first | subst eo62 | (injection eo62 with f1_ f2_ f3_; have f4_ := f1_.symm; have f5_ := f3_.symm; clear f1_ f2_ f3_; subst f4_; subst f5_))
                      have p304 : 0 ≤ (((rd_T106 l0_5 x10_2).f2) : Int) := of_decide_eq_true (by first | (with_reducible assumption) | assumption)
                      have q304 : ((rd_T106 l0_5 x10_2).f2) < (x5_3.length : Int) := of_decide_eq_true (by first | (with_reducible assumption) | assumption)
                      obtain ⟨ad304, A304_0, c304_0, e304, hx304_0, hl304_0, hi304_0⟩ := at_L4 (Kd.S_reads' HO_5.out).2.2 ((rd_T106 l0_5 x10_2).f2) p304 q304
                      cases e304
                      obtain ⟨ce304, hce304, hMe304, hcc304⟩ := Kd.S_get HO_5.out [] ((rd_T106 l0_5 x10_2).f2) p304 (by first | exact q304 | exact of_decide_eq_true (by first | (with_reducible assumption) | assumption) | (have e_ := (Kd.S_reads' HO_5.out).1; omega))
                      obtain ⟨ve304_0, rfl, ge304_0⟩ := hMe304; have hv304_0 := hcc304 0 _ rfl
                      rw [Nat.add_zero, show ((Kd.slice 43 (Kd.int .u64))).sz = 1 from rfl, Nat.mul_one] at hv304_0
                      replace hv304_0 := Option.some.inj (hv304_0.symm.trans hx304_0)
                      rw [hv304_0] at ge304_0
                      have HL304_0 := Aside0.mk (show Kd.R (Kd.int .u64) 43 _ _ _ _ (rd_L4 x5_3 ((rd_T106 l0_5 x10_2).f2)) from ge304_0)
                      clear hv304_0 ge304_0; have HX304_0 := Aside0.mk hx304_0; clear hcc304 hce304; have HR304_0 := Aside0.mk hi304_0; have HC304_0 := Aside0.mk hl304_0; clear hi304_0 hl304_0; replace p304 := eq_true p304; replace q304 := eq_true q304
                      have p305 : 0 ≤ (x12_3 : Int) := of_decide_eq_true (by first | (with_reducible assumption) | assumption)
                      have q305 : x12_3 < ((rd_L4 x5_3 ((rd_T106 l0_5 x10_2).f2)).length : Int) := of_decide_eq_true (by first | (with_reducible assumption) | assumption)
                      obtain ⟨ad305, e305, hx305_0⟩ := Kd.at_int (by repeat (first | (with_reducible exact HR304_0.out) | (with_reducible refine Kd.C_alloc ?_ _) | (with_reducible refine Kd.C_drewN ?_ _) | (with_reducible refine Kd.C_drew ?_) | exact HR304_0.out)) x12_3 p305 q305
                      cases e305
                      replace p305 := eq_true p305; replace q305 := eq_true q305
                      have p306 : 0 ≤ (((rd_T106 l0_5 x10_2).f3) : Int) := of_decide_eq_true (by first | (with_reducible assumption) | assumption)
                      have q306 : ((rd_T106 l0_5 x10_2).f3) < (x5_3.length : Int) := of_decide_eq_true (by first | (with_reducible assumption) | assumption)
                      obtain ⟨ad306, A306_0, c306_0, e306, hx306_0, hl306_0, hi306_0⟩ := at_L4 (Kd.S_reads' HO_5.out).2.2 ((rd_T106 l0_5 x10_2).f3) p306 q306
                      obtain rfl : ad304 = ad306 := (by injection e306)
                      obtain ⟨ce306, hce306, hMe306, hcc306⟩ := Kd.S_get HO_5.out [] ((rd_T106 l0_5 x10_2).f3) p306 (by first | exact q306 | exact of_decide_eq_true (by first | (with_reducible assumption) | assumption) | (have e_ := (Kd.S_reads' HO_5.out).1; omega))
                      obtain ⟨ve306_0, rfl, ge306_0⟩ := hMe306; have hv306_0 := hcc306 0 _ rfl
                      rw [Nat.add_zero, show ((Kd.slice 43 (Kd.int .u64))).sz = 1 from rfl, Nat.mul_one] at hv306_0
                      replace hv306_0 := Option.some.inj (hv306_0.symm.trans hx306_0)
                      rw [hv306_0] at ge306_0
                      have HL306_0 := Aside0.mk (show Kd.R (Kd.int .u64) 43 _ _ _ _ (rd_L4 x5_3 ((rd_T106 l0_5 x10_2).f3)) from ge306_0)
                      clear hv306_0 ge306_0; have HX306_0 := Aside0.mk hx306_0; clear hcc306 hce306; have HR306_0 := Aside0.mk hi306_0; have HC306_0 := Aside0.mk hl306_0; clear hi306_0 hl306_0; replace p306 := eq_true p306; replace q306 := eq_true q306
                      have p307 : 0 ≤ (x12_3 : Int) := of_decide_eq_true (by first | (with_reducible assumption) | assumption)
                      have q307 : x12_3 < ((rd_L4 x5_3 ((rd_T106 l0_5 x10_2).f3)).length : Int) := of_decide_eq_true (by first | (with_reducible assumption) | assumption)
                      obtain ⟨ad307, e307, hx307_0⟩ := Kd.at_int (by repeat (first | (with_reducible exact HR306_0.out) | (with_reducible refine Kd.C_alloc ?_ _) | (with_reducible refine Kd.C_drewN ?_ _) | (with_reducible refine Kd.C_drew ?_) | exact HR306_0.out)) x12_3 p307 q307
                      cases e307
                      replace p307 := eq_true p307; replace q307 := eq_true q307
                      refine start_ (n := 22) (S := fun w' => w'.cell? ⟨gb302, 0, none⟩ = some (.int .i64 ((rd_T106 l0_5 x10_2).f0)) ∧ w'.cell? ⟨gb302, 1, none⟩ = some (.int .i64 ((rd_T106 l0_5 x10_2).f1)) ∧ w'.cell? ⟨gb302, 2, none⟩ = some (.int .i64 ((rd_T106 l0_5 x10_2).f2)) ∧ w'.cell? ⟨gb302, 3, none⟩ = some (.int .i64 ((rd_T106 l0_5 x10_2).f3)) ∧ w'.cell? ⟨gb302, 4, none⟩ = some (.int .i64 ((rd_T106 l0_5 x10_2).f4)) ∧ w'.cell? (ad304.add (((rd_T106 l0_5 x10_2).f2)).toNat) = some (.slice (some ad305) (rd_L4 x5_3 ((rd_T106 l0_5 x10_2).f2)).length c304_0) ∧ w'.cell? (ad305.add (x12_3).toNat) = some (.int .u64 (rd (rd_L4 x5_3 ((rd_T106 l0_5 x10_2).f2)) x12_3)) ∧ w'.cell? (ad304.add (((rd_T106 l0_5 x10_2).f3)).toNat) = some (.slice (some ad307) (rd_L4 x5_3 ((rd_T106 l0_5 x10_2).f3)).length c306_0) ∧ w'.cell? (ad307.add (x12_3).toNat) = some (.int .u64 (rd (rd_L4 x5_3 ((rd_T106 l0_5 x10_2).f3)) x12_3))) (ds := []) #[false, false, false, false, false, false, false, false, false, false, false, false, false, false, false, false, false, false, false, false, false, false] (by kernel_rfl) rfl rfl ⟨(blk_cell BK302.out 0).trans rfl, (blk_cell BK302.out 1).trans rfl, (blk_cell BK302.out 2).trans rfl, (blk_cell BK302.out 3).trans rfl, (blk_cell BK302.out 4).trans rfl, hx304_0, hx305_0, hx306_0, hx307_0⟩ (fun hHeld => ?_); refine with_tabW steepleref27_Run.tab25 steepleref27_Run.bits25 (fun HT_ HW_ => ?_)
                      generalize wr.drew = w61 at HO_5 BK282 BK283 BK302 HB HL304_0 HL306_0 HR304_0 HR306_0 HX304_0 HX306_0 hx304_0 hx305_0 hx306_0 hx307_0 hHeld ⊢
                      refine pureA 0 (some 90) HT_.out ?_
                      refine takeA 1 (some 91) rfl HT_.out HW_.out hHeld (Or.inl ⟨by rfl, by rintro w' ⟨s0, s1, s2, s3, s4, s5, s6, s7, s8⟩; go_simp; with_reducible rfl⟩) ?_
                      refine pureA 2 (some 92) HT_.out ?_
                      refine pureA 3 (some 93) HT_.out ?_
                      refine pureA 4 (some 94) HT_.out ?_
                      refine pureA 5 (some 95) HT_.out ?_
                      refine pureA 9 (some 99) HT_.out ?_
                      refine pureA 12 (some 102) HT_.out ?_
                      refine pureA 13 (some 103) HT_.out ?_
                      refine pureA 17 (some 107) HT_.out ?_
                      refine takeA 6 (some 96) rfl HT_.out HW_.out hHeld (Or.inl ⟨by rfl, by rintro w' ⟨s0, s1, s2, s3, s4, s5, s6, s7, s8⟩; go_simp; with_reducible rfl⟩) ?_
                      refine pureA 7 (some 97) HT_.out ?_
                      refine takeA 8 (some 98) rfl HT_.out HW_.out hHeld (Or.inl ⟨by rfl, by rintro w' ⟨s0, s1, s2, s3, s4, s5, s6, s7, s8⟩; go_simp; with_reducible rfl⟩) ?_
                      refine pureA 10 (some 100) HT_.out ?_
                      refine takeA 11 (some 101) rfl HT_.out HW_.out hHeld (Or.inl ⟨by rfl, by rintro w' ⟨s0, s1, s2, s3, s4, s5, s6, s7, s8⟩; go_simp; with_reducible rfl⟩) ?_
                      refine takeA 14 (some 104) rfl HT_.out HW_.out hHeld (Or.inl ⟨by rfl, by rintro w' ⟨s0, s1, s2, s3, s4, s5, s6, s7, s8⟩; go_simp; with_reducible rfl⟩) ?_
                      refine pureA 15 (some 105) HT_.out ?_
                      refine takeA 16 (some 106) rfl HT_.out HW_.out hHeld (Or.inl ⟨by rfl, by rintro w' ⟨s0, s1, s2, s3, s4, s5, s6, s7, s8⟩; go_simp; with_reducible rfl⟩) ?_
                      refine pureA 18 (some 108) HT_.out ?_
                      refine takeA 19 (some 109) rfl HT_.out HW_.out hHeld (Or.inl ⟨by rfl, by rintro w' ⟨s0, s1, s2, s3, s4, s5, s6, s7, s8⟩; go_simp; with_reducible rfl⟩) ?_
                      refine pureA 20 (some 110) HT_.out ?_
                      refine pureA 21 (some 111) HT_.out ?_
                      refine done_ (done_of HT_.out (by kernel_rfl)) ?_
                      try go_wp2
                      go_meet
                      case rel => exact ⟨_, (((rd (rd_L4 x5_3 ((rd_T106 l0_5 x10_2).f2)) x12_3) != (rd (rd_L4 x5_3 ((rd_T106 l0_5 x10_2).f3)) x12_3))), eqA, H', ⟨by have := HK1.out; have := HK2.out; have := HK3.out; first | omega | exact Nat.le_refl _⟩, ⟨by (with_reducible repeat (first | apply Kd.S_alloc | apply Kd.S_drewN | apply Kd.S_drew)); exact HO_5.out⟩, ⟨bkA BK282.out⟩, ⟨bkA BK283.out⟩, ⟨bkA BK302.out⟩, ⟨blA HB.out⟩⟩
                     ·rw [if_neg c60] at H
                      exact absurd H (by simp)
                    ·rw [if_neg c59] at H
                     exact absurd H (by simp)
                   ·rw [if_neg c58] at H
                    exact absurd H (by simp)
                  ·rw [if_neg c57] at H
                   exact absurd H (by simp)
                 ·rw [if_neg c56] at H
                  exact absurd H (by simp)
                ·rw [if_neg c55] at H
                 exact absurd H (by simp)
               ·rw [if_neg c54] at H
                exact absurd H (by simp)
              ·rw [if_neg c53] at H
               have c53b0 : (((rd_T106 l0_5 x10_2).f0) == 8) = false := beq_eq_false_iff_ne.mpr c53; have c53b1 : (((rd_T106 l0_5 x10_2).f0) != 8) = true := bne_iff_ne.mpr c53
               (first | rw [c53b0] | (simp only [i64_w, i32_w]; rw [c53b0]) | skip)
               have H' := Aside0.mk H; clear H
               try go_wp2
               have n0_ := Aside0.mk (Kd.S_drew HO_5.out); have n1_ := Aside0.mk (blk_drew BK282.out); have n2_ := Aside0.mk (blk_drew BK283.out); have n3_ := Aside0.mk (blk_drew BK302.out); have n4_ := Aside0.mk (below_drew1 HB.out); clear HO_5; clear BK282; clear BK283; clear BK302; clear HB; have HO_5 := n0_; have BK282 := n1_; have BK283 := n2_; have BK302 := n3_; have HB := n4_; clear n0_ n1_ n2_ n3_ n4_
               refine start_ (n := 22) (S := fun w' => w'.cell? ⟨gb302, 0, none⟩ = some (.int .i64 ((rd_T106 l0_5 x10_2).f0)) ∧ w'.cell? ⟨gb302, 1, none⟩ = some (.int .i64 ((rd_T106 l0_5 x10_2).f1)) ∧ w'.cell? ⟨gb302, 2, none⟩ = some (.int .i64 ((rd_T106 l0_5 x10_2).f2)) ∧ w'.cell? ⟨gb302, 3, none⟩ = some (.int .i64 ((rd_T106 l0_5 x10_2).f3)) ∧ w'.cell? ⟨gb302, 4, none⟩ = some (.int .i64 ((rd_T106 l0_5 x10_2).f4))) (ds := []) #[false, false, false, false, false, false, false, false, false, false, false, false, false, false, false, false, false, false, false, false, false, false] (by kernel_rfl) rfl rfl ⟨(blk_cell BK302.out 0).trans rfl, (blk_cell BK302.out 1).trans rfl, (blk_cell BK302.out 2).trans rfl, (blk_cell BK302.out 3).trans rfl, (blk_cell BK302.out 4).trans rfl⟩ (fun hHeld => ?_); refine with_tabW steepleref27_Run.tab25 steepleref27_Run.bits25 (fun HT_ HW_ => ?_)
               generalize wr.drew = w63 at HO_5 BK282 BK283 BK302 HB hHeld ⊢
               refine pureA 0 (some 90) HT_.out ?_
               refine takeA 1 (some 91) rfl HT_.out HW_.out hHeld (Or.inl ⟨by rfl, by rintro w' ⟨s0, s1, s2, s3, s4⟩; go_simp; with_reducible rfl⟩) ?_
               refine pureA 2 (some 92) HT_.out ?_
               refine pureA 3 (some 93) HT_.out ?_
               refine pure_ (i := 4) (N := some 94) (v := undef) (a' := ?_) #[true, true, true, true, true, false, false, false, false, false, false, false, false, false, false, false, false, false, false, false, false, false] rfl rfl (any_of HT_.out (by kernel_rfl)) (fun _ _ _ h => h) (Or.inr ⟨by rfl, rfl⟩) ?_ ?_
               rotate_left
               ·simp only [Act.put, List.setIfInBounds_toArray, List.set_cons_zero, List.set_cons_succ, i64_w, i32_w]
                rfl
               refine pure_ (i := 5) (N := some 95) (v := undef) (a' := ?_) #[true, true, true, true, true, true, false, false, false, false, false, false, false, false, false, false, false, false, false, false, false, false] rfl rfl (any_of HT_.out (by kernel_rfl)) (fun _ _ _ h => h) (Or.inr ⟨by rfl, rfl⟩) ?_ ?_
               rotate_left
               ·simp only [Act.put, List.setIfInBounds_toArray, List.set_cons_zero, List.set_cons_succ, i64_w, i32_w]
                rfl
               refine pure_ (i := 6) (N := some 96) (v := undef) (a' := ?_) #[true, true, true, true, true, true, true, false, false, false, false, false, false, false, false, false, false, false, false, false, false, false] rfl rfl (any_of HT_.out (by kernel_rfl)) (fun _ _ _ h => h) (Or.inr ⟨by rfl, rfl⟩) ?_ ?_
               rotate_left
               ·simp only [Act.put, List.setIfInBounds_toArray, List.set_cons_zero, List.set_cons_succ, i64_w, i32_w]
                rfl
               refine pure_ (i := 7) (N := some 97) (v := undef) (a' := ?_) #[true, true, true, true, true, true, true, true, false, false, false, false, false, false, false, false, false, false, false, false, false, false] rfl rfl (any_of HT_.out (by kernel_rfl)) (fun _ _ _ h => h) (Or.inr ⟨by rfl, rfl⟩) ?_ ?_
               rotate_left
               ·simp only [Act.put, List.setIfInBounds_toArray, List.set_cons_zero, List.set_cons_succ, i64_w, i32_w]
                rfl
               refine pure_ (i := 8) (N := some 98) (v := undef) (a' := ?_) #[true, true, true, true, true, true, true, true, true, false, false, false, false, false, false, false, false, false, false, false, false, false] rfl rfl (any_of HT_.out (by kernel_rfl)) (fun _ _ _ h => h) (Or.inr ⟨by rfl, rfl⟩) ?_ ?_
               rotate_left
               ·simp only [Act.put, List.setIfInBounds_toArray, List.set_cons_zero, List.set_cons_succ, i64_w, i32_w]
                rfl
               refine pure_ (i := 9) (N := some 99) (v := undef) (a' := ?_) #[true, true, true, true, true, true, true, true, true, true, false, false, false, false, false, false, false, false, false, false, false, false] rfl rfl (any_of HT_.out (by kernel_rfl)) (fun _ _ _ h => h) (Or.inr ⟨by rfl, rfl⟩) ?_ ?_
               rotate_left
               ·simp only [Act.put, List.setIfInBounds_toArray, List.set_cons_zero, List.set_cons_succ, i64_w, i32_w]
                rfl
               refine pure_ (i := 10) (N := some 100) (v := undef) (a' := ?_) #[true, true, true, true, true, true, true, true, true, true, true, false, false, false, false, false, false, false, false, false, false, false] rfl rfl (any_of HT_.out (by kernel_rfl)) (fun _ _ _ h => h) (Or.inr ⟨by rfl, rfl⟩) ?_ ?_
               rotate_left
               ·simp only [Act.put, List.setIfInBounds_toArray, List.set_cons_zero, List.set_cons_succ, i64_w, i32_w]
                rfl
               refine pure_ (i := 11) (N := some 101) (v := undef) (a' := ?_) #[true, true, true, true, true, true, true, true, true, true, true, true, false, false, false, false, false, false, false, false, false, false] rfl rfl (any_of HT_.out (by kernel_rfl)) (fun _ _ _ h => h) (Or.inr ⟨by rfl, rfl⟩) ?_ ?_
               rotate_left
               ·simp only [Act.put, List.setIfInBounds_toArray, List.set_cons_zero, List.set_cons_succ, i64_w, i32_w]
                rfl
               refine pure_ (i := 12) (N := some 102) (v := undef) (a' := ?_) #[true, true, true, true, true, true, true, true, true, true, true, true, true, false, false, false, false, false, false, false, false, false] rfl rfl (any_of HT_.out (by kernel_rfl)) (fun _ _ _ h => h) (Or.inr ⟨by rfl, rfl⟩) ?_ ?_
               rotate_left
               ·simp only [Act.put, List.setIfInBounds_toArray, List.set_cons_zero, List.set_cons_succ, i64_w, i32_w]
                rfl
               refine pure_ (i := 13) (N := some 103) (v := undef) (a' := ?_) #[true, true, true, true, true, true, true, true, true, true, true, true, true, true, false, false, false, false, false, false, false, false] rfl rfl (any_of HT_.out (by kernel_rfl)) (fun _ _ _ h => h) (Or.inr ⟨by rfl, rfl⟩) ?_ ?_
               rotate_left
               ·simp only [Act.put, List.setIfInBounds_toArray, List.set_cons_zero, List.set_cons_succ, i64_w, i32_w]
                rfl
               refine pure_ (i := 14) (N := some 104) (v := undef) (a' := ?_) #[true, true, true, true, true, true, true, true, true, true, true, true, true, true, true, false, false, false, false, false, false, false] rfl rfl (any_of HT_.out (by kernel_rfl)) (fun _ _ _ h => h) (Or.inr ⟨by rfl, rfl⟩) ?_ ?_
               rotate_left
               ·simp only [Act.put, List.setIfInBounds_toArray, List.set_cons_zero, List.set_cons_succ, i64_w, i32_w]
                rfl
               refine pure_ (i := 15) (N := some 105) (v := undef) (a' := ?_) #[true, true, true, true, true, true, true, true, true, true, true, true, true, true, true, true, false, false, false, false, false, false] rfl rfl (any_of HT_.out (by kernel_rfl)) (fun _ _ _ h => h) (Or.inr ⟨by rfl, rfl⟩) ?_ ?_
               rotate_left
               ·simp only [Act.put, List.setIfInBounds_toArray, List.set_cons_zero, List.set_cons_succ, i64_w, i32_w]
                rfl
               refine pure_ (i := 16) (N := some 106) (v := undef) (a' := ?_) #[true, true, true, true, true, true, true, true, true, true, true, true, true, true, true, true, true, false, false, false, false, false] rfl rfl (any_of HT_.out (by kernel_rfl)) (fun _ _ _ h => h) (Or.inr ⟨by rfl, rfl⟩) ?_ ?_
               rotate_left
               ·simp only [Act.put, List.setIfInBounds_toArray, List.set_cons_zero, List.set_cons_succ, i64_w, i32_w]
                rfl
               refine pure_ (i := 17) (N := some 107) (v := undef) (a' := ?_) #[true, true, true, true, true, true, true, true, true, true, true, true, true, true, true, true, true, true, false, false, false, false] rfl rfl (any_of HT_.out (by kernel_rfl)) (fun _ _ _ h => h) (Or.inr ⟨by rfl, rfl⟩) ?_ ?_
               rotate_left
               ·simp only [Act.put, List.setIfInBounds_toArray, List.set_cons_zero, List.set_cons_succ, i64_w, i32_w]
                rfl
               refine pure_ (i := 18) (N := some 108) (v := undef) (a' := ?_) #[true, true, true, true, true, true, true, true, true, true, true, true, true, true, true, true, true, true, true, false, false, false] rfl rfl (any_of HT_.out (by kernel_rfl)) (fun _ _ _ h => h) (Or.inr ⟨by rfl, rfl⟩) ?_ ?_
               rotate_left
               ·simp only [Act.put, List.setIfInBounds_toArray, List.set_cons_zero, List.set_cons_succ, i64_w, i32_w]
                rfl
               refine pure_ (i := 19) (N := some 109) (v := undef) (a' := ?_) #[true, true, true, true, true, true, true, true, true, true, true, true, true, true, true, true, true, true, true, true, false, false] rfl rfl (any_of HT_.out (by kernel_rfl)) (fun _ _ _ h => h) (Or.inr ⟨by rfl, rfl⟩) ?_ ?_
               rotate_left
               ·simp only [Act.put, List.setIfInBounds_toArray, List.set_cons_zero, List.set_cons_succ, i64_w, i32_w]
                rfl
               refine pure_ (i := 20) (N := some 110) (v := undef) (a' := ?_) #[true, true, true, true, true, true, true, true, true, true, true, true, true, true, true, true, true, true, true, true, true, false] rfl rfl (any_of HT_.out (by kernel_rfl)) (fun _ _ _ h => h) (Or.inr ⟨by rfl, rfl⟩) ?_ ?_
               rotate_left
               ·simp only [Act.put, List.setIfInBounds_toArray, List.set_cons_zero, List.set_cons_succ, i64_w, i32_w]
                rfl
               refine pureA 21 (some 111) HT_.out ?_
               refine done_ (done_of HT_.out (by kernel_rfl)) ?_
               try go_wp2
               go_meet
               case rel => exact ⟨_, (false), eqA, H', ⟨by have := HK1.out; have := HK2.out; have := HK3.out; first | omega | exact Nat.le_refl _⟩, ⟨by (with_reducible repeat (first | apply Kd.S_alloc | apply Kd.S_drewN | apply Kd.S_drew)); exact HO_5.out⟩, ⟨bkA BK282.out⟩, ⟨bkA BK283.out⟩, ⟨bkA BK302.out⟩, ⟨blA HB.out⟩⟩
             case rest =>
              clear HC49; (try clear p2); (try clear q2); (try clear hx2); (try clear c3); (try clear p3); (try clear q3); (try clear hx3); (try clear c4); (try clear c5); (try clear c6); (try clear p6); (try clear p29); (try clear q29); (try clear hx29); (try clear c30); (try clear p30); (try clear q30); (try clear hx30); (try clear c32); (try clear c48); (try clear c48b0); (try clear c50); (try clear c51); (try clear c53); (try clear c53b0); (try clear c53b1); (try clear c54); (try clear c54b0); (try clear c55); (try clear c55b0); (try clear c56); (try clear c56b0); (try clear c57); (try clear c57b0); (try clear c58); (try clear c58b0); (try clear c59); (try clear c59b0); (try clear c60); (try clear c60b0); (try clear hcz12); (try clear hcz17); (try clear hcz26); (try clear hcz30); (try clear hcz34); (try clear hcz38); (try clear hcz42); (try clear hcz46); (try clear hcz52); (try clear hfz10); (try clear hfz12); (try clear hfz17); (try clear hfz26); (try clear hfz30); (try clear hfz34); (try clear hfz38); (try clear hfz42); (try clear hfz46); (try clear hfz52); (try clear hx290_0); (try clear hx291_0); (try clear hx301_0); (try clear hx301_1); (try clear hx301_2); (try clear hx301_3); (try clear hx301_4); (try clear hx304_0); (try clear hx305_0); (try clear hx306_0); (try clear hx307_0); (try clear p2); (try clear p29); (try clear p290); (try clear p291); (try clear p301); (try clear p304); (try clear p305); (try clear p306); (try clear p307); (try clear p6); (try clear q2); (try clear q29); (try clear q290); (try clear q291); (try clear q301); (try clear q304); (try clear q305); (try clear q306); (try clear q307); obtain ⟨kq, x111_48, rfl, HA, HJ48, HO_5, BK282, BK283, BK302, HB⟩ := hcut
              cases kq with
              | zero => exact absurd HA.out (by simp [steepleref27_Run.j4])
              | succ kj48 =>
               have H := HA.out; clear HA
               simp only [steepleref27_Run.j4] at H
               by_cases c64 : x111_48 = true
               ·subst c64
                have H1 : (some (([] : List (List Int)), 7)) = some (r1, r2) := by rw [if_pos rfl] at H; exact H
                clear H; have H := H1; clear H1
                simp only [Option.some.injEq, Prod.mk.injEq] at H
                obtain ⟨rfl, rfl⟩ := H; have hnb65 := NB283_282.out; have hnc65 := NB282_283.out; have hnb66 := NB283_302.out; have hnc66 := NB302_283.out
                have hcz67 := fun i => blk_cell BK283.out i
                have hfz67 := fun i => blk_frozen BK283.out i
                go_wp2
                refine bodyPost_ret (results_cell_row rfl _ _ gb283 61 #[.slice none 0 0, .int .i64 7] (0, 0) _ rfl (by refine bkA ?_; refine blk_put (cs := #[.slice none 0 0, .int .i64 x284001_3]) ?_ 1 _ rfl; refine bkA ?_; refine blk_put (cs := #[.slice none 0 0, .int .i64 x284001_3]) ?_ 0 _ rfl; refine bkA ?_; exact BK283.out) Try.underlying61 rfl (by kernel_rfl)) rfl ?_
                exact ⟨_, by first | rfl | (simp [errW_none, errW_some] <;> rfl) | (simp [*, errW_none, errW_some] <;> rfl), by first | exact Kd.S_nil _ _ _ _ _ | exact Kd.N_nil _ _ _ _ _ | exact Kd.V_nil _ _ _ _ _ | exact Kd.Q_nil _ _ _ _ _ | exact Kd.R_nil _ _ _ _ _, blA HB.out⟩
               ·replace c64 := Bool.eq_false_iff.mpr c64; subst c64
                have H1 : (if ((rd_T106 l0_5 x10_2).f0) < 8 then (if 0 ≤ ((rd_T106 l0_5 x10_2).f2) then (if ((rd_T106 l0_5 x10_2).f2) < (x5_3.length : Int) then (if 0 ≤ x12_3 then (if x12_3 < ((rd_L4 x5_3 ((rd_T106 l0_5 x10_2).f2)).length : Int) then (if 0 ≤ ((rd_T106 l0_5 x10_2).f3) then (if ((rd_T106 l0_5 x10_2).f3) < (x5_3.length : Int) then (if x12_3 < ((rd_L4 x5_3 ((rd_T106 l0_5 x10_2).f3)).length : Int) then ((steepleref27_Made.f kj48 a0_0 a0_1 a0_2 a0_3 a0_4 l0_5 ((rd_T106 l0_5 x10_2).f0) ((rd_T106 l0_5 x10_2).f1) ((rd_T106 l0_5 x10_2).f2) ((rd_T106 l0_5 x10_2).f3) ((rd_T106 l0_5 x10_2).f4) (rd (rd_L4 x5_3 ((rd_T106 l0_5 x10_2).f2)) x12_3) (rd (rd_L4 x5_3 ((rd_T106 l0_5 x10_2).f3)) x12_3)).bind fun t312 => (if 0 ≤ ((rd_T106 l0_5 x10_2).f1) then (if ((rd_T106 l0_5 x10_2).f1) < (x5_3.length : Int) then (if 0 < (t312.length : Int) then (if x12_3 < ((rd_L4 x5_3 ((rd_T106 l0_5 x10_2).f1)).length : Int) then ((some (x5_3.set (((rd_T106 l0_5 x10_2).f1) : Int).toNat ((rd_L4 x5_3 ((rd_T106 l0_5 x10_2).f1)).set (x12_3 : Int).toNat (rd t312 0)) : List (List Int))).bind fun y319 => (if ((rd_T106 l0_5 x10_2).f0) = 7 then (if 0 ≤ ((rd_T106 l0_5 x10_2).f4) then (if ((rd_T106 l0_5 x10_2).f4) < (x5_3.length : Int) then (if 1 < (t312.length : Int) then (if x12_3 < ((rd_L4 y319 ((rd_T106 l0_5 x10_2).f4)).length : Int) then (steepleref27_Run.l3 kj48 (y319.set (((rd_T106 l0_5 x10_2).f4) : Int).toNat ((rd_L4 y319 ((rd_T106 l0_5 x10_2).f4)).set (x12_3 : Int).toNat (rd t312 1))) x10_2 (wrap64 (x12_3 + 1)) a0_0 a0_1 a0_2 a0_3 a0_4 l0_5 ((rd_T106 l0_5 x10_2).f0) ((rd_T106 l0_5 x10_2).f1) ((rd_T106 l0_5 x10_2).f2) ((rd_T106 l0_5 x10_2).f3) ((rd_T106 l0_5 x10_2).f4)) else (none)) else (none)) else (none)) else (none)) else (steepleref27_Run.l3 kj48 y319 x10_2 (wrap64 (x12_3 + 1)) a0_0 a0_1 a0_2 a0_3 a0_4 l0_5 ((rd_T106 l0_5 x10_2).f0) ((rd_T106 l0_5 x10_2).f1) ((rd_T106 l0_5 x10_2).f2) ((rd_T106 l0_5 x10_2).f3) ((rd_T106 l0_5 x10_2).f4)))) else (none)) else (none)) else (none)) else (none))) else (none)) else (none)) else (none)) else (none)) else (none)) else (none)) else (none)) else (steepleref27_Run.l3 kj48 x5_3 x10_2 (wrap64 (x12_3 + 1)) a0_0 a0_1 a0_2 a0_3 a0_4 l0_5 ((rd_T106 l0_5 x10_2).f0) ((rd_T106 l0_5 x10_2).f1) ((rd_T106 l0_5 x10_2).f2) ((rd_T106 l0_5 x10_2).f3) ((rd_T106 l0_5 x10_2).f4))) = some (r1, r2) := by rw [if_neg (show ¬ (false = true) by decide)] at H; exact H
                clear H; have H := H1; clear H1
                by_cases c68 : ((rd_T106 l0_5 x10_2).f0) < 8
                ·rw [if_pos c68] at H
                 have c68b0 : decide (((rd_T106 l0_5 x10_2).f0) < 8) = true := decide_eq_true c68; clear c68
                 by_cases c69 : 0 ≤ ((rd_T106 l0_5 x10_2).f2)
                 ·rw [if_pos c69] at H
                  have c69b0 : decide (0 ≤ ((rd_T106 l0_5 x10_2).f2)) = true := decide_eq_true c69; clear c69
                  by_cases c70 : ((rd_T106 l0_5 x10_2).f2) < (x5_3.length : Int)
                  ·rw [if_pos c70] at H
                   have c70b0 : decide (((rd_T106 l0_5 x10_2).f2) < (x5_3.length : Int)) = true := decide_eq_true c70; clear c70
                   by_cases c71 : 0 ≤ x12_3
                   ·rw [if_pos c71] at H
                    have c71b0 : decide (0 ≤ x12_3) = true := decide_eq_true c71; clear c71
                    by_cases c72 : x12_3 < ((rd_L4 x5_3 ((rd_T106 l0_5 x10_2).f2)).length : Int)
                    ·rw [if_pos c72] at H
                     have c72b0 : decide (x12_3 < ((rd_L4 x5_3 ((rd_T106 l0_5 x10_2).f2)).length : Int)) = true := decide_eq_true c72; clear c72
                     by_cases c73 : 0 ≤ ((rd_T106 l0_5 x10_2).f3)
                     ·rw [if_pos c73] at H
                      have c73b0 : decide (0 ≤ ((rd_T106 l0_5 x10_2).f3)) = true := decide_eq_true c73; clear c73
                      by_cases c74 : ((rd_T106 l0_5 x10_2).f3) < (x5_3.length : Int)
                      ·rw [if_pos c74] at H
                       have c74b0 : decide (((rd_T106 l0_5 x10_2).f3) < (x5_3.length : Int)) = true := decide_eq_true c74; clear c74
                       by_cases c75 : x12_3 < ((rd_L4 x5_3 ((rd_T106 l0_5 x10_2).f3)).length : Int)
                       ·rw [if_pos c75] at H
                        have c75b0 : decide (x12_3 < ((rd_L4 x5_3 ((rd_T106 l0_5 x10_2).f3)).length : Int)) = true := decide_eq_true c75; clear c75; replace H := Option.bind_eq_some_iff.mp H; obtain ⟨t312, A760, H⟩ := H
                        replace H : (if 0 ≤ ((rd_T106 l0_5 x10_2).f1) then (if ((rd_T106 l0_5 x10_2).f1) < (x5_3.length : Int) then (if 0 < (t312.length : Int) then (if x12_3 < ((rd_L4 x5_3 ((rd_T106 l0_5 x10_2).f1)).length : Int) then ((some (x5_3.set (((rd_T106 l0_5 x10_2).f1) : Int).toNat ((rd_L4 x5_3 ((rd_T106 l0_5 x10_2).f1)).set (x12_3 : Int).toNat (rd t312 0)) : List (List Int))).bind fun y319 => (if ((rd_T106 l0_5 x10_2).f0) = 7 then (if 0 ≤ ((rd_T106 l0_5 x10_2).f4) then (if ((rd_T106 l0_5 x10_2).f4) < (x5_3.length : Int) then (if 1 < (t312.length : Int) then (if x12_3 < ((rd_L4 y319 ((rd_T106 l0_5 x10_2).f4)).length : Int) then (steepleref27_Run.l3 kj48 (y319.set (((rd_T106 l0_5 x10_2).f4) : Int).toNat ((rd_L4 y319 ((rd_T106 l0_5 x10_2).f4)).set (x12_3 : Int).toNat (rd t312 1))) x10_2 (wrap64 (x12_3 + 1)) a0_0 a0_1 a0_2 a0_3 a0_4 l0_5 ((rd_T106 l0_5 x10_2).f0) ((rd_T106 l0_5 x10_2).f1) ((rd_T106 l0_5 x10_2).f2) ((rd_T106 l0_5 x10_2).f3) ((rd_T106 l0_5 x10_2).f4)) else (none)) else (none)) else (none)) else (none)) else (steepleref27_Run.l3 kj48 y319 x10_2 (wrap64 (x12_3 + 1)) a0_0 a0_1 a0_2 a0_3 a0_4 l0_5 ((rd_T106 l0_5 x10_2).f0) ((rd_T106 l0_5 x10_2).f1) ((rd_T106 l0_5 x10_2).f2) ((rd_T106 l0_5 x10_2).f3) ((rd_T106 l0_5 x10_2).f4)))) else (none)) else (none)) else (none)) else (none)) = some (r1, r2) := H
                        have A76 := Aside0.mk A760; clear A760
                        by_cases c77 : 0 ≤ ((rd_T106 l0_5 x10_2).f1)
                        ·rw [if_pos c77] at H
                         have c77b0 : decide (0 ≤ ((rd_T106 l0_5 x10_2).f1)) = true := decide_eq_true c77; clear c77
                         by_cases c78 : ((rd_T106 l0_5 x10_2).f1) < (x5_3.length : Int)
                         ·rw [if_pos c78] at H
                          have c78b0 : decide (((rd_T106 l0_5 x10_2).f1) < (x5_3.length : Int)) = true := decide_eq_true c78; clear c78
                          by_cases c79 : 0 < (t312.length : Int)
                          ·rw [if_pos c79] at H
                           have c79b0 : decide (0 < (t312.length : Int)) = true := decide_eq_true c79
                           have c79b1 : decide (0 < t312.length) = true := decide_eq_true (by omega)
                           clear c79
                           by_cases c80 : x12_3 < ((rd_L4 x5_3 ((rd_T106 l0_5 x10_2).f1)).length : Int)
                           ·rw [if_pos c80] at H
                            have c80b0 : decide (x12_3 < ((rd_L4 x5_3 ((rd_T106 l0_5 x10_2).f1)).length : Int)) = true := decide_eq_true c80; clear c80
                            obtain ⟨y317, hy317⟩ : ∃ y_ : List Int, y_ = ((rd_L4 x5_3 ((rd_T106 l0_5 x10_2).f1)).set (x12_3 : Int).toNat (rd t312 0)) := ⟨_, rfl⟩
                            replace H : ((some (x5_3.set (((rd_T106 l0_5 x10_2).f1) : Int).toNat y317 : List (List Int))).bind fun y319 => (if ((rd_T106 l0_5 x10_2).f0) = 7 then (if 0 ≤ ((rd_T106 l0_5 x10_2).f4) then (if ((rd_T106 l0_5 x10_2).f4) < (x5_3.length : Int) then (if 1 < (t312.length : Int) then (if x12_3 < ((rd_L4 y319 ((rd_T106 l0_5 x10_2).f4)).length : Int) then (steepleref27_Run.l3 kj48 (y319.set (((rd_T106 l0_5 x10_2).f4) : Int).toNat ((rd_L4 y319 ((rd_T106 l0_5 x10_2).f4)).set (x12_3 : Int).toNat (rd t312 1))) x10_2 (wrap64 (x12_3 + 1)) a0_0 a0_1 a0_2 a0_3 a0_4 l0_5 ((rd_T106 l0_5 x10_2).f0) ((rd_T106 l0_5 x10_2).f1) ((rd_T106 l0_5 x10_2).f2) ((rd_T106 l0_5 x10_2).f3) ((rd_T106 l0_5 x10_2).f4)) else (none)) else (none)) else (none)) else (none)) else (steepleref27_Run.l3 kj48 y319 x10_2 (wrap64 (x12_3 + 1)) a0_0 a0_1 a0_2 a0_3 a0_4 l0_5 ((rd_T106 l0_5 x10_2).f0) ((rd_T106 l0_5 x10_2).f1) ((rd_T106 l0_5 x10_2).f2) ((rd_T106 l0_5 x10_2).f3) ((rd_T106 l0_5 x10_2).f4)))) = some (r1, r2) := by first | (rw [hy317]; with_reducible exact H) | (have H2_ := (Option.bind_some _ _).symm.trans H; rw [hy317]; with_reducible exact H2_) | (have H2_ := (Option.bind_some _ _).symm.trans H; with_reducible exact H2_) | with_reducible exact H | (rw [hy317]; exact H) | exact H
                            have Ny317 := Aside0.mk hy317; clear hy317
                            obtain ⟨y319, hy319⟩ : ∃ y_ : List (List Int), y_ = (x5_3.set (((rd_T106 l0_5 x10_2).f1) : Int).toNat y317) := ⟨_, rfl⟩
                            replace H : (if ((rd_T106 l0_5 x10_2).f0) = 7 then (if 0 ≤ ((rd_T106 l0_5 x10_2).f4) then (if ((rd_T106 l0_5 x10_2).f4) < (x5_3.length : Int) then (if 1 < (t312.length : Int) then (if x12_3 < ((rd_L4 y319 ((rd_T106 l0_5 x10_2).f4)).length : Int) then (steepleref27_Run.l3 kj48 (y319.set (((rd_T106 l0_5 x10_2).f4) : Int).toNat ((rd_L4 y319 ((rd_T106 l0_5 x10_2).f4)).set (x12_3 : Int).toNat (rd t312 1))) x10_2 (wrap64 (x12_3 + 1)) a0_0 a0_1 a0_2 a0_3 a0_4 l0_5 ((rd_T106 l0_5 x10_2).f0) ((rd_T106 l0_5 x10_2).f1) ((rd_T106 l0_5 x10_2).f2) ((rd_T106 l0_5 x10_2).f3) ((rd_T106 l0_5 x10_2).f4)) else (none)) else (none)) else (none)) else (none)) else (steepleref27_Run.l3 kj48 y319 x10_2 (wrap64 (x12_3 + 1)) a0_0 a0_1 a0_2 a0_3 a0_4 l0_5 ((rd_T106 l0_5 x10_2).f0) ((rd_T106 l0_5 x10_2).f1) ((rd_T106 l0_5 x10_2).f2) ((rd_T106 l0_5 x10_2).f3) ((rd_T106 l0_5 x10_2).f4))) = some (r1, r2) := by first | (rw [hy319]; with_reducible exact H) | (have H2_ := (Option.bind_some _ _).symm.trans H; rw [hy319]; with_reducible exact H2_) | (have H2_ := (Option.bind_some _ _).symm.trans H; with_reducible exact H2_) | with_reducible exact H | (rw [hy319]; exact H) | exact H
                            have Ny319 := Aside0.mk hy319; clear hy319
                            by_cases c82 : ((rd_T106 l0_5 x10_2).f0) = 7
                            ·rw [if_pos c82] at H
                             have c82b0 : (((rd_T106 l0_5 x10_2).f0) == 7) = true := beq_iff_eq.mpr c82; have c82b1 : (((rd_T106 l0_5 x10_2).f0) != 7) = false := bne_eq_false_iff_eq.mpr c82; clear c82
                             by_cases c83 : 0 ≤ ((rd_T106 l0_5 x10_2).f4)
                             ·rw [if_pos c83] at H
                              have c83b0 : decide (0 ≤ ((rd_T106 l0_5 x10_2).f4)) = true := decide_eq_true c83; clear c83
                              by_cases c84 : ((rd_T106 l0_5 x10_2).f4) < (x5_3.length : Int)
                              ·rw [if_pos c84] at H
                               have c84b0 : decide (((rd_T106 l0_5 x10_2).f4) < (x5_3.length : Int)) = true := decide_eq_true c84; clear c84
                               by_cases c85 : 1 < (t312.length : Int)
                               ·rw [if_pos c85] at H
                                have c85b0 : decide (1 < (t312.length : Int)) = true := decide_eq_true c85
                                have c85b1 : decide (1 < t312.length) = true := decide_eq_true (by omega)
                                clear c85
                                by_cases c86 : x12_3 < ((rd_L4 y319 ((rd_T106 l0_5 x10_2).f4)).length : Int)
                                ·rw [if_pos c86] at H
                                 have c86b0 : decide (x12_3 < ((rd_L4 y319 ((rd_T106 l0_5 x10_2).f4)).length : Int)) = true := decide_eq_true c86; clear c86
                                 obtain ⟨y322, hy322⟩ : ∃ y_ : List Int, y_ = ((rd_L4 y319 ((rd_T106 l0_5 x10_2).f4)).set (x12_3 : Int).toNat (rd t312 1)) := ⟨_, rfl⟩
                                 replace H : (steepleref27_Run.l3 kj48 (y319.set (((rd_T106 l0_5 x10_2).f4) : Int).toNat y322) x10_2 (wrap64 (x12_3 + 1)) a0_0 a0_1 a0_2 a0_3 a0_4 l0_5 ((rd_T106 l0_5 x10_2).f0) ((rd_T106 l0_5 x10_2).f1) ((rd_T106 l0_5 x10_2).f2) ((rd_T106 l0_5 x10_2).f3) ((rd_T106 l0_5 x10_2).f4)) = some (r1, r2) := by first | (rw [hy322]; with_reducible exact H) | (have H2_ := (Option.bind_some _ _).symm.trans H; rw [hy322]; with_reducible exact H2_) | (have H2_ := (Option.bind_some _ _).symm.trans H; with_reducible exact H2_) | with_reducible exact H | (rw [hy322]; exact H) | exact H
                                 have Ny322 := Aside0.mk hy322; clear hy322
                                 obtain ⟨y324, hy324⟩ : ∃ y_ : List (List Int), y_ = (y319.set (((rd_T106 l0_5 x10_2).f4) : Int).toNat y322) := ⟨_, rfl⟩
                                 replace H : (steepleref27_Run.l3 kj48 y324 x10_2 (wrap64 (x12_3 + 1)) a0_0 a0_1 a0_2 a0_3 a0_4 l0_5 ((rd_T106 l0_5 x10_2).f0) ((rd_T106 l0_5 x10_2).f1) ((rd_T106 l0_5 x10_2).f2) ((rd_T106 l0_5 x10_2).f3) ((rd_T106 l0_5 x10_2).f4)) = some (r1, r2) := by first | (rw [hy324]; with_reducible exact H) | (have H2_ := (Option.bind_some _ _).symm.trans H; rw [hy324]; with_reducible exact H2_) | (have H2_ := (Option.bind_some _ _).symm.trans H; with_reducible exact H2_) | with_reducible exact H | (rw [hy324]; exact H) | exact H
                                 have Ny324 := Aside0.mk hy324; clear hy324; have H' := Aside0.mk H; clear H; have hnb88 := NB302_282.out; have hnc88 := NB282_302.out; have hnb89 := NB302_283.out; have hnc89 := NB283_302.out
                                 have hcz90 := fun i => blk_cell BK302.out i
                                 have hfz90 := fun i => blk_frozen BK302.out i
                                 try go_wp2
                                 have n0_ := Aside0.mk (Kd.S_drew HO_5.out); have n1_ := Aside0.mk (blk_drew BK282.out); have n2_ := Aside0.mk (blk_drew BK283.out); have n3_ := Aside0.mk (blk_drew BK302.out); have n4_ := Aside0.mk (below_drew1 HB.out); clear HO_5; clear BK282; clear BK283; clear BK302; clear HB; have HO_5 := n0_; have BK282 := n1_; have BK283 := n2_; have BK302 := n3_; have HB := n4_; clear n0_ n1_ n2_ n3_ n4_; obtain ⟨Ao92, co92, eo92⟩ := Kd.S_slice HO_5.out
                                 (first | subst eo92 | (injection eo92 with f1_ f2_ f3_; have f4_ := f1_.symm; have f5_ := f3_.symm; clear f1_ f2_ f3_; subst f4_; subst f5_))
                                 have p308 : 0 ≤ (((rd_T106 l0_5 x10_2).f2) : Int) := of_decide_eq_true (by first | (with_reducible assumption) | assumption)
                                 have q308 : ((rd_T106 l0_5 x10_2).f2) < (x5_3.length : Int) := of_decide_eq_true (by first | (with_reducible assumption) | assumption)
                                 obtain ⟨ad308, A308_0, c308_0, e308, hx308_0, hl308_0, hi308_0⟩ := at_L4 (Kd.S_reads' HO_5.out).2.2 ((rd_T106 l0_5 x10_2).f2) p308 q308
                                 cases e308
                                 obtain ⟨ce308, hce308, hMe308, hcc308⟩ := Kd.S_get HO_5.out [] ((rd_T106 l0_5 x10_2).f2) p308 (by first | exact q308 | exact of_decide_eq_true (by first | (with_reducible assumption) | assumption) | (have e_ := (Kd.S_reads' HO_5.out).1; omega))
                                 obtain ⟨ve308_0, rfl, ge308_0⟩ := hMe308; have hv308_0 := hcc308 0 _ rfl
                                 rw [Nat.add_zero, show ((Kd.slice 43 (Kd.int .u64))).sz = 1 from rfl, Nat.mul_one] at hv308_0
                                 replace hv308_0 := Option.some.inj (hv308_0.symm.trans hx308_0)
                                 rw [hv308_0] at ge308_0
                                 have HL308_0 := Aside0.mk (show Kd.R (Kd.int .u64) 43 _ _ _ _ (rd_L4 x5_3 ((rd_T106 l0_5 x10_2).f2)) from ge308_0)
                                 clear hv308_0 ge308_0; have HX308_0 := Aside0.mk hx308_0; clear hcc308 hce308; have HR308_0 := Aside0.mk hi308_0; have HC308_0 := Aside0.mk hl308_0; clear hi308_0 hl308_0; replace p308 := eq_true p308; replace q308 := eq_true q308
                                 have p309 : 0 ≤ (x12_3 : Int) := of_decide_eq_true (by first | (with_reducible assumption) | assumption)
                                 have q309 : x12_3 < ((rd_L4 x5_3 ((rd_T106 l0_5 x10_2).f2)).length : Int) := of_decide_eq_true (by first | (with_reducible assumption) | assumption)
                                 obtain ⟨ad309, e309, hx309_0⟩ := Kd.at_int (by repeat (first | (with_reducible exact HR308_0.out) | (with_reducible refine Kd.C_alloc ?_ _) | (with_reducible refine Kd.C_drewN ?_ _) | (with_reducible refine Kd.C_drew ?_) | exact HR308_0.out)) x12_3 p309 q309
                                 cases e309
                                 replace p309 := eq_true p309; replace q309 := eq_true q309
                                 have p310 : 0 ≤ (((rd_T106 l0_5 x10_2).f3) : Int) := of_decide_eq_true (by first | (with_reducible assumption) | assumption)
                                 have q310 : ((rd_T106 l0_5 x10_2).f3) < (x5_3.length : Int) := of_decide_eq_true (by first | (with_reducible assumption) | assumption)
                                 obtain ⟨ad310, A310_0, c310_0, e310, hx310_0, hl310_0, hi310_0⟩ := at_L4 (Kd.S_reads' HO_5.out).2.2 ((rd_T106 l0_5 x10_2).f3) p310 q310
                                 obtain rfl : ad308 = ad310 := (by injection e310)
                                 obtain ⟨ce310, hce310, hMe310, hcc310⟩ := Kd.S_get HO_5.out [] ((rd_T106 l0_5 x10_2).f3) p310 (by first | exact q310 | exact of_decide_eq_true (by first | (with_reducible assumption) | assumption) | (have e_ := (Kd.S_reads' HO_5.out).1; omega))
                                 obtain ⟨ve310_0, rfl, ge310_0⟩ := hMe310; have hv310_0 := hcc310 0 _ rfl
                                 rw [Nat.add_zero, show ((Kd.slice 43 (Kd.int .u64))).sz = 1 from rfl, Nat.mul_one] at hv310_0
                                 replace hv310_0 := Option.some.inj (hv310_0.symm.trans hx310_0)
                                 rw [hv310_0] at ge310_0
                                 have HL310_0 := Aside0.mk (show Kd.R (Kd.int .u64) 43 _ _ _ _ (rd_L4 x5_3 ((rd_T106 l0_5 x10_2).f3)) from ge310_0)
                                 clear hv310_0 ge310_0; have HX310_0 := Aside0.mk hx310_0; clear hcc310 hce310; have HR310_0 := Aside0.mk hi310_0; have HC310_0 := Aside0.mk hl310_0; clear hi310_0 hl310_0; replace p310 := eq_true p310; replace q310 := eq_true q310
                                 have p311 : 0 ≤ (x12_3 : Int) := of_decide_eq_true (by first | (with_reducible assumption) | assumption)
                                 have q311 : x12_3 < ((rd_L4 x5_3 ((rd_T106 l0_5 x10_2).f3)).length : Int) := of_decide_eq_true (by first | (with_reducible assumption) | assumption)
                                 obtain ⟨ad311, e311, hx311_0⟩ := Kd.at_int (by repeat (first | (with_reducible exact HR310_0.out) | (with_reducible refine Kd.C_alloc ?_ _) | (with_reducible refine Kd.C_drewN ?_ _) | (with_reducible refine Kd.C_drew ?_) | exact HR310_0.out)) x12_3 p311 q311
                                 cases e311
                                 replace p311 := eq_true p311; replace q311 := eq_true q311
                                 refine start_ (n := 20) (S := fun w' => w'.cell? ⟨gb282, 0, none⟩ = some (.int .i64 a0_0) ∧ w'.cell? ⟨gb282, 1, none⟩ = some (.int .i64 a0_1) ∧ w'.cell? ⟨gb282, 2, none⟩ = some (.int .i64 a0_2) ∧ w'.cell? ⟨gb282, 3, none⟩ = some (.int .i64 a0_3) ∧ w'.cell? ⟨gb282, 4, none⟩ = some (.int .i64 a0_4) ∧ w'.cell? ⟨gb282, 5, none⟩ = some (.slice (some ad301) l0_5.length c0_5) ∧ w'.cell? ⟨gb302, 0, none⟩ = some (.int .i64 ((rd_T106 l0_5 x10_2).f0)) ∧ w'.cell? ⟨gb302, 1, none⟩ = some (.int .i64 ((rd_T106 l0_5 x10_2).f1)) ∧ w'.cell? ⟨gb302, 2, none⟩ = some (.int .i64 ((rd_T106 l0_5 x10_2).f2)) ∧ w'.cell? ⟨gb302, 3, none⟩ = some (.int .i64 ((rd_T106 l0_5 x10_2).f3)) ∧ w'.cell? ⟨gb302, 4, none⟩ = some (.int .i64 ((rd_T106 l0_5 x10_2).f4)) ∧ w'.cell? (ad308.add (((rd_T106 l0_5 x10_2).f2)).toNat) = some (.slice (some ad309) (rd_L4 x5_3 ((rd_T106 l0_5 x10_2).f2)).length c308_0) ∧ w'.cell? (ad309.add (x12_3).toNat) = some (.int .u64 (rd (rd_L4 x5_3 ((rd_T106 l0_5 x10_2).f2)) x12_3)) ∧ w'.cell? (ad308.add (((rd_T106 l0_5 x10_2).f3)).toNat) = some (.slice (some ad311) (rd_L4 x5_3 ((rd_T106 l0_5 x10_2).f3)).length c310_0) ∧ w'.cell? (ad311.add (x12_3).toNat) = some (.int .u64 (rd (rd_L4 x5_3 ((rd_T106 l0_5 x10_2).f3)) x12_3))) (ds := []) #[false, false, false, false, false, false, false, false, false, false, false, false, false, false, false, false, false, false, false, false] (by kernel_rfl) rfl rfl ⟨(blk_cell BK282.out 0).trans rfl, (blk_cell BK282.out 1).trans rfl, (blk_cell BK282.out 2).trans rfl, (blk_cell BK282.out 3).trans rfl, (blk_cell BK282.out 4).trans rfl, (blk_cell BK282.out 5).trans rfl, (blk_cell BK302.out 0).trans rfl, (blk_cell BK302.out 1).trans rfl, (blk_cell BK302.out 2).trans rfl, (blk_cell BK302.out 3).trans rfl, (blk_cell BK302.out 4).trans rfl, hx308_0, hx309_0, hx310_0, hx311_0⟩ (fun hHeld => ?_); refine with_tabW steepleref27_Run.tab28 steepleref27_Run.bits28 (fun HT_ HW_ => ?_)
                                 generalize wc.drew = w91 at HO_5 BK282 BK283 BK302 HB HL308_0 HL310_0 HR308_0 HR310_0 HX308_0 HX310_0 hx308_0 hx309_0 hx310_0 hx311_0 hHeld ⊢
                                 refine pureA 2 (some 118) HT_.out ?_
                                 refine pureA 3 (some 119) HT_.out ?_
                                 refine pureA 7 (some 123) HT_.out ?_
                                 refine pureA 10 (some 126) HT_.out ?_
                                 refine pureA 11 (some 127) HT_.out ?_
                                 refine pureA 15 (some 131) HT_.out ?_
                                 refine takeA 0 (some 116) rfl HT_.out HW_.out hHeld (Or.inl ⟨by rfl, by rintro w' ⟨s0, s1, s2, s3, s4, s5, s6, s7, s8, s9, s10, s11, s12, s13, s14⟩; go_simp; with_reducible rfl⟩) ?_
                                 refine takeA 1 (some 117) rfl HT_.out HW_.out hHeld (Or.inl ⟨by rfl, by rintro w' ⟨s0, s1, s2, s3, s4, s5, s6, s7, s8, s9, s10, s11, s12, s13, s14⟩; go_simp; with_reducible rfl⟩) ?_
                                 refine takeA 4 (some 120) rfl HT_.out HW_.out hHeld (Or.inl ⟨by rfl, by rintro w' ⟨s0, s1, s2, s3, s4, s5, s6, s7, s8, s9, s10, s11, s12, s13, s14⟩; go_simp; with_reducible rfl⟩) ?_
                                 refine pureA 5 (some 121) HT_.out ?_
                                 refine takeA 6 (some 122) rfl HT_.out HW_.out hHeld (Or.inl ⟨by rfl, by rintro w' ⟨s0, s1, s2, s3, s4, s5, s6, s7, s8, s9, s10, s11, s12, s13, s14⟩; go_simp; with_reducible rfl⟩) ?_
                                 refine pureA 8 (some 124) HT_.out ?_
                                 refine takeA 9 (some 125) rfl HT_.out HW_.out hHeld (Or.inl ⟨by rfl, by rintro w' ⟨s0, s1, s2, s3, s4, s5, s6, s7, s8, s9, s10, s11, s12, s13, s14⟩; go_simp; with_reducible rfl⟩) ?_
                                 refine takeA 12 (some 128) rfl HT_.out HW_.out hHeld (Or.inl ⟨by rfl, by rintro w' ⟨s0, s1, s2, s3, s4, s5, s6, s7, s8, s9, s10, s11, s12, s13, s14⟩; go_simp; with_reducible rfl⟩) ?_
                                 refine pureA 13 (some 129) HT_.out ?_
                                 refine takeA 14 (some 130) rfl HT_.out HW_.out hHeld (Or.inl ⟨by rfl, by rintro w' ⟨s0, s1, s2, s3, s4, s5, s6, s7, s8, s9, s10, s11, s12, s13, s14⟩; go_simp; with_reducible rfl⟩) ?_
                                 refine pureA 16 (some 132) HT_.out ?_
                                 refine takeA 17 (some 133) rfl HT_.out HW_.out hHeld (Or.inl ⟨by rfl, by rintro w' ⟨s0, s1, s2, s3, s4, s5, s6, s7, s8, s9, s10, s11, s12, s13, s14⟩; go_simp; with_reducible rfl⟩) ?_
                                 refine one_ (i := 18) (N := some 134) #[true, true, true, true, true, true, true, true, true, true, true, true, true, true, true, true, true, true, true, false] rfl rfl (one_of HT_.out (by kernel_rfl)) (by decide) (fun K hK => ?_)
                                 refine goes_ Try.func69 (by kernel_rfl) rfl #[.agg #[.int .i64 a0_0, .int .i64 a0_1, .int .i64 a0_2, .int .i64 a0_3, .int .i64 a0_4, .slice (some ad301) l0_5.length c0_5], .agg #[.int .i64 ((rd_T106 l0_5 x10_2).f0), .int .i64 ((rd_T106 l0_5 x10_2).f1), .int .i64 ((rd_T106 l0_5 x10_2).f2), .int .i64 ((rd_T106 l0_5 x10_2).f3), .int .i64 ((rd_T106 l0_5 x10_2).f4)], .int .u64 (rd (rd_L4 x5_3 ((rd_T106 l0_5 x10_2).f2)) x12_3), .int .u64 (rd (rd_L4 x5_3 ((rd_T106 l0_5 x10_2).f3)) x12_3)] (by rfl) rfl rfl gsA ?_
                                 with_reducible refine (steepleref27_Made.calls kj48 a0_0 a0_1 a0_2 a0_3 a0_4 _ _ l0_5 ((rd_T106 l0_5 x10_2).f0) ((rd_T106 l0_5 x10_2).f1) ((rd_T106 l0_5 x10_2).f2) ((rd_T106 l0_5 x10_2).f3) ((rd_T106 l0_5 x10_2).f4) (rd (rd_L4 x5_3 ((rd_T106 l0_5 x10_2).f2)) x12_3) (rd (rd_L4 x5_3 ((rd_T106 l0_5 x10_2).f3)) x12_3) t312 _ ?side1 ?side2 A76.out).mono ?_
                                 (case side1 => repeat (first | exact (Kd.C_below HR0_5.out HB.out) | (with_reducible refine Kd.C_alloc ?_ _) | (with_reducible refine Kd.C_drewN ?_ _) | (with_reducible refine Kd.C_drew ?_)))
                                 (case side2 => exact HC0_5.out)
                                 rintro e w93 ⟨v313, rfl, ho0, hb⟩
                                 have HS11_ := (hb.cell (World.block_lt_of_cell? _ _ (hHeld.2.2.2.2.2.2.2.2.2.2.2.1))).trans (hHeld.2.2.2.2.2.2.2.2.2.2.2.1); have HS12_ := (hb.cell (World.block_lt_of_cell? _ _ (hHeld.2.2.2.2.2.2.2.2.2.2.2.2.1))).trans (hHeld.2.2.2.2.2.2.2.2.2.2.2.2.1); have HS13_ := (hb.cell (World.block_lt_of_cell? _ _ (hHeld.2.2.2.2.2.2.2.2.2.2.2.2.2.1))).trans (hHeld.2.2.2.2.2.2.2.2.2.2.2.2.2.1); have HS14_ := (hb.cell (World.block_lt_of_cell? _ _ (hHeld.2.2.2.2.2.2.2.2.2.2.2.2.2.2))).trans (hHeld.2.2.2.2.2.2.2.2.2.2.2.2.2.2)
                                 refine ⟨_, rfl, ?_⟩
                                 have n0_ := Aside0.mk (Kd.S_elder' (by (with_reducible repeat (first | apply Kd.S_alloc | apply Kd.S_drewN | apply Kd.S_drew)); exact HO_5.out) (Kd.R_base ho0) hb)
                                 have n1_ := Aside0.mk (Kd.R_elder' (raA HL308_0.out) (Kd.R_base ho0) hb)
                                 have n2_ := Aside0.mk (Kd.R_elder' (raA HL310_0.out) (Kd.R_base ho0) hb)
                                 have n3_ := Aside0.mk (Kd.R_lower (Kd.R_new' (Kd.R_new' ho0 (Kd.R_lt (raA HL308_0.out))) (Kd.R_lt (raA HL310_0.out))) (below_size (blA HB.out)))
                                 have n4_ := Aside0.mk (blk_below (bkA BK282.out) hb); have n5_ := Aside0.mk (blk_below (bkA BK283.out) hb); have n6_ := Aside0.mk (blk_below (bkA BK302.out) hb)
                                 have n7_ := Aside0.mk (Kd.C_below (by repeat (first | (with_reducible exact HR308_0.out) | (with_reducible refine Kd.C_alloc ?_ _) | (with_reducible refine Kd.C_drewN ?_ _) | (with_reducible refine Kd.C_drew ?_) | exact HR308_0.out)) hb)
                                 have n8_ := Aside0.mk (pw_cell_below hb HX308_0.out)
                                 have n9_ := Aside0.mk (Kd.C_below (by repeat (first | (with_reducible exact HR310_0.out) | (with_reducible refine Kd.C_alloc ?_ _) | (with_reducible refine Kd.C_drewN ?_ _) | (with_reducible refine Kd.C_drew ?_) | exact HR310_0.out)) hb)
                                 have n10_ := Aside0.mk (pw_cell_below hb HX310_0.out); have n11_ := Aside0.mk (below_step (blA HB.out) hb); clear HO_5; clear HL308_0; clear HL310_0; clear BK282; clear BK283; clear BK302; clear HR308_0; clear HX308_0; clear HR310_0; clear HX310_0; clear HB; have HO_5 := n0_; have HL308_0 := n1_; have HL310_0 := n2_; have HO314 := n3_; have BK282 := n4_; have BK283 := n5_; have BK302 := n6_; have HR308_0 := n7_; have HX308_0 := n8_; have HR310_0 := n9_; have HX310_0 := n10_; have HB := n11_; clear n0_ n1_ n2_ n3_ n4_ n5_ n6_ n7_ n8_ n9_ n10_ n11_
                                 (try clear hb)
                                 (try clear ho0)
                                 refine hK.out _ _ ⟨(blk_cell BK282.out 0).trans rfl, (blk_cell BK282.out 1).trans rfl, (blk_cell BK282.out 2).trans rfl, (blk_cell BK282.out 3).trans rfl, (blk_cell BK282.out 4).trans rfl, (blk_cell BK282.out 5).trans rfl, (blk_cell BK302.out 0).trans rfl, (blk_cell BK302.out 1).trans rfl, (blk_cell BK302.out 2).trans rfl, (blk_cell BK302.out 3).trans rfl, (blk_cell BK302.out 4).trans rfl, HS11_, HS12_, HS13_, HS14_⟩ (fun hHeld => ?_)
                                 clear hK K
                                 refine normA ?_
                                 refine pureA 19 (some 13) HT_.out ?_
                                 refine done_ (done_of HT_.out (by kernel_rfl)) ?_
                                 try go_wp2
                                 have n0_ := Aside0.mk (Kd.S_drew HO_5.out); have n1_ := Aside0.mk (Kd.R_drew HL308_0.out); have n2_ := Aside0.mk (Kd.R_drew HL310_0.out); have n3_ := Aside0.mk (Kd.R_drew HO314.out); have n4_ := Aside0.mk (blk_drew BK282.out); have n5_ := Aside0.mk (blk_drew BK283.out); have n6_ := Aside0.mk (blk_drew BK302.out); have n7_ := Aside0.mk (Kd.C_drew HR308_0.out); have n8_ := Aside0.mk (Kd.C_drew HR310_0.out); have n9_ := Aside0.mk (below_drew1 HB.out); clear HO_5; clear HL308_0; clear HL310_0; clear HO314; clear BK282; clear BK283; clear BK302; clear HR308_0; clear HR310_0; clear HB; have HO_5 := n0_; have HL308_0 := n1_; have HL310_0 := n2_; have HO314 := n3_; have BK282 := n4_; have BK283 := n5_; have BK302 := n6_; have HR308_0 := n7_; have HR310_0 := n8_; have HB := n9_; clear n0_ n1_ n2_ n3_ n4_ n5_ n6_ n7_ n8_ n9_
                                 have p315 : 0 ≤ (((rd_T106 l0_5 x10_2).f1) : Int) := of_decide_eq_true (by first | (with_reducible assumption) | assumption)
                                 have q315 : ((rd_T106 l0_5 x10_2).f1) < (x5_3.length : Int) := of_decide_eq_true (by first | (with_reducible assumption) | assumption)
                                 obtain ⟨ad315, A315_0, c315_0, e315, hx315_0, hl315_0, hi315_0⟩ := at_L4 (Kd.S_reads' HO_5.out).2.2 ((rd_T106 l0_5 x10_2).f1) p315 q315
                                 obtain rfl : ad308 = ad315 := (by injection e315)
                                 obtain ⟨ce315, hce315, hMe315, hcc315⟩ := Kd.S_get HO_5.out [] ((rd_T106 l0_5 x10_2).f1) p315 (by first | exact q315 | exact of_decide_eq_true (by first | (with_reducible assumption) | assumption) | (have e_ := (Kd.S_reads' HO_5.out).1; omega))
                                 obtain ⟨ve315_0, rfl, ge315_0⟩ := hMe315; have hv315_0 := hcc315 0 _ rfl
                                 rw [Nat.add_zero, show ((Kd.slice 43 (Kd.int .u64))).sz = 1 from rfl, Nat.mul_one] at hv315_0
                                 replace hv315_0 := Option.some.inj (hv315_0.symm.trans hx315_0)
                                 rw [hv315_0] at ge315_0
                                 have HL315_0 := Aside0.mk (show Kd.R (Kd.int .u64) 43 _ _ _ _ (rd_L4 x5_3 ((rd_T106 l0_5 x10_2).f1)) from ge315_0)
                                 clear hv315_0 ge315_0; have HX315_0 := Aside0.mk hx315_0; clear hcc315 hce315; have HR315_0 := Aside0.mk hi315_0; have HC315_0 := Aside0.mk hl315_0; clear hi315_0 hl315_0; replace p315 := eq_true p315; replace q315 := eq_true q315; obtain ⟨Ao95, co95, eo95⟩ := Kd.R_slice HO314.out
                                 (first | subst eo95 | (injection eo95 with f1_ f2_ f3_; have f4_ := f1_.symm; have f5_ := f3_.symm; clear f1_ f2_ f3_; subst f4_; subst f5_))
                                 have p316 : 0 ≤ (0 : Int) := (by omega)
                                 have q316 : 0 < (t312.length : Int) := of_decide_eq_true (by first | (with_reducible assumption) | assumption)
                                 obtain ⟨ad316, e316, hx316_0⟩ := Kd.at_int (Kd.R_reads' HO314.out).2.2 0 p316 q316
                                 cases e316
                                 have qi316 : (0 < t312.length) = True := eq_true (by omega)
                                 (try rw [show ((0 : Int)).toNat = 0 from rfl] at hx316_0)
                                 (try rw [Addr.add_zero'] at hx316_0)
                                 replace p316 := eq_true p316; replace q316 := eq_true q316
                                 have p81 : 0 ≤ (x12_3 : Int) := of_decide_eq_true (by first | (with_reducible assumption) | assumption)
                                 have q81 : (x12_3 : Int) < (((rd_L4 x5_3 ((rd_T106 l0_5 x10_2).f1)).length : Int) : Int) := of_decide_eq_true (by first | (with_reducible assumption) | assumption)
                                 obtain ⟨go81, co81, eo81, gb81, gl81, cl81, HG81⟩ := Kd.R_form HL315_0.out (by omega)
                                 (first | cases eo81 | (injection eo81 with ea_ en_ ec_; (first | subst ea_ | (injection ea_ with ea_; subst ea_)); subst ec_; clear en_))
                                 have GB81 := Aside0.mk gb81; have GG81 := Aside0.mk HG81; clear gb81 gl81 HG81; obtain ⟨hx81_0, hf81_0⟩ := Kd.R_celln 0 HL315_0.out (x12_3 : Int) p81 q81; replace p81 := eq_true p81; replace q81 := eq_true q81
                                 have n_ := Aside0.mk (Kd.S_mono (ok' := (fun k_ => some k_ ≠ (.slice (some ad316) t312.length co95 : Value).ownBlock)) HO_5.out (fun k_ hk => hk.2))
                                 clear HO_5; have HO_5 := n_; clear n_
                                 have hq96 : (((rd_T106 l0_5 x10_2).f1) : Int) < (x5_3.length : Int) := (by have h_ : (((rd_T106 l0_5 x10_2).f1) : Int) < ((x5_3.length : Int) : Int) := of_decide_eq_true (by first | (with_reducible assumption) | assumption); first | exact h_ | (have e_ := (Kd.S_reads' HO_5.out).1; omega) | simpa only [List.length_set, List.length_set] using h_)
                                 obtain ⟨oki96, ce96, hcl96, hM96, hcc96, hok96, hbk96⟩ := Kd.S_borrow HO_5.out [] (((rd_T106 l0_5 x10_2).f1) : Int) (of_decide_eq_true (by first | (with_reducible assumption) | assumption)) (by first | exact hq96 | exact of_decide_eq_true (by first | (with_reducible assumption) | assumption) | (have e_ := (Kd.S_reads' HO_5.out).1; omega))
                                 obtain ⟨ve96_0, rfl, ge96_0⟩ := hM96; have hv96 := hcc96 0 _ rfl
                                 rw [Nat.add_zero, show ((Kd.slice 43 (Kd.int .u64))).sz = 1 from rfl, Nat.mul_one] at hv96
                                 replace hv96 := Option.some.inj (hv96.symm.trans HX315_0.out); subst hv96; clear hcc96 hcl96
                                 replace ge96_0 := (show Kd.R (Kd.int .u64) 43 _ _ _ _ (rd_L4 x5_3 ((rd_T106 l0_5 x10_2).f1)) from ge96_0)
                                 have HP96 := Kd.R_putg ge96_0 (x12_3 : Int) (rd t312 0)
                                 rw [← Ny317.out] at HP96
                                 have HS96 := hbk96 HP96.2 (fun k_ e_ => by injection e_ with e_; subst e_; exact ge96_0.1 _ rfl) (x' := y317) (Kd.M_row HP96.1)
                                 rw [← Ny319.out] at HS96
                                 have HQ96 := Aside0.mk HS96; clear HP96 HS96 hbk96 hok96
                                 refine start_ (n := 11) (S := fun w' => w'.cell? ⟨gb302, 0, none⟩ = some (.int .i64 ((rd_T106 l0_5 x10_2).f0)) ∧ w'.cell? ⟨gb302, 1, none⟩ = some (.int .i64 ((rd_T106 l0_5 x10_2).f1)) ∧ w'.cell? ⟨gb302, 2, none⟩ = some (.int .i64 ((rd_T106 l0_5 x10_2).f2)) ∧ w'.cell? ⟨gb302, 3, none⟩ = some (.int .i64 ((rd_T106 l0_5 x10_2).f3)) ∧ w'.cell? ⟨gb302, 4, none⟩ = some (.int .i64 ((rd_T106 l0_5 x10_2).f4)) ∧ w'.cell? (ad308.add (((rd_T106 l0_5 x10_2).f1)).toNat) = some (.slice (some ⟨go81, 0, none⟩) (rd_L4 x5_3 ((rd_T106 l0_5 x10_2).f1)).length c315_0) ∧ w'.cell? ad316 = some (.int .u64 (rd t312 0))) (ds := [10]) #[false, false, false, false, false, false, false, false, false, false, false] (by kernel_rfl) rfl rfl ⟨(blk_cell BK302.out 0).trans rfl, (blk_cell BK302.out 1).trans rfl, (blk_cell BK302.out 2).trans rfl, (blk_cell BK302.out 3).trans rfl, (blk_cell BK302.out 4).trans rfl, hx315_0, hx316_0⟩ (fun hHeld => ?_); refine with_tabW steepleref27_Run.tab29 steepleref27_Run.bits29 (fun HT_ HW_ => ?_)
                                 generalize w93.drew = w94 at HO_5 HL308_0 HL310_0 HO314 BK282 BK283 BK302 HR308_0 HR310_0 HB GG81 HL315_0 HQ96 HR315_0 HX315_0 hf81_0 hx315_0 hx316_0 hx81_0 hHeld ⊢
                                 refine pureA 0 (some 135) HT_.out ?_
                                 refine pureA 1 (some 136) HT_.out ?_
                                 refine pureA 5 (some 140) HT_.out ?_
                                 refine pureA 6 (some 141) HT_.out ?_
                                 refine pureA 7 (some 142) HT_.out ?_
                                 refine takeA 2 (some 137) rfl HT_.out HW_.out hHeld (Or.inl ⟨by rfl, by rintro w' ⟨s0, s1, s2, s3, s4, s5, s6⟩; go_simp; with_reducible rfl⟩) ?_
                                 refine pureA 3 (some 138) HT_.out ?_
                                 refine takeA 4 (some 139) rfl HT_.out HW_.out hHeld (Or.inl ⟨by rfl, by rintro w' ⟨s0, s1, s2, s3, s4, s5, s6⟩; go_simp; with_reducible rfl⟩) ?_
                                 refine takeA 8 (some 143) rfl HT_.out HW_.out hHeld (Or.inl ⟨by rfl, by rintro w' ⟨s0, s1, s2, s3, s4, s5, s6⟩; go_simp; with_reducible rfl⟩) ?_
                                 refine pureA 9 (some 144) HT_.out ?_
                                 refine last_ (i := 10) (N := none) #[true, true, true, true, true, true, true, true, true, true, true] rfl rfl (one_of HT_.out (by kernel_rfl)) (by decide) (fun K hK => ?_)
                                 refine skip_ (w1 := ?_) (by rfl) rfl ?_ ?_
                                 rotate_left
                                 ·go_simp
                                  rfl
                                 refine hK.out _ _ ?_
                                 clear hK K
                                 refine done_ (done_of HT_.out (by kernel_rfl)) ?_
                                 have hcz98 := fun i => blk_cell BK302.out i
                                 have hfz98 := fun i => blk_frozen BK302.out i
                                 have hnb_3020 : go81 ≠ gb302 := (by have h_ := Kd.R_ne HL315_0.out BK302.out (by decide); intro e_; exact h_ (by rw [e_]; rfl)); have hnc_3020 := Ne.symm hnb_3020
                                 try go_wp2
                                 have n0_ : Aside0 (Kd.S (Kd.slice 43 (Kd.int .u64)) 68 (w94.setCell ⟨go81, (x12_3 : Int).toNat, none⟩ (.int .u64 (rd t312 0))) w.heap.size (fun k_ => some k_ ≠ (.slice (some ad316) t312.length co95 : Value).ownBlock) (.slice (some ad308) x5_3.length co92) y319) := ⟨by (with_reducible repeat (first | apply Kd.S_alloc | apply Kd.S_drewN | apply Kd.S_drew)); exact HQ96.out⟩
                                 have n1_ : Aside0 (Kd.R (Kd.int .u64) 43 (w94.setCell ⟨go81, (x12_3 : Int).toNat, none⟩ (.int .u64 (rd t312 0))) w.heap.size (fun _ => True) (.slice (some ad316) t312.length co95) t312) := ⟨by (with_reducible repeat (first | apply Kd.R_alloc | apply Kd.R_drewN | apply Kd.R_drew)); exact Kd.R_mono (Kd.R_far (p := ⟨go81, (x12_3 : Int).toNat, none⟩) (Kd.R_far1 HO314.out rfl ((HL315_0.out.1 _ rfl).1.2)) (fun _ hk => hk.2) (.int .u64 (rd t312 0))) (fun _ hk => trivial)⟩
                                 have n2_ : Aside0 ((w94.setCell ⟨go81, (x12_3 : Int).toNat, none⟩ (.int .u64 (rd t312 0))).heap[gb282]? = some (.cells #[.int .i64 a0_0, .int .i64 a0_1, .int .i64 a0_2, .int .i64 a0_3, .int .i64 a0_4, .slice (some ad301) l0_5.length c0_5] 28 (0, 0))) := ⟨by refine bkA ?_; refine blk_far ?_ (by have h_ := Kd.R_ne HL315_0.out BK282.out (by decide); intro e_; exact h_ (by rw [e_]; rfl)) _; refine bkA ?_; exact BK282.out⟩
                                 have n3_ : Aside0 ((w94.setCell ⟨go81, (x12_3 : Int).toNat, none⟩ (.int .u64 (rd t312 0))).heap[gb283]? = some (.cells #[.slice none 0 0, .int .i64 x284001_3] 61 (0, 0))) := ⟨by refine bkA ?_; refine blk_far ?_ (by have h_ := Kd.R_ne HL315_0.out BK283.out (by decide); intro e_; exact h_ (by rw [e_]; rfl)) _; refine bkA ?_; exact BK283.out⟩
                                 have n4_ : Aside0 ((w94.setCell ⟨go81, (x12_3 : Int).toNat, none⟩ (.int .u64 (rd t312 0))).heap[gb302]? = some (.cells #[.int .i64 ((rd_T106 l0_5 x10_2).f0), .int .i64 ((rd_T106 l0_5 x10_2).f1), .int .i64 ((rd_T106 l0_5 x10_2).f2), .int .i64 ((rd_T106 l0_5 x10_2).f3), .int .i64 ((rd_T106 l0_5 x10_2).f4)] 106 (0, 0))) := ⟨by refine bkA ?_; refine blk_far ?_ (by have h_ := Kd.R_ne HL315_0.out BK302.out (by decide); intro e_; exact h_ (by rw [e_]; rfl)) _; refine bkA ?_; exact BK302.out⟩
                                 have n5_ : Aside0 (Below w.heap.size w (w94.setCell ⟨go81, (x12_3 : Int).toNat, none⟩ (.int .u64 (rd t312 0)))) := ⟨blA HB.out⟩
                                 (try clear HO_5)
                                 (try clear HO314)
                                 (try clear BK282)
                                 (try clear BK283)
                                 (try clear BK302)
                                 (try clear HB)
                                 generalize (w94.setCell ⟨go81, (x12_3 : Int).toNat, none⟩ (.int .u64 (rd t312 0))) = w99 at n0_ n1_ n2_ n3_ n4_ n5_ ⊢
                                 have HO_5 := n0_; have HO314 := n1_; have BK282 := n2_; have BK283 := n3_; have BK302 := n4_; have HB := n5_; clear n0_ n1_ n2_ n3_ n4_ n5_; have n0_ := Aside0.mk (Kd.S_drew HO_5.out); have n1_ := Aside0.mk (Kd.R_drew HO314.out); have n2_ := Aside0.mk (blk_drew BK282.out); have n3_ := Aside0.mk (blk_drew BK283.out); have n4_ := Aside0.mk (blk_drew BK302.out); have n5_ := Aside0.mk (below_drew1 HB.out); clear HO_5; clear HO314; clear BK282; clear BK283; clear BK302; clear HB; have HO_5 := n0_; have HO314 := n1_; have BK282 := n2_; have BK283 := n3_; have BK302 := n4_; have HB := n5_; clear n0_ n1_ n2_ n3_ n4_ n5_
                                 have p320 : 0 ≤ (((rd_T106 l0_5 x10_2).f4) : Int) := of_decide_eq_true (by first | (with_reducible assumption) | assumption)
                                 have q320 : ((rd_T106 l0_5 x10_2).f4) < (y319.length : Int) := (by have h_ : (((rd_T106 l0_5 x10_2).f4) : Int) < ((x5_3.length : Int) : Int) := of_decide_eq_true (by first | (with_reducible assumption) | assumption); first | (have e_ := (Kd.S_reads' HO_5.out).1; omega) | simpa only [Ny319.out, List.length_set] using h_)
                                 have ql320 : ((((rd_T106 l0_5 x10_2).f4) : Int) < ((x5_3.length : Int) : Int)) = True := eq_true (of_decide_eq_true (by first | (with_reducible assumption) | assumption))
                                 obtain ⟨ad320, A320_0, c320_0, e320, hx320_0, hl320_0, hi320_0⟩ := at_L4 (Kd.S_reads' HO_5.out).2.2 ((rd_T106 l0_5 x10_2).f4) p320 q320
                                 obtain rfl : ad308 = ad320 := (by injection e320)
                                 obtain ⟨ce320, hce320, hMe320, hcc320⟩ := Kd.S_get HO_5.out [] ((rd_T106 l0_5 x10_2).f4) p320 (by first | exact q320 | exact of_decide_eq_true (by first | (with_reducible assumption) | assumption) | (have e_ := (Kd.S_reads' HO_5.out).1; omega))
                                 obtain ⟨ve320_0, rfl, ge320_0⟩ := hMe320; have hv320_0 := hcc320 0 _ rfl
                                 rw [Nat.add_zero, show ((Kd.slice 43 (Kd.int .u64))).sz = 1 from rfl, Nat.mul_one] at hv320_0
                                 replace hv320_0 := Option.some.inj (hv320_0.symm.trans hx320_0)
                                 rw [hv320_0] at ge320_0
                                 have HL320_0 := Aside0.mk (show Kd.R (Kd.int .u64) 43 _ _ _ _ (rd_L4 y319 ((rd_T106 l0_5 x10_2).f4)) from ge320_0)
                                 clear hv320_0 ge320_0; have HX320_0 := Aside0.mk hx320_0; clear hcc320 hce320; have HR320_0 := Aside0.mk hi320_0; have HC320_0 := Aside0.mk hl320_0; clear hi320_0 hl320_0; replace p320 := eq_true p320; replace q320 := eq_true q320
                                 have p321 : 0 ≤ (1 : Int) := (by omega)
                                 have q321 : 1 < (t312.length : Int) := of_decide_eq_true (by first | (with_reducible assumption) | assumption)
                                 obtain ⟨ad321, e321, hx321_0⟩ := Kd.at_int (Kd.R_reads' HO314.out).2.2 1 p321 q321
                                 obtain rfl : ad316 = ad321 := (by injection e321)
                                 (try simp only [show (1 : Int).toNat = 1 from rfl, Nat.reduceMul, Nat.reduceEqDiff, Go.Addr.add, ↓reduceIte] at hx321_0)
                                 have qi321 : (1 < t312.length) = True := eq_true (by omega)
                                 (try rw [show ((1 : Int)).toNat = 1 from rfl] at hx321_0)
                                 replace p321 := eq_true p321; replace q321 := eq_true q321
                                 have p87 : 0 ≤ (x12_3 : Int) := of_decide_eq_true (by first | (with_reducible assumption) | assumption)
                                 have q87 : (x12_3 : Int) < (((rd_L4 y319 ((rd_T106 l0_5 x10_2).f4)).length : Int) : Int) := of_decide_eq_true (by first | (with_reducible assumption) | assumption)
                                 obtain ⟨go87, co87, eo87, gb87, gl87, cl87, HG87⟩ := Kd.R_form HL320_0.out (by omega)
                                 (first | cases eo87 | (injection eo87 with ea_ en_ ec_; (first | subst ea_ | (injection ea_ with ea_; subst ea_)); subst ec_; clear en_))
                                 have GB87 := Aside0.mk gb87; have GG87 := Aside0.mk HG87; clear gb87 gl87 HG87; obtain ⟨hx87_0, hf87_0⟩ := Kd.R_celln 0 HL320_0.out (x12_3 : Int) p87 q87; replace p87 := eq_true p87; replace q87 := eq_true q87
                                 have hq101 : (((rd_T106 l0_5 x10_2).f4) : Int) < (y319.length : Int) := (by have h_ : (((rd_T106 l0_5 x10_2).f4) : Int) < ((x5_3.length : Int) : Int) := of_decide_eq_true (by first | (with_reducible assumption) | assumption); first | exact h_ | (have e_ := (Kd.S_reads' HO_5.out).1; omega) | simpa only [Ny319.out, List.length_set] using h_)
                                 obtain ⟨oki101, ce101, hcl101, hM101, hcc101, hok101, hbk101⟩ := Kd.S_borrow HO_5.out [] (((rd_T106 l0_5 x10_2).f4) : Int) (of_decide_eq_true (by first | (with_reducible assumption) | assumption)) (by first | exact hq101 | exact of_decide_eq_true (by first | (with_reducible assumption) | assumption) | (have e_ := (Kd.S_reads' HO_5.out).1; omega))
                                 obtain ⟨ve101_0, rfl, ge101_0⟩ := hM101; have hv101 := hcc101 0 _ rfl
                                 rw [Nat.add_zero, show ((Kd.slice 43 (Kd.int .u64))).sz = 1 from rfl, Nat.mul_one] at hv101
                                 replace hv101 := Option.some.inj (hv101.symm.trans HX320_0.out); subst hv101; clear hcc101 hcl101
                                 replace ge101_0 := (show Kd.R (Kd.int .u64) 43 _ _ _ _ (rd_L4 y319 ((rd_T106 l0_5 x10_2).f4)) from ge101_0)
                                 have HP101 := Kd.R_putg ge101_0 (x12_3 : Int) (rd t312 1)
                                 rw [← Ny322.out] at HP101
                                 have HS101 := hbk101 HP101.2 (fun k_ e_ => by injection e_ with e_; subst e_; exact ge101_0.1 _ rfl) (x' := y322) (Kd.M_row HP101.1)
                                 rw [← Ny324.out] at HS101
                                 have HQ101 := Aside0.mk HS101; clear HP101 HS101 hbk101 hok101
                                 refine start_ (n := 11) (S := fun w' => w'.cell? ⟨gb302, 0, none⟩ = some (.int .i64 ((rd_T106 l0_5 x10_2).f0)) ∧ w'.cell? ⟨gb302, 1, none⟩ = some (.int .i64 ((rd_T106 l0_5 x10_2).f1)) ∧ w'.cell? ⟨gb302, 2, none⟩ = some (.int .i64 ((rd_T106 l0_5 x10_2).f2)) ∧ w'.cell? ⟨gb302, 3, none⟩ = some (.int .i64 ((rd_T106 l0_5 x10_2).f3)) ∧ w'.cell? ⟨gb302, 4, none⟩ = some (.int .i64 ((rd_T106 l0_5 x10_2).f4)) ∧ w'.cell? (ad308.add (((rd_T106 l0_5 x10_2).f4)).toNat) = some (.slice (some ⟨go87, 0, none⟩) (rd_L4 y319 ((rd_T106 l0_5 x10_2).f4)).length c320_0) ∧ w'.cell? ⟨ad316.block, ad316.off + 1, none⟩ = some (.int .u64 (rd t312 1))) (ds := [10]) #[false, false, false, false, false, false, false, false, false, false, false] (by kernel_rfl) rfl rfl ⟨(blk_cell BK302.out 0).trans rfl, (blk_cell BK302.out 1).trans rfl, (blk_cell BK302.out 2).trans rfl, (blk_cell BK302.out 3).trans rfl, (blk_cell BK302.out 4).trans rfl, hx320_0, hx321_0⟩ (fun hHeld => ?_); refine with_tabW steepleref27_Run.tab31 steepleref27_Run.bits31 (fun HT_ HW_ => ?_)
                                 generalize w99.drew = w100 at HO_5 HO314 BK282 BK283 BK302 HB GG87 HL320_0 HQ101 HQ96 HR320_0 HX320_0 hf87_0 hx320_0 hx321_0 hx87_0 hHeld ⊢
                                 refine pureA 0 (some 148) HT_.out ?_
                                 refine pureA 1 (some 149) HT_.out ?_
                                 refine pureA 5 (some 153) HT_.out ?_
                                 refine pureA 6 (some 154) HT_.out ?_
                                 refine pureA 7 (some 155) HT_.out ?_
                                 refine takeA 2 (some 150) rfl HT_.out HW_.out hHeld (Or.inl ⟨by rfl, by rintro w' ⟨s0, s1, s2, s3, s4, s5, s6⟩; go_simp; with_reducible rfl⟩) ?_
                                 refine pureA 3 (some 151) HT_.out ?_
                                 refine takeA 4 (some 152) rfl HT_.out HW_.out hHeld (Or.inl ⟨by rfl, by rintro w' ⟨s0, s1, s2, s3, s4, s5, s6⟩; go_simp; with_reducible rfl⟩) ?_
                                 refine takeA 8 (some 156) rfl HT_.out HW_.out hHeld (Or.inl ⟨by rfl, by rintro w' ⟨s0, s1, s2, s3, s4, s5, s6⟩; go_simp; with_reducible rfl⟩) ?_
                                 refine pureA 9 (some 157) HT_.out ?_
                                 refine last_ (i := 10) (N := none) #[true, true, true, true, true, true, true, true, true, true, true] rfl rfl (one_of HT_.out (by kernel_rfl)) (by decide) (fun K hK => ?_)
                                 refine skip_ (w1 := ?_) (by rfl) rfl ?_ ?_
                                 rotate_left
                                 ·go_simp
                                  rfl
                                 refine hK.out _ _ ?_
                                 clear hK K
                                 refine done_ (done_of HT_.out (by kernel_rfl)) ?_
                                 try go_wp2
                                 go_roundg kj48
                                 case measure => have := HK1.out; have := HK2.out; have := HK3.out; have := HJ48.out; omega
                                 case rel => exact ⟨(y324), (wrap64 (x12_3 + 1)), (x284001_3), eqA, H', ⟨by have := HK1.out; have := HK2.out; have := HK3.out; have := HJ48.out; omega⟩, ⟨by (with_reducible repeat (first | apply Kd.S_alloc | apply Kd.S_drewN | apply Kd.S_drew)); exact Kd.S_mono HQ101.out (fun _ hk => trivial)⟩, ⟨by refine bkA ?_; refine blk_far ?_ (by have h_ := Kd.R_ne HL320_0.out BK282.out (by decide); intro e_; exact h_ (by rw [e_]; rfl)) _; refine bkA ?_; exact BK282.out⟩, ⟨by refine bkA ?_; refine blk_far ?_ (by have h_ := Kd.R_ne HL320_0.out BK283.out (by decide); intro e_; exact h_ (by rw [e_]; rfl)) _; refine bkA ?_; exact BK283.out⟩, ⟨by refine bkA ?_; refine blk_far ?_ (by have h_ := Kd.R_ne HL320_0.out BK302.out (by decide); intro e_; exact h_ (by rw [e_]; rfl)) _; refine bkA ?_; exact BK302.out⟩, ⟨blA HB.out⟩⟩
                                ·rw [if_neg c86] at H
                                 exact absurd H (by simp)
                               ·rw [if_neg c85] at H
                                exact absurd H (by simp)
                              ·rw [if_neg c84] at H
                               exact absurd H (by simp)
                             ·rw [if_neg c83] at H
                              exact absurd H (by simp)
                            ·rw [if_neg c82] at H
                             have c82b0 : (((rd_T106 l0_5 x10_2).f0) == 7) = false := beq_eq_false_iff_ne.mpr c82; have c82b1 : (((rd_T106 l0_5 x10_2).f0) != 7) = true := bne_iff_ne.mpr c82; have H' := Aside0.mk H; clear H; have hnb103 := NB302_282.out; have hnc103 := NB282_302.out; have hnb104 := NB302_283.out; have hnc104 := NB283_302.out
                             have hcz105 := fun i => blk_cell BK302.out i
                             have hfz105 := fun i => blk_frozen BK302.out i
                             try go_wp2
                             have n0_ := Aside0.mk (Kd.S_drew HO_5.out); have n1_ := Aside0.mk (blk_drew BK282.out); have n2_ := Aside0.mk (blk_drew BK283.out); have n3_ := Aside0.mk (blk_drew BK302.out); have n4_ := Aside0.mk (below_drew1 HB.out); clear HO_5; clear BK282; clear BK283; clear BK302; clear HB; have HO_5 := n0_; have BK282 := n1_; have BK283 := n2_; have BK302 := n3_; have HB := n4_; clear n0_ n1_ n2_ n3_ n4_; obtain ⟨Ao107, co107, eo107⟩ := Kd.S_slice HO_5.out
                             (first | subst eo107 | (injection eo107 with f1_ f2_ f3_; have f4_ := f1_.symm; have f5_ := f3_.symm; clear f1_ f2_ f3_; subst f4_; subst f5_))
                             have p308 : 0 ≤ (((rd_T106 l0_5 x10_2).f2) : Int) := of_decide_eq_true (by first | (with_reducible assumption) | assumption)
                             have q308 : ((rd_T106 l0_5 x10_2).f2) < (x5_3.length : Int) := of_decide_eq_true (by first | (with_reducible assumption) | assumption)
                             obtain ⟨ad308, A308_0, c308_0, e308, hx308_0, hl308_0, hi308_0⟩ := at_L4 (Kd.S_reads' HO_5.out).2.2 ((rd_T106 l0_5 x10_2).f2) p308 q308
                             cases e308
                             obtain ⟨ce308, hce308, hMe308, hcc308⟩ := Kd.S_get HO_5.out [] ((rd_T106 l0_5 x10_2).f2) p308 (by first | exact q308 | exact of_decide_eq_true (by first | (with_reducible assumption) | assumption) | (have e_ := (Kd.S_reads' HO_5.out).1; omega))
                             obtain ⟨ve308_0, rfl, ge308_0⟩ := hMe308; have hv308_0 := hcc308 0 _ rfl
                             rw [Nat.add_zero, show ((Kd.slice 43 (Kd.int .u64))).sz = 1 from rfl, Nat.mul_one] at hv308_0
                             replace hv308_0 := Option.some.inj (hv308_0.symm.trans hx308_0)
                             rw [hv308_0] at ge308_0
                             have HL308_0 := Aside0.mk (show Kd.R (Kd.int .u64) 43 _ _ _ _ (rd_L4 x5_3 ((rd_T106 l0_5 x10_2).f2)) from ge308_0)
                             clear hv308_0 ge308_0; have HX308_0 := Aside0.mk hx308_0; clear hcc308 hce308; have HR308_0 := Aside0.mk hi308_0; have HC308_0 := Aside0.mk hl308_0; clear hi308_0 hl308_0; replace p308 := eq_true p308; replace q308 := eq_true q308
                             have p309 : 0 ≤ (x12_3 : Int) := of_decide_eq_true (by first | (with_reducible assumption) | assumption)
                             have q309 : x12_3 < ((rd_L4 x5_3 ((rd_T106 l0_5 x10_2).f2)).length : Int) := of_decide_eq_true (by first | (with_reducible assumption) | assumption)
                             obtain ⟨ad309, e309, hx309_0⟩ := Kd.at_int (by repeat (first | (with_reducible exact HR308_0.out) | (with_reducible refine Kd.C_alloc ?_ _) | (with_reducible refine Kd.C_drewN ?_ _) | (with_reducible refine Kd.C_drew ?_) | exact HR308_0.out)) x12_3 p309 q309
                             cases e309
                             replace p309 := eq_true p309; replace q309 := eq_true q309
                             have p310 : 0 ≤ (((rd_T106 l0_5 x10_2).f3) : Int) := of_decide_eq_true (by first | (with_reducible assumption) | assumption)
                             have q310 : ((rd_T106 l0_5 x10_2).f3) < (x5_3.length : Int) := of_decide_eq_true (by first | (with_reducible assumption) | assumption)
                             obtain ⟨ad310, A310_0, c310_0, e310, hx310_0, hl310_0, hi310_0⟩ := at_L4 (Kd.S_reads' HO_5.out).2.2 ((rd_T106 l0_5 x10_2).f3) p310 q310
                             obtain rfl : ad308 = ad310 := (by injection e310)
                             obtain ⟨ce310, hce310, hMe310, hcc310⟩ := Kd.S_get HO_5.out [] ((rd_T106 l0_5 x10_2).f3) p310 (by first | exact q310 | exact of_decide_eq_true (by first | (with_reducible assumption) | assumption) | (have e_ := (Kd.S_reads' HO_5.out).1; omega))
                             obtain ⟨ve310_0, rfl, ge310_0⟩ := hMe310; have hv310_0 := hcc310 0 _ rfl
                             rw [Nat.add_zero, show ((Kd.slice 43 (Kd.int .u64))).sz = 1 from rfl, Nat.mul_one] at hv310_0
                             replace hv310_0 := Option.some.inj (hv310_0.symm.trans hx310_0)
                             rw [hv310_0] at ge310_0
                             have HL310_0 := Aside0.mk (show Kd.R (Kd.int .u64) 43 _ _ _ _ (rd_L4 x5_3 ((rd_T106 l0_5 x10_2).f3)) from ge310_0)
                             clear hv310_0 ge310_0; have HX310_0 := Aside0.mk hx310_0; clear hcc310 hce310; have HR310_0 := Aside0.mk hi310_0; have HC310_0 := Aside0.mk hl310_0; clear hi310_0 hl310_0; replace p310 := eq_true p310; replace q310 := eq_true q310
                             have p311 : 0 ≤ (x12_3 : Int) := of_decide_eq_true (by first | (with_reducible assumption) | assumption)
                             have q311 : x12_3 < ((rd_L4 x5_3 ((rd_T106 l0_5 x10_2).f3)).length : Int) := of_decide_eq_true (by first | (with_reducible assumption) | assumption)
                             obtain ⟨ad311, e311, hx311_0⟩ := Kd.at_int (by repeat (first | (with_reducible exact HR310_0.out) | (with_reducible refine Kd.C_alloc ?_ _) | (with_reducible refine Kd.C_drewN ?_ _) | (with_reducible refine Kd.C_drew ?_) | exact HR310_0.out)) x12_3 p311 q311
                             cases e311
                             replace p311 := eq_true p311; replace q311 := eq_true q311
                             refine start_ (n := 20) (S := fun w' => w'.cell? ⟨gb282, 0, none⟩ = some (.int .i64 a0_0) ∧ w'.cell? ⟨gb282, 1, none⟩ = some (.int .i64 a0_1) ∧ w'.cell? ⟨gb282, 2, none⟩ = some (.int .i64 a0_2) ∧ w'.cell? ⟨gb282, 3, none⟩ = some (.int .i64 a0_3) ∧ w'.cell? ⟨gb282, 4, none⟩ = some (.int .i64 a0_4) ∧ w'.cell? ⟨gb282, 5, none⟩ = some (.slice (some ad301) l0_5.length c0_5) ∧ w'.cell? ⟨gb302, 0, none⟩ = some (.int .i64 ((rd_T106 l0_5 x10_2).f0)) ∧ w'.cell? ⟨gb302, 1, none⟩ = some (.int .i64 ((rd_T106 l0_5 x10_2).f1)) ∧ w'.cell? ⟨gb302, 2, none⟩ = some (.int .i64 ((rd_T106 l0_5 x10_2).f2)) ∧ w'.cell? ⟨gb302, 3, none⟩ = some (.int .i64 ((rd_T106 l0_5 x10_2).f3)) ∧ w'.cell? ⟨gb302, 4, none⟩ = some (.int .i64 ((rd_T106 l0_5 x10_2).f4)) ∧ w'.cell? (ad308.add (((rd_T106 l0_5 x10_2).f2)).toNat) = some (.slice (some ad309) (rd_L4 x5_3 ((rd_T106 l0_5 x10_2).f2)).length c308_0) ∧ w'.cell? (ad309.add (x12_3).toNat) = some (.int .u64 (rd (rd_L4 x5_3 ((rd_T106 l0_5 x10_2).f2)) x12_3)) ∧ w'.cell? (ad308.add (((rd_T106 l0_5 x10_2).f3)).toNat) = some (.slice (some ad311) (rd_L4 x5_3 ((rd_T106 l0_5 x10_2).f3)).length c310_0) ∧ w'.cell? (ad311.add (x12_3).toNat) = some (.int .u64 (rd (rd_L4 x5_3 ((rd_T106 l0_5 x10_2).f3)) x12_3))) (ds := []) #[false, false, false, false, false, false, false, false, false, false, false, false, false, false, false, false, false, false, false, false] (by kernel_rfl) rfl rfl ⟨(blk_cell BK282.out 0).trans rfl, (blk_cell BK282.out 1).trans rfl, (blk_cell BK282.out 2).trans rfl, (blk_cell BK282.out 3).trans rfl, (blk_cell BK282.out 4).trans rfl, (blk_cell BK282.out 5).trans rfl, (blk_cell BK302.out 0).trans rfl, (blk_cell BK302.out 1).trans rfl, (blk_cell BK302.out 2).trans rfl, (blk_cell BK302.out 3).trans rfl, (blk_cell BK302.out 4).trans rfl, hx308_0, hx309_0, hx310_0, hx311_0⟩ (fun hHeld => ?_); refine with_tabW steepleref27_Run.tab28 steepleref27_Run.bits28 (fun HT_ HW_ => ?_)
                             generalize wc.drew = w106 at HO_5 BK282 BK283 BK302 HB HL308_0 HL310_0 HR308_0 HR310_0 HX308_0 HX310_0 hx308_0 hx309_0 hx310_0 hx311_0 hHeld ⊢
                             refine pureA 2 (some 118) HT_.out ?_
                             refine pureA 3 (some 119) HT_.out ?_
                             refine pureA 7 (some 123) HT_.out ?_
                             refine pureA 10 (some 126) HT_.out ?_
                             refine pureA 11 (some 127) HT_.out ?_
                             refine pureA 15 (some 131) HT_.out ?_
                             refine takeA 0 (some 116) rfl HT_.out HW_.out hHeld (Or.inl ⟨by rfl, by rintro w' ⟨s0, s1, s2, s3, s4, s5, s6, s7, s8, s9, s10, s11, s12, s13, s14⟩; go_simp; with_reducible rfl⟩) ?_
                             refine takeA 1 (some 117) rfl HT_.out HW_.out hHeld (Or.inl ⟨by rfl, by rintro w' ⟨s0, s1, s2, s3, s4, s5, s6, s7, s8, s9, s10, s11, s12, s13, s14⟩; go_simp; with_reducible rfl⟩) ?_
                             refine takeA 4 (some 120) rfl HT_.out HW_.out hHeld (Or.inl ⟨by rfl, by rintro w' ⟨s0, s1, s2, s3, s4, s5, s6, s7, s8, s9, s10, s11, s12, s13, s14⟩; go_simp; with_reducible rfl⟩) ?_
                             refine pureA 5 (some 121) HT_.out ?_
                             refine takeA 6 (some 122) rfl HT_.out HW_.out hHeld (Or.inl ⟨by rfl, by rintro w' ⟨s0, s1, s2, s3, s4, s5, s6, s7, s8, s9, s10, s11, s12, s13, s14⟩; go_simp; with_reducible rfl⟩) ?_
                             refine pureA 8 (some 124) HT_.out ?_
                             refine takeA 9 (some 125) rfl HT_.out HW_.out hHeld (Or.inl ⟨by rfl, by rintro w' ⟨s0, s1, s2, s3, s4, s5, s6, s7, s8, s9, s10, s11, s12, s13, s14⟩; go_simp; with_reducible rfl⟩) ?_
                             refine takeA 12 (some 128) rfl HT_.out HW_.out hHeld (Or.inl ⟨by rfl, by rintro w' ⟨s0, s1, s2, s3, s4, s5, s6, s7, s8, s9, s10, s11, s12, s13, s14⟩; go_simp; with_reducible rfl⟩) ?_
                             refine pureA 13 (some 129) HT_.out ?_
                             refine takeA 14 (some 130) rfl HT_.out HW_.out hHeld (Or.inl ⟨by rfl, by rintro w' ⟨s0, s1, s2, s3, s4, s5, s6, s7, s8, s9, s10, s11, s12, s13, s14⟩; go_simp; with_reducible rfl⟩) ?_
                             refine pureA 16 (some 132) HT_.out ?_
                             refine takeA 17 (some 133) rfl HT_.out HW_.out hHeld (Or.inl ⟨by rfl, by rintro w' ⟨s0, s1, s2, s3, s4, s5, s6, s7, s8, s9, s10, s11, s12, s13, s14⟩; go_simp; with_reducible rfl⟩) ?_
                             refine one_ (i := 18) (N := some 134) #[true, true, true, true, true, true, true, true, true, true, true, true, true, true, true, true, true, true, true, false] rfl rfl (one_of HT_.out (by kernel_rfl)) (by decide) (fun K hK => ?_)
                             refine goes_ Try.func69 (by kernel_rfl) rfl #[.agg #[.int .i64 a0_0, .int .i64 a0_1, .int .i64 a0_2, .int .i64 a0_3, .int .i64 a0_4, .slice (some ad301) l0_5.length c0_5], .agg #[.int .i64 ((rd_T106 l0_5 x10_2).f0), .int .i64 ((rd_T106 l0_5 x10_2).f1), .int .i64 ((rd_T106 l0_5 x10_2).f2), .int .i64 ((rd_T106 l0_5 x10_2).f3), .int .i64 ((rd_T106 l0_5 x10_2).f4)], .int .u64 (rd (rd_L4 x5_3 ((rd_T106 l0_5 x10_2).f2)) x12_3), .int .u64 (rd (rd_L4 x5_3 ((rd_T106 l0_5 x10_2).f3)) x12_3)] (by rfl) rfl rfl gsA ?_
                             with_reducible refine (steepleref27_Made.calls kj48 a0_0 a0_1 a0_2 a0_3 a0_4 _ _ l0_5 ((rd_T106 l0_5 x10_2).f0) ((rd_T106 l0_5 x10_2).f1) ((rd_T106 l0_5 x10_2).f2) ((rd_T106 l0_5 x10_2).f3) ((rd_T106 l0_5 x10_2).f4) (rd (rd_L4 x5_3 ((rd_T106 l0_5 x10_2).f2)) x12_3) (rd (rd_L4 x5_3 ((rd_T106 l0_5 x10_2).f3)) x12_3) t312 _ ?side1 ?side2 A76.out).mono ?_
                             (case side1 => repeat (first | exact (Kd.C_below HR0_5.out HB.out) | (with_reducible refine Kd.C_alloc ?_ _) | (with_reducible refine Kd.C_drewN ?_ _) | (with_reducible refine Kd.C_drew ?_)))
                             (case side2 => exact HC0_5.out)
                             rintro e w108 ⟨v313, rfl, ho0, hb⟩
                             have HS11_ := (hb.cell (World.block_lt_of_cell? _ _ (hHeld.2.2.2.2.2.2.2.2.2.2.2.1))).trans (hHeld.2.2.2.2.2.2.2.2.2.2.2.1); have HS12_ := (hb.cell (World.block_lt_of_cell? _ _ (hHeld.2.2.2.2.2.2.2.2.2.2.2.2.1))).trans (hHeld.2.2.2.2.2.2.2.2.2.2.2.2.1); have HS13_ := (hb.cell (World.block_lt_of_cell? _ _ (hHeld.2.2.2.2.2.2.2.2.2.2.2.2.2.1))).trans (hHeld.2.2.2.2.2.2.2.2.2.2.2.2.2.1); have HS14_ := (hb.cell (World.block_lt_of_cell? _ _ (hHeld.2.2.2.2.2.2.2.2.2.2.2.2.2.2))).trans (hHeld.2.2.2.2.2.2.2.2.2.2.2.2.2.2)
                             refine ⟨_, rfl, ?_⟩
                             have n0_ := Aside0.mk (Kd.S_elder' (by (with_reducible repeat (first | apply Kd.S_alloc | apply Kd.S_drewN | apply Kd.S_drew)); exact HO_5.out) (Kd.R_base ho0) hb)
                             have n1_ := Aside0.mk (Kd.R_elder' (raA HL308_0.out) (Kd.R_base ho0) hb)
                             have n2_ := Aside0.mk (Kd.R_elder' (raA HL310_0.out) (Kd.R_base ho0) hb)
                             have n3_ := Aside0.mk (Kd.R_lower (Kd.R_new' (Kd.R_new' ho0 (Kd.R_lt (raA HL308_0.out))) (Kd.R_lt (raA HL310_0.out))) (below_size (blA HB.out)))
                             have n4_ := Aside0.mk (blk_below (bkA BK282.out) hb); have n5_ := Aside0.mk (blk_below (bkA BK283.out) hb); have n6_ := Aside0.mk (blk_below (bkA BK302.out) hb)
                             have n7_ := Aside0.mk (Kd.C_below (by repeat (first | (with_reducible exact HR308_0.out) | (with_reducible refine Kd.C_alloc ?_ _) | (with_reducible refine Kd.C_drewN ?_ _) | (with_reducible refine Kd.C_drew ?_) | exact HR308_0.out)) hb)
                             have n8_ := Aside0.mk (pw_cell_below hb HX308_0.out)
                             have n9_ := Aside0.mk (Kd.C_below (by repeat (first | (with_reducible exact HR310_0.out) | (with_reducible refine Kd.C_alloc ?_ _) | (with_reducible refine Kd.C_drewN ?_ _) | (with_reducible refine Kd.C_drew ?_) | exact HR310_0.out)) hb)
                             have n10_ := Aside0.mk (pw_cell_below hb HX310_0.out); have n11_ := Aside0.mk (below_step (blA HB.out) hb); clear HO_5; clear HL308_0; clear HL310_0; clear BK282; clear BK283; clear BK302; clear HR308_0; clear HX308_0; clear HR310_0; clear HX310_0; clear HB; have HO_5 := n0_; have HL308_0 := n1_; have HL310_0 := n2_; have HO314 := n3_; have BK282 := n4_; have BK283 := n5_; have BK302 := n6_; have HR308_0 := n7_; have HX308_0 := n8_; have HR310_0 := n9_; have HX310_0 := n10_; have HB := n11_; clear n0_ n1_ n2_ n3_ n4_ n5_ n6_ n7_ n8_ n9_ n10_ n11_
                             (try clear hb)
                             (try clear ho0)
                             refine hK.out _ _ ⟨(blk_cell BK282.out 0).trans rfl, (blk_cell BK282.out 1).trans rfl, (blk_cell BK282.out 2).trans rfl, (blk_cell BK282.out 3).trans rfl, (blk_cell BK282.out 4).trans rfl, (blk_cell BK282.out 5).trans rfl, (blk_cell BK302.out 0).trans rfl, (blk_cell BK302.out 1).trans rfl, (blk_cell BK302.out 2).trans rfl, (blk_cell BK302.out 3).trans rfl, (blk_cell BK302.out 4).trans rfl, HS11_, HS12_, HS13_, HS14_⟩ (fun hHeld => ?_)
                             clear hK K
                             refine normA ?_
                             refine pureA 19 (some 13) HT_.out ?_
                             refine done_ (done_of HT_.out (by kernel_rfl)) ?_
                             try go_wp2
                             have n0_ := Aside0.mk (Kd.S_drew HO_5.out); have n1_ := Aside0.mk (Kd.R_drew HL308_0.out); have n2_ := Aside0.mk (Kd.R_drew HL310_0.out); have n3_ := Aside0.mk (Kd.R_drew HO314.out); have n4_ := Aside0.mk (blk_drew BK282.out); have n5_ := Aside0.mk (blk_drew BK283.out); have n6_ := Aside0.mk (blk_drew BK302.out); have n7_ := Aside0.mk (Kd.C_drew HR308_0.out); have n8_ := Aside0.mk (Kd.C_drew HR310_0.out); have n9_ := Aside0.mk (below_drew1 HB.out); clear HO_5; clear HL308_0; clear HL310_0; clear HO314; clear BK282; clear BK283; clear BK302; clear HR308_0; clear HR310_0; clear HB; have HO_5 := n0_; have HL308_0 := n1_; have HL310_0 := n2_; have HO314 := n3_; have BK282 := n4_; have BK283 := n5_; have BK302 := n6_; have HR308_0 := n7_; have HR310_0 := n8_; have HB := n9_; clear n0_ n1_ n2_ n3_ n4_ n5_ n6_ n7_ n8_ n9_
                             have p315 : 0 ≤ (((rd_T106 l0_5 x10_2).f1) : Int) := of_decide_eq_true (by first | (with_reducible assumption) | assumption)
                             have q315 : ((rd_T106 l0_5 x10_2).f1) < (x5_3.length : Int) := of_decide_eq_true (by first | (with_reducible assumption) | assumption)
                             obtain ⟨ad315, A315_0, c315_0, e315, hx315_0, hl315_0, hi315_0⟩ := at_L4 (Kd.S_reads' HO_5.out).2.2 ((rd_T106 l0_5 x10_2).f1) p315 q315
                             obtain rfl : ad308 = ad315 := (by injection e315)
                             obtain ⟨ce315, hce315, hMe315, hcc315⟩ := Kd.S_get HO_5.out [] ((rd_T106 l0_5 x10_2).f1) p315 (by first | exact q315 | exact of_decide_eq_true (by first | (with_reducible assumption) | assumption) | (have e_ := (Kd.S_reads' HO_5.out).1; omega))
                             obtain ⟨ve315_0, rfl, ge315_0⟩ := hMe315; have hv315_0 := hcc315 0 _ rfl
                             rw [Nat.add_zero, show ((Kd.slice 43 (Kd.int .u64))).sz = 1 from rfl, Nat.mul_one] at hv315_0
                             replace hv315_0 := Option.some.inj (hv315_0.symm.trans hx315_0)
                             rw [hv315_0] at ge315_0
                             have HL315_0 := Aside0.mk (show Kd.R (Kd.int .u64) 43 _ _ _ _ (rd_L4 x5_3 ((rd_T106 l0_5 x10_2).f1)) from ge315_0)
                             clear hv315_0 ge315_0; have HX315_0 := Aside0.mk hx315_0; clear hcc315 hce315; have HR315_0 := Aside0.mk hi315_0; have HC315_0 := Aside0.mk hl315_0; clear hi315_0 hl315_0; replace p315 := eq_true p315; replace q315 := eq_true q315; obtain ⟨Ao110, co110, eo110⟩ := Kd.R_slice HO314.out
                             (first | subst eo110 | (injection eo110 with f1_ f2_ f3_; have f4_ := f1_.symm; have f5_ := f3_.symm; clear f1_ f2_ f3_; subst f4_; subst f5_))
                             have p316 : 0 ≤ (0 : Int) := (by omega)
                             have q316 : 0 < (t312.length : Int) := of_decide_eq_true (by first | (with_reducible assumption) | assumption)
                             obtain ⟨ad316, e316, hx316_0⟩ := Kd.at_int (Kd.R_reads' HO314.out).2.2 0 p316 q316
                             cases e316
                             have qi316 : (0 < t312.length) = True := eq_true (by omega)
                             (try rw [show ((0 : Int)).toNat = 0 from rfl] at hx316_0)
                             (try rw [Addr.add_zero'] at hx316_0)
                             replace p316 := eq_true p316; replace q316 := eq_true q316
                             have p81 : 0 ≤ (x12_3 : Int) := of_decide_eq_true (by first | (with_reducible assumption) | assumption)
                             have q81 : (x12_3 : Int) < (((rd_L4 x5_3 ((rd_T106 l0_5 x10_2).f1)).length : Int) : Int) := of_decide_eq_true (by first | (with_reducible assumption) | assumption)
                             obtain ⟨go81, co81, eo81, gb81, gl81, cl81, HG81⟩ := Kd.R_form HL315_0.out (by omega)
                             (first | cases eo81 | (injection eo81 with ea_ en_ ec_; (first | subst ea_ | (injection ea_ with ea_; subst ea_)); subst ec_; clear en_))
                             have GB81 := Aside0.mk gb81; have GG81 := Aside0.mk HG81; clear gb81 gl81 HG81; obtain ⟨hx81_0, hf81_0⟩ := Kd.R_celln 0 HL315_0.out (x12_3 : Int) p81 q81; replace p81 := eq_true p81; replace q81 := eq_true q81
                             have n_ := Aside0.mk (Kd.S_mono (ok' := (fun k_ => some k_ ≠ (.slice (some ad316) t312.length co110 : Value).ownBlock)) HO_5.out (fun k_ hk => hk.2))
                             clear HO_5; have HO_5 := n_; clear n_
                             have hq111 : (((rd_T106 l0_5 x10_2).f1) : Int) < (x5_3.length : Int) := (by have h_ : (((rd_T106 l0_5 x10_2).f1) : Int) < ((x5_3.length : Int) : Int) := of_decide_eq_true (by first | (with_reducible assumption) | assumption); first | exact h_ | (have e_ := (Kd.S_reads' HO_5.out).1; omega) | simpa only [List.length_set, List.length_set] using h_)
                             obtain ⟨oki111, ce111, hcl111, hM111, hcc111, hok111, hbk111⟩ := Kd.S_borrow HO_5.out [] (((rd_T106 l0_5 x10_2).f1) : Int) (of_decide_eq_true (by first | (with_reducible assumption) | assumption)) (by first | exact hq111 | exact of_decide_eq_true (by first | (with_reducible assumption) | assumption) | (have e_ := (Kd.S_reads' HO_5.out).1; omega))
                             obtain ⟨ve111_0, rfl, ge111_0⟩ := hM111; have hv111 := hcc111 0 _ rfl
                             rw [Nat.add_zero, show ((Kd.slice 43 (Kd.int .u64))).sz = 1 from rfl, Nat.mul_one] at hv111
                             replace hv111 := Option.some.inj (hv111.symm.trans HX315_0.out); subst hv111; clear hcc111 hcl111
                             replace ge111_0 := (show Kd.R (Kd.int .u64) 43 _ _ _ _ (rd_L4 x5_3 ((rd_T106 l0_5 x10_2).f1)) from ge111_0)
                             have HP111 := Kd.R_putg ge111_0 (x12_3 : Int) (rd t312 0)
                             rw [← Ny317.out] at HP111
                             have HS111 := hbk111 HP111.2 (fun k_ e_ => by injection e_ with e_; subst e_; exact ge111_0.1 _ rfl) (x' := y317) (Kd.M_row HP111.1)
                             rw [← Ny319.out] at HS111
                             have HQ111 := Aside0.mk HS111; clear HP111 HS111 hbk111 hok111
                             refine start_ (n := 11) (S := fun w' => w'.cell? ⟨gb302, 0, none⟩ = some (.int .i64 ((rd_T106 l0_5 x10_2).f0)) ∧ w'.cell? ⟨gb302, 1, none⟩ = some (.int .i64 ((rd_T106 l0_5 x10_2).f1)) ∧ w'.cell? ⟨gb302, 2, none⟩ = some (.int .i64 ((rd_T106 l0_5 x10_2).f2)) ∧ w'.cell? ⟨gb302, 3, none⟩ = some (.int .i64 ((rd_T106 l0_5 x10_2).f3)) ∧ w'.cell? ⟨gb302, 4, none⟩ = some (.int .i64 ((rd_T106 l0_5 x10_2).f4)) ∧ w'.cell? (ad308.add (((rd_T106 l0_5 x10_2).f1)).toNat) = some (.slice (some ⟨go81, 0, none⟩) (rd_L4 x5_3 ((rd_T106 l0_5 x10_2).f1)).length c315_0) ∧ w'.cell? ad316 = some (.int .u64 (rd t312 0))) (ds := [10]) #[false, false, false, false, false, false, false, false, false, false, false] (by kernel_rfl) rfl rfl ⟨(blk_cell BK302.out 0).trans rfl, (blk_cell BK302.out 1).trans rfl, (blk_cell BK302.out 2).trans rfl, (blk_cell BK302.out 3).trans rfl, (blk_cell BK302.out 4).trans rfl, hx315_0, hx316_0⟩ (fun hHeld => ?_); refine with_tabW steepleref27_Run.tab29 steepleref27_Run.bits29 (fun HT_ HW_ => ?_)
                             generalize w108.drew = w109 at HO_5 HL308_0 HL310_0 HO314 BK282 BK283 BK302 HR308_0 HR310_0 HB GG81 HL315_0 HQ111 HR315_0 HX315_0 hf81_0 hx315_0 hx316_0 hx81_0 hHeld ⊢
                             refine pureA 0 (some 135) HT_.out ?_
                             refine pureA 1 (some 136) HT_.out ?_
                             refine pureA 5 (some 140) HT_.out ?_
                             refine pureA 6 (some 141) HT_.out ?_
                             refine pureA 7 (some 142) HT_.out ?_
                             refine takeA 2 (some 137) rfl HT_.out HW_.out hHeld (Or.inl ⟨by rfl, by rintro w' ⟨s0, s1, s2, s3, s4, s5, s6⟩; go_simp; with_reducible rfl⟩) ?_
                             refine pureA 3 (some 138) HT_.out ?_
                             refine takeA 4 (some 139) rfl HT_.out HW_.out hHeld (Or.inl ⟨by rfl, by rintro w' ⟨s0, s1, s2, s3, s4, s5, s6⟩; go_simp; with_reducible rfl⟩) ?_
                             refine takeA 8 (some 143) rfl HT_.out HW_.out hHeld (Or.inl ⟨by rfl, by rintro w' ⟨s0, s1, s2, s3, s4, s5, s6⟩; go_simp; with_reducible rfl⟩) ?_
                             refine pureA 9 (some 144) HT_.out ?_
                             refine last_ (i := 10) (N := none) #[true, true, true, true, true, true, true, true, true, true, true] rfl rfl (one_of HT_.out (by kernel_rfl)) (by decide) (fun K hK => ?_)
                             refine skip_ (w1 := ?_) (by rfl) rfl ?_ ?_
                             rotate_left
                             ·go_simp
                              rfl
                             refine hK.out _ _ ?_
                             clear hK K
                             refine done_ (done_of HT_.out (by kernel_rfl)) ?_
                             have hcz113 := fun i => blk_cell BK302.out i
                             have hfz113 := fun i => blk_frozen BK302.out i
                             have hnb_3020 : go81 ≠ gb302 := (by have h_ := Kd.R_ne HL315_0.out BK302.out (by decide); intro e_; exact h_ (by rw [e_]; rfl)); have hnc_3020 := Ne.symm hnb_3020
                             try go_wp2
                             go_roundg kj48
                             case measure => have := HK1.out; have := HK2.out; have := HK3.out; have := HJ48.out; omega
                             case rel => exact ⟨(y319), (wrap64 (x12_3 + 1)), (x284001_3), eqA, H', ⟨by have := HK1.out; have := HK2.out; have := HK3.out; have := HJ48.out; omega⟩, ⟨by (with_reducible repeat (first | apply Kd.S_alloc | apply Kd.S_drewN | apply Kd.S_drew)); exact Kd.S_mono HQ111.out (fun _ hk => trivial)⟩, ⟨by refine bkA ?_; refine blk_far ?_ (by have h_ := Kd.R_ne HL315_0.out BK282.out (by decide); intro e_; exact h_ (by rw [e_]; rfl)) _; refine bkA ?_; exact BK282.out⟩, ⟨by refine bkA ?_; refine blk_far ?_ (by have h_ := Kd.R_ne HL315_0.out BK283.out (by decide); intro e_; exact h_ (by rw [e_]; rfl)) _; refine bkA ?_; exact BK283.out⟩, ⟨by refine bkA ?_; refine blk_far ?_ (by have h_ := Kd.R_ne HL315_0.out BK302.out (by decide); intro e_; exact h_ (by rw [e_]; rfl)) _; refine bkA ?_; exact BK302.out⟩, ⟨blA HB.out⟩⟩
                           ·rw [if_neg c80] at H
                            exact absurd H (by simp)
                          ·rw [if_neg c79] at H
                           exact absurd H (by simp)
                         ·rw [if_neg c78] at H
                          exact absurd H (by simp)
                        ·rw [if_neg c77] at H
                         exact absurd H (by simp)
                       ·rw [if_neg c75] at H
                        exact absurd H (by simp)
                      ·rw [if_neg c74] at H
                       exact absurd H (by simp)
                     ·rw [if_neg c73] at H
                      exact absurd H (by simp)
                    ·rw [if_neg c72] at H
                     exact absurd H (by simp)
                   ·rw [if_neg c71] at H
                    exact absurd H (by simp)
                  ·rw [if_neg c70] at H
                   exact absurd H (by simp)
                 ·rw [if_neg c69] at H
                  exact absurd H (by simp)
                ·rw [if_neg c68] at H
                 have c68b0 : decide (((rd_T106 l0_5 x10_2).f0) < 8) = false := decide_eq_false c68; clear c68; have H' := Aside0.mk H; clear H; have hnb114 := NB302_282.out; have hnc114 := NB282_302.out; have hnb115 := NB302_283.out; have hnc115 := NB283_302.out
                 have hcz116 := fun i => blk_cell BK302.out i
                 have hfz116 := fun i => blk_frozen BK302.out i
                 go_wp2
                 go_roundg kj48
                 case measure => have := HK1.out; have := HK2.out; have := HK3.out; have := HJ48.out; omega
                 case rel => exact ⟨(x5_3), (wrap64 (x12_3 + 1)), (x284001_3), eqA, H', ⟨by have := HK1.out; have := HK2.out; have := HK3.out; have := HJ48.out; omega⟩, ⟨by (with_reducible repeat (first | apply Kd.S_alloc | apply Kd.S_drewN | apply Kd.S_drew)); exact HO_5.out⟩, ⟨bkA BK282.out⟩, ⟨bkA BK283.out⟩, ⟨bkA BK302.out⟩, ⟨blA HB.out⟩⟩
            ·rw [if_neg c48] at H
             have c48b0 : decide (x12_3 < t303) = false := decide_eq_false c48; clear c48; have H' := Aside0.mk H; clear H; have hnb117 := NB282_283.out; have hnc117 := NB283_282.out; have hnb118 := NB282_302.out; have hnc118 := NB302_282.out
             have hcz119 := fun i => blk_cell BK282.out i
             have hfz119 := fun i => blk_frozen BK282.out i
             go_wp2_with (first | ((with_reducible refine gate_callee (f := 32) rfl ?_); refine goesL_ (some 86) rfl rfl Try.func32 (by kernel_rfl) rfl #[.int .i64 a0_1] rfl gsA ?_; (with_reducible refine (steepleref15_Two.calls k3 a0_1 t303 _ A47.out).mono ?_); rintro e w' ⟨rfl, ⟨nd, rfl⟩⟩; refine ⟨_, rfl, ?_⟩))
             go_roundg k3
             case measure => have := HK1.out; have := HK2.out; have := HK3.out; omega
             case rel => exact ⟨(x5_3), (wrap64 (x10_2 + 1)), (x284001_3), eqA, H', ⟨by have := HK1.out; have := HK2.out; have := HK3.out; omega⟩, ⟨by (with_reducible repeat (first | apply Kd.S_alloc | apply Kd.S_drewN | apply Kd.S_drew)); exact HO_5.out⟩, ⟨bkA BK282.out⟩, ⟨bkA BK283.out⟩, ⟨blA HB.out⟩⟩
         ·rw [if_neg c40] at H
          exact absurd H (by simp)
        ·rw [if_neg c39] at H
         have c39b0 : decide (x10_2 < (l0_5.length : Int)) = false := decide_eq_false c39; clear c39
         simp only [Option.some.injEq, Prod.mk.injEq] at H
         obtain ⟨rfl, rfl⟩ := H; have hnb120 := NB282_283.out; have hnc120 := NB283_282.out
         have hcz121 := fun i => blk_cell BK282.out i
         have hfz121 := fun i => blk_frozen BK282.out i
         obtain ⟨Ao122, co122, eo122⟩ := Kd.S_slice HO_5.out; subst eo122
         have hcz123 := fun i => blk_cell BK283.out i
         have hfz123 := fun i => blk_frozen BK283.out i
         go_wp2
         refine bodyPost_ret (results_cell_row rfl _ _ gb283 61 #[.slice Ao122 x5_2.length co122, .int .i64 0] (0, 0) _ rfl (by refine bkA ?_; refine blk_put (cs := #[.slice Ao122 x5_2.length co122, .int .i64 x284001_2]) ?_ 1 _ rfl; refine bkA ?_; refine blk_put (cs := #[.slice none 0 0, .int .i64 x284001_2]) ?_ 0 _ rfl; refine bkA ?_; exact BK283.out) Try.underlying61 rfl (by kernel_rfl)) rfl ?_
         exact ⟨_, by first | rfl | (simp [errW_none, errW_some] <;> rfl) | (simp [*, errW_none, errW_some] <;> rfl), by (with_reducible repeat (first | apply Kd.S_alloc | apply Kd.S_drewN | apply Kd.S_drew)); exact Kd.S_mono (Kd.S_far (p := ⟨gb283, 1, none⟩) (Kd.S_far (p := ⟨gb283, 0, none⟩) (Kd.S_types HO_5.out BK283.out (by decide)) (fun _ hk => hk.2) (.slice Ao122 x5_2.length co122)) (fun _ hk => hk.2) (.int .i64 0)) (fun _ hk => trivial), blA HB.out⟩
  ·rw [if_neg c6] at H
   have c6b0 : (t286 == 0) = false := beq_eq_false_iff_ne.mpr c6; have c6b1 : (t286 != 0) = true := bne_iff_ne.mpr c6; replace H := Option.bind_eq_some_iff.mp H; obtain ⟨t287, A1240, H⟩ := H; replace H : (some (([] : List (List Int)), t287)) = some (r1, r2) := H; have A124 := Aside0.mk A1240; clear A1240
   simp only [Option.some.injEq, Prod.mk.injEq] at H
   obtain ⟨rfl, rfl⟩ := H
   go_enter Try.func29, Try.ntmps29
   go_wp2_with (first | ((with_reducible refine gate_dst (N := 2) rfl ?_); refine box_event ?hg (N := 2) ?hd (cs := #[.int .i64 a0_0, .int .i64 a0_1, .int .i64 a0_2, .int .i64 a0_3, .int .i64 a0_4, .slice A0_5 l0_5.length c0_5]) (t := 28) ?hr ?_; (case hd => rfl); (case hg => rfl); (case hr => first | (go_simp; done) | (go_simp; rfl)); intro gb282 hg w125 hbox hb; have n0_ := Aside0.mk (below_step (blA HB.out) hb); have n1_ := Aside0.mk (hbox); have n2_ := Aside0.mk ((by rw [hg]; exact (below_size (blA HB.out)) : w.heap.size ≤ gb282)); have n3_ := Aside0.mk ((by rw [hg]; exact (below_size (blA HB.out)) : w.heap.size ≤ gb282)); clear HB; have HB := n0_; have BK282 := n1_; have GW282 := n2_; have GE282 := n3_; clear n0_ n1_ n2_ n3_; clear hb hbox hg) | ((with_reducible refine gate_dst (N := 4) rfl ?_); refine box_event ?hg (N := 4) ?hd (cs := #[.slice none 0 0, .int .i64 0]) (t := 61) ?hr ?_; (case hd => rfl); (case hg => rfl); (case hr => first | (go_simp; done) | (go_simp; rfl)); intro gb283 hg w126 hbox hb; have n0_ := Aside0.mk (blk_below (bkA BK282.out) hb); have n1_ := Aside0.mk (below_step (blA HB.out) hb); have n2_ := Aside0.mk (hbox); have n3_ := Aside0.mk ((by rw [hg]; exact (below_size (blA HB.out)) : w.heap.size ≤ gb283)); have n4_ := Aside0.mk ((by rw [hg]; exact (below_size (blA HB.out)) : w.heap.size ≤ gb283)); have n5_ := Aside0.mk ((by rw [hg]; exact Nat.ne_of_lt (blk_lt (bkA BK282.out)) : gb282 ≠ gb283)); have n6_ := Aside0.mk ((by rw [hg]; exact Nat.ne_of_gt (blk_lt (bkA BK282.out)) : gb283 ≠ gb282)); clear BK282; clear HB; have BK282 := n0_; have HB := n1_; have BK283 := n2_; have GW283 := n3_; have GE283 := n4_; have NB282_283 := n5_; have NB283_282 := n6_; clear n0_ n1_ n2_ n3_ n4_ n5_ n6_; clear hb hbox hg; have hnb127 := NB282_283.out; have hnc127 := NB283_282.out; have hcz128 := fun i => blk_cell BK282.out i; have hfz128 := fun i => blk_frozen BK282.out i; ) | ((with_reducible refine gate_callee (f := 16) rfl ?_); refine goesL_ (some 15) rfl rfl Try.func16 (by kernel_rfl) rfl #[.agg #[.int .i64 a0_0, .int .i64 a0_1, .int .i64 a0_2, .int .i64 a0_3, .int .i64 a0_4, .slice A0_5 l0_5.length c0_5]] rfl gsA ?_; (with_reducible refine (steepleref25_Check.calls k a0_0 a0_1 a0_2 a0_3 a0_4 _ _ l0_5 t284 _ ?side1 ?side2 A3.out).mono ?_); (case side1 => repeat (first | exact (Kd.C_below HR0_5.out HB.out) | (with_reducible refine Kd.C_alloc ?_ _) | (with_reducible refine Kd.C_drewN ?_ _) | (with_reducible refine Kd.C_drew ?_))); (case side2 => exact HC0_5.out); rintro e w129 ⟨rfl, hb⟩; refine ⟨_, rfl, ?_⟩; have n0_ := Aside0.mk (blk_below (bkA BK282.out) hb); have n1_ := Aside0.mk (blk_below (bkA BK283.out) hb); have n2_ := Aside0.mk (below_step (blA HB.out) hb); clear BK282; clear BK283; clear HB; have BK282 := n0_; have BK283 := n1_; have HB := n2_; clear n0_ n1_ n2_; (try clear hb); have hcz130 := fun i => blk_cell BK282.out i; have hfz130 := fun i => blk_frozen BK282.out i; ) | ((with_reducible refine gate_callee (f := 40) rfl ?_); refine goesL_ (some 27) rfl rfl Try.func40 (by kernel_rfl) rfl #[.agg #[.int .i64 a0_0, .int .i64 a0_1, .int .i64 a0_2, .int .i64 a0_3, .int .i64 a0_4, .slice A0_5 l0_5.length c0_5], .slice A1 l1.length c1, .int .i64 (wrap64 (a0_3 + a0_4))] rfl gsA ?_; (with_reducible refine (steepleref27_Fits.calls k a0_0 a0_1 a0_2 a0_3 a0_4 _ _ l0_5 _ _ l1 (wrap64 (a0_3 + a0_4)) t286 _ ?side1 ?side2 ?side3 ?side4 A5.out).mono ?_); (case side1 => repeat (first | exact (Kd.C_below HR0_5.out HB.out) | (with_reducible refine Kd.C_alloc ?_ _) | (with_reducible refine Kd.C_drewN ?_ _) | (with_reducible refine Kd.C_drew ?_))); (case side2 => exact HC0_5.out); (case side3 => repeat (first | exact (Kd.C_below HR1.out HB.out) | (with_reducible refine Kd.C_alloc ?_ _) | (with_reducible refine Kd.C_drewN ?_ _) | (with_reducible refine Kd.C_drew ?_))); (case side4 => exact HC1.out); rintro e w131 ⟨rfl, hb⟩; refine ⟨_, rfl, ?_⟩; have n0_ := Aside0.mk (blk_below (bkA BK282.out) hb); have n1_ := Aside0.mk (blk_below (bkA BK283.out) hb); have n2_ := Aside0.mk (below_step (blA HB.out) hb); clear BK282; clear BK283; clear HB; have BK282 := n0_; have BK283 := n1_; have HB := n2_; clear n0_ n1_ n2_; (try clear hb); have hcz132 := fun i => blk_cell BK282.out i; have hfz132 := fun i => blk_frozen BK282.out i; ) | ((with_reducible refine gate_callee (f := 40) rfl ?_); refine goesL_ (some 36) rfl rfl Try.func40 (by kernel_rfl) rfl #[.agg #[.int .i64 a0_0, .int .i64 a0_1, .int .i64 a0_2, .int .i64 a0_3, .int .i64 a0_4, .slice A0_5 l0_5.length c0_5], .slice A1 l1.length c1, .int .i64 (wrap64 (a0_3 + a0_4))] rfl gsA ?_; (with_reducible refine (steepleref27_Fits.calls k a0_0 a0_1 a0_2 a0_3 a0_4 _ _ l0_5 _ _ l1 (wrap64 (a0_3 + a0_4)) t287 _ ?side1 ?side2 ?side3 ?side4 A124.out).mono ?_); (case side1 => repeat (first | exact (Kd.C_below HR0_5.out HB.out) | (with_reducible refine Kd.C_alloc ?_ _) | (with_reducible refine Kd.C_drewN ?_ _) | (with_reducible refine Kd.C_drew ?_))); (case side2 => exact HC0_5.out); (case side3 => repeat (first | exact (Kd.C_below HR1.out HB.out) | (with_reducible refine Kd.C_alloc ?_ _) | (with_reducible refine Kd.C_drewN ?_ _) | (with_reducible refine Kd.C_drew ?_))); (case side4 => exact HC1.out); rintro e w133 ⟨rfl, hb⟩; refine ⟨_, rfl, ?_⟩; have n0_ := Aside0.mk (blk_below (bkA BK282.out) hb); have n1_ := Aside0.mk (blk_below (bkA BK283.out) hb); have n2_ := Aside0.mk (below_step (blA HB.out) hb); clear BK282; clear BK283; clear HB; have BK282 := n0_; have BK283 := n1_; have HB := n2_; clear n0_ n1_ n2_; (try clear hb); have hcz134 := fun i => blk_cell BK283.out i; have hfz134 := fun i => blk_frozen BK283.out i; ))
   refine bodyPost_ret (results_cell_row rfl _ _ gb283 61 #[.slice none 0 0, .int .i64 t287] (0, 0) _ rfl (by refine bkA ?_; refine blk_put (cs := #[.slice none 0 0, .int .i64 0]) ?_ 1 _ rfl; refine bkA ?_; refine blk_put (cs := #[.slice none 0 0, .int .i64 0]) ?_ 0 _ rfl; refine bkA ?_; exact BK283.out) Try.underlying61 rfl (by kernel_rfl)) rfl ?_
   exact ⟨_, by first | rfl | (simp [errW_none, errW_some] <;> rfl) | (simp [*, errW_none, errW_some] <;> rfl), by first | exact Kd.S_nil _ _ _ _ _ | exact Kd.N_nil _ _ _ _ _ | exact Kd.V_nil _ _ _ _ _ | exact Kd.Q_nil _ _ _ _ _ | exact Kd.R_nil _ _ _ _ _, blA HB.out⟩
 ·rw [if_neg c4] at H
  have c4b0 : (t284 == 0) = false := beq_eq_false_iff_ne.mpr c4; have c4b1 : (t284 != 0) = true := bne_iff_ne.mpr c4; replace H := Option.bind_eq_some_iff.mp H; obtain ⟨t285, A1350, H⟩ := H; replace H : (some (([] : List (List Int)), t285)) = some (r1, r2) := H; have A135 := Aside0.mk A1350; clear A1350
  simp only [Option.some.injEq, Prod.mk.injEq] at H
  obtain ⟨rfl, rfl⟩ := H
  go_enter Try.func29, Try.ntmps29
  go_wp2_with (first | ((with_reducible refine gate_dst (N := 2) rfl ?_); refine box_event ?hg (N := 2) ?hd (cs := #[.int .i64 a0_0, .int .i64 a0_1, .int .i64 a0_2, .int .i64 a0_3, .int .i64 a0_4, .slice A0_5 l0_5.length c0_5]) (t := 28) ?hr ?_; (case hd => rfl); (case hg => rfl); (case hr => first | (go_simp; done) | (go_simp; rfl)); intro gb282 hg w136 hbox hb; have n0_ := Aside0.mk (below_step (blA HB.out) hb); have n1_ := Aside0.mk (hbox); have n2_ := Aside0.mk ((by rw [hg]; exact (below_size (blA HB.out)) : w.heap.size ≤ gb282)); have n3_ := Aside0.mk ((by rw [hg]; exact (below_size (blA HB.out)) : w.heap.size ≤ gb282)); clear HB; have HB := n0_; have BK282 := n1_; have GW282 := n2_; have GE282 := n3_; clear n0_ n1_ n2_ n3_; clear hb hbox hg) | ((with_reducible refine gate_dst (N := 4) rfl ?_); refine box_event ?hg (N := 4) ?hd (cs := #[.slice none 0 0, .int .i64 0]) (t := 61) ?hr ?_; (case hd => rfl); (case hg => rfl); (case hr => first | (go_simp; done) | (go_simp; rfl)); intro gb283 hg w137 hbox hb; have n0_ := Aside0.mk (blk_below (bkA BK282.out) hb); have n1_ := Aside0.mk (below_step (blA HB.out) hb); have n2_ := Aside0.mk (hbox); have n3_ := Aside0.mk ((by rw [hg]; exact (below_size (blA HB.out)) : w.heap.size ≤ gb283)); have n4_ := Aside0.mk ((by rw [hg]; exact (below_size (blA HB.out)) : w.heap.size ≤ gb283)); have n5_ := Aside0.mk ((by rw [hg]; exact Nat.ne_of_lt (blk_lt (bkA BK282.out)) : gb282 ≠ gb283)); have n6_ := Aside0.mk ((by rw [hg]; exact Nat.ne_of_gt (blk_lt (bkA BK282.out)) : gb283 ≠ gb282)); clear BK282; clear HB; have BK282 := n0_; have HB := n1_; have BK283 := n2_; have GW283 := n3_; have GE283 := n4_; have NB282_283 := n5_; have NB283_282 := n6_; clear n0_ n1_ n2_ n3_ n4_ n5_ n6_; clear hb hbox hg; have hnb138 := NB282_283.out; have hnc138 := NB283_282.out; have hcz139 := fun i => blk_cell BK282.out i; have hfz139 := fun i => blk_frozen BK282.out i; ) | ((with_reducible refine gate_callee (f := 16) rfl ?_); refine goesL_ (some 15) rfl rfl Try.func16 (by kernel_rfl) rfl #[.agg #[.int .i64 a0_0, .int .i64 a0_1, .int .i64 a0_2, .int .i64 a0_3, .int .i64 a0_4, .slice A0_5 l0_5.length c0_5]] rfl gsA ?_; (with_reducible refine (steepleref25_Check.calls k a0_0 a0_1 a0_2 a0_3 a0_4 _ _ l0_5 t284 _ ?side1 ?side2 A3.out).mono ?_); (case side1 => repeat (first | exact (Kd.C_below HR0_5.out HB.out) | (with_reducible refine Kd.C_alloc ?_ _) | (with_reducible refine Kd.C_drewN ?_ _) | (with_reducible refine Kd.C_drew ?_))); (case side2 => exact HC0_5.out); rintro e w140 ⟨rfl, hb⟩; refine ⟨_, rfl, ?_⟩; have n0_ := Aside0.mk (blk_below (bkA BK282.out) hb); have n1_ := Aside0.mk (blk_below (bkA BK283.out) hb); have n2_ := Aside0.mk (below_step (blA HB.out) hb); clear BK282; clear BK283; clear HB; have BK282 := n0_; have BK283 := n1_; have HB := n2_; clear n0_ n1_ n2_; (try clear hb); have hcz141 := fun i => blk_cell BK282.out i; have hfz141 := fun i => blk_frozen BK282.out i; ) | ((with_reducible refine gate_callee (f := 16) rfl ?_); refine goesL_ (some 18) rfl rfl Try.func16 (by kernel_rfl) rfl #[.agg #[.int .i64 a0_0, .int .i64 a0_1, .int .i64 a0_2, .int .i64 a0_3, .int .i64 a0_4, .slice A0_5 l0_5.length c0_5]] rfl gsA ?_; (with_reducible refine (steepleref25_Check.calls k a0_0 a0_1 a0_2 a0_3 a0_4 _ _ l0_5 t285 _ ?side1 ?side2 A135.out).mono ?_); (case side1 => repeat (first | exact (Kd.C_below HR0_5.out HB.out) | (with_reducible refine Kd.C_alloc ?_ _) | (with_reducible refine Kd.C_drewN ?_ _) | (with_reducible refine Kd.C_drew ?_))); (case side2 => exact HC0_5.out); rintro e w142 ⟨rfl, hb⟩; refine ⟨_, rfl, ?_⟩; have n0_ := Aside0.mk (blk_below (bkA BK282.out) hb); have n1_ := Aside0.mk (blk_below (bkA BK283.out) hb); have n2_ := Aside0.mk (below_step (blA HB.out) hb); clear BK282; clear BK283; clear HB; have BK282 := n0_; have BK283 := n1_; have HB := n2_; clear n0_ n1_ n2_; (try clear hb); have hcz143 := fun i => blk_cell BK283.out i; have hfz143 := fun i => blk_frozen BK283.out i; ))
  refine bodyPost_ret (results_cell_row rfl _ _ gb283 61 #[.slice none 0 0, .int .i64 t285] (0, 0) _ rfl (by refine bkA ?_; refine blk_put (cs := #[.slice none 0 0, .int .i64 0]) ?_ 1 _ rfl; refine bkA ?_; refine blk_put (cs := #[.slice none 0 0, .int .i64 0]) ?_ 0 _ rfl; refine bkA ?_; exact BK283.out) Try.underlying61 rfl (by kernel_rfl)) rfl ?_
  exact ⟨_, by first | rfl | (simp [errW_none, errW_some] <;> rfl) | (simp [*, errW_none, errW_some] <;> rfl), by first | exact Kd.S_nil _ _ _ _ _ | exact Kd.N_nil _ _ _ _ _ | exact Kd.V_nil _ _ _ _ _ | exact Kd.Q_nil _ _ _ _ _ | exact Kd.R_nil _ _ _ _ _, blA HB.out⟩
end Go.Proofs.Ythiiodgpdoljoaa.PLw
namespace Go.Proofs.Ythiiodgpdoljoaa.Bit
open Go Go.RowKit Go.Proofs.Ythiiodgpdoljoaa.PLw Go.Proofs.YthiiodgpdoljoaaW.PrintWords Go.Proofs.YthiiodgpdoljoaaW.PrintLast Go.Proofs.YthiiodgpdoljoaaW.PrintMore
set_option linter.unusedVariables false
set_option linter.unusedSimpArgs false
theorem two_at {n : Int} (h0 : 0 ≤ n) (h6 : n ≤ 6) (k : Nat) (hk : 9 ≤ k) : steepleref15_Two.f k n = some (p2 n) := by
  obtain ⟨m, rfl⟩ := Nat.exists_eq_add_of_le' hk
  exact two_p2 m h0 h6
/-- A column that is filled up to a row. -/
def part (R : Nat) (f : Nat → Int) (j : Nat) : List Int := (List.range j).map f ++ List.replicate (R - j) 0
theorem part_len (R : Nat) (f : Nat → Int) (j : Nat) (h : j ≤ R) : (part R f j).length = R := by simp [part]; omega
theorem part_set (R : Nat) (f : Nat → Int) (j : Nat) (h : j < R) : (part R f j).set j (f j) = part R f (j + 1) := by
  unfold part
  rw [List.set_append_right _ _ (by simp), List.length_map, List.length_range, Nat.sub_self, show R - j = (R - (j + 1)) + 1 from by omega, List.replicate_succ, List.set_cons_zero, List.range_succ, List.map_append, List.append_assoc]
  rfl
theorem part_all (R : Nat) (f : Nat → Int) : part R f R = (List.range R).map f := by simp [part]
theorem part_none (R : Nat) (f : Nat → Int) : part R f 0 = List.replicate R 0 := by simp [part]
theorem Cx.two {w R C : Nat} {rows cols : Int} (cx : Cx w R C rows cols) : R ≤ 64 ∧ C ≤ 64 ∧ (∀ k, 9 ≤ k → steepleref15_Two.f k rows = some (R : Int)) ∧ ∀ k, 9 ≤ k → steepleref15_Two.f k cols = some (C : Int) := by
  have ⟨hw, hr0, hr4, hc0, hc6, hR, hC⟩ := cx
  have h1 := p2_bound hr0 (show rows ≤ 6 by omega)
  have h2 := p2_bound hc0 hc6
  refine ⟨by omega, by omega, fun k hk => ?_, fun k hk => ?_⟩
  · rw [two_at hr0 (by omega) k hk, hR]
  · rw [two_at hc0 hc6 k hk, hC]
theorem rdL_left (base t : List (List Int)) (a : Int) (h0 : 0 ≤ a) (h : a < base.length) : rd_L4 (base ++ t) a = rd_L4 base a := by
  obtain ⟨n, rfl⟩ := Int.eq_ofNat_of_zero_le h0
  rw [rdL_nat _ n (by simp; omega), rdL_nat _ n (by omega), List.getElem_append_left (by omega)]
theorem rdL_mid (base t : List (List Int)) (P : List Int) : rd_L4 (base ++ P :: t) (base.length : Int) = P := by
  rw [rdL_nat _ _ (by simp)]; simp
theorem set_mid (base t : List (List Int)) (P Q : List Int) : (base ++ P :: t).set base.length Q = base ++ Q :: t := by simp
def tailC (w R : Nat) (g : S105) (all rest : List (List Int)) (j : Nat) : List (List Int) := if g.f0 = 7 then part R (atB w g all) j :: rest else rest
theorem stepD {a i d : Nat} (h : a - i = d + 1) : i < a ∧ a - (i + 1) = d ∧ i + 1 ≤ a := ⟨by omega, by omega, by omega⟩
theorem stepW {i n : Nat} (h : i < n) (hn : n ≤ 1000) : wrap64 ((i : Int) + 1) = ((i + 1 : Nat) : Int) ∧ (i : Int) < (n : Int) ∧ (0 : Int) ≤ (i : Int) := ⟨by rw [w64 (by omega) (by omega)]; omega, by omega, by omega⟩
theorem stepK {K c k : Nat} (h : K + (c + 1) ≤ k) : ∃ m, k = m + 1 ∧ K + c ≤ m := ⟨k - 1, by omega, by omega⟩
theorem lt_app {α : Type} {a : Int} (x y : List α) (h : a < (x.length : Int)) : a < ((x ++ y).length : Int) := by rw [List.length_append]; omega
theorem lt_mid {α : Type} (x t : List α) (p : α) : (x.length : Int) < ((x ++ p :: t).length : Int) := by simp; omega
theorem lt_len {α : Type} {j R : Nat} {l : List α} (hj : (j : Int) < (R : Int)) (h : l.length = R) : (j : Int) < (l.length : Int) := by rw [h]; exact hj
set_option maxHeartbeats 4000000 in
theorem refRows (w : Nat) (rows cols pub priv : Int) (R C : Nat) (cx : Cx w R C rows cols) (l : List S106) (all rest : List (List Int)) (G : Good w R all) (g : S105) (h1 : 1 ≤ g.f0) (h8 : g.f0 ≤ 8) (h8' : g.f0 ≠ 8) (h2 : 0 ≤ g.f2) (h2' : g.f2 < all.length) (h3 : 0 ≤ g.f3) (h3' : g.f3 < all.length) (h4 : 0 ≤ g.f4) (hs : 4 ≤ g.f0 → g.f0 ≤ 6 → g.f4 < p2 (w : Int)) (hd1 : g.f1 = all.length) (h7 : g.f0 = 7 → g.f4 = all.length + 1) (gi : Int)
    (r : List (List Int) × Int) (h : Ev (fun k => steepleref27_Run.l2 k (all ++ newC w R g all ++ rest) (wrap64 (gi + 1)) (w : Int) rows cols pub priv l) r) (d : Nat) : ∀ j : Nat, R - j = d → j ≤ R →
    Ev (fun k => steepleref27_Run.l3 k (all ++ part R (atA w g all) j :: tailC w R g all rest j) gi (j : Int) (w : Int) rows cols pub priv l g.f0 g.f1 g.f2 g.f3 g.f4) r := by
  have hw := cx.hw
  obtain ⟨hRb, hCb, hT, _⟩ := cx.two
  have g2 := good_at G h2 h2'
  have g3 := good_at G h3 h3'
  have hlt8 : g.f0 < 8 := by clear hs h7 h2 h2' h3 h3' h4 hd1; omega
  have hf1 : (0 : Int) ≤ (all.length : Int) := Int.natCast_nonneg _
  induction d with
  | zero =>
    intro j hd hj
    have hjR : j = R := by clear hs h7 h2 h2' h3 h3' h4 hd1; omega
    subst hjR
    obtain ⟨K, hK⟩ := h
    dsimp only at hK
    refine ⟨K + (9 + 1), fun k hk => ?_⟩
    obtain ⟨k, rfl, hk1_⟩ := stepK hk
    have hr := hK k (Nat.le_trans (Nat.le_add_right _ _) hk1_)
    simp only [steepleref27_Run.l3]
    rw [hT k (Nat.le_trans (Nat.le_add_left _ _) hk1_)]
    simp only [Option.bind_some]
    rw [if_neg (Int.lt_irrefl _), part_all]
    have e : all ++ newC w j g all ++ rest = all ++ (List.range j).map (atA w g all) :: tailC w j g all rest j := by
      unfold newC tailC
      by_cases h7 : g.f0 = 7
      · rw [if_pos h7, if_pos h7, part_all, List.append_assoc]; rfl
      · rw [if_neg h7, if_neg h7, List.append_assoc]; rfl
    rw [← e]
    exact hr
  | succ d ih =>
    intro j hd hj
    obtain ⟨s1, s2, s3⟩ := stepD hd
    obtain ⟨w1, jR, j0⟩ := stepW s1 (Nat.le_trans hRb (by decide))
    obtain ⟨K, hK⟩ := ih (j + 1) s2 s3
    obtain ⟨K2, hK2⟩ := made_ref w hw rows cols pub priv l g h1 h8 h8' h4 hs (g2.2 j s1) (g3.2 j s1)
    dsimp only at hK hK2
    refine ⟨(K + K2 + 9) + (1 + 1), fun k hk => ?_⟩
    obtain ⟨k, rfl, hk2_⟩ := stepK hk
    have e2 := rdL_left all (part R (atA w g all) j :: tailC w R g all rest j) g.f2 h2 h2'
    have e3 := rdL_left all (part R (atA w g all) j :: tailC w R g all rest j) g.f3 h3 h3'
    have hP := part_len R (atA w g all) j hj
    have hPs := part_set R (atA w g all) j s1
    have hQs := part_set R (atB w g all) j s1
    have hk9 : 9 ≤ k := Nat.le_trans (Nat.le_trans (Nat.le_add_left 9 (K + K2)) (Nat.le_add_right _ _)) hk2_
    simp only [steepleref27_Run.l3]
    rw [hT k hk9]
    simp only [Option.bind_some]
    rw [if_pos jR, if_neg h8']
    obtain ⟨k, rfl, hk3_⟩ := stepK hk2_
    have hkK : K ≤ k := Nat.le_trans (by rw [Nat.add_zero, Nat.add_assoc]; exact Nat.le_add_right _ _) hk3_
    have hkK2 : K2 ≤ k := Nat.le_trans (by rw [Nat.add_zero, Nat.add_assoc, Nat.add_left_comm]; exact Nat.le_add_right _ _) hk3_
    have hr := hK k hkK
    simp only [steepleref27_Run.j4]
    rw [if_neg (by decide), if_pos hlt8, if_pos h2, if_pos (lt_app _ _ h2'), if_pos j0, e2, if_pos (lt_len jR g2.1), if_pos h3, if_pos (lt_app _ _ h3'), e3, if_pos (lt_len jR g3.1), hK2 k hkK2]
    simp only [Option.bind_some]
    rw [hd1, if_pos hf1, if_pos (lt_mid _ _ _), if_pos (by simp), rdL_mid, if_pos (lt_len jR hP), Int.toNat_natCast, Int.toNat_natCast, set_mid]
    rw [show rd [mkA w g (rd (rd_L4 all g.f2) j) (rd (rd_L4 all g.f3) j), mkB w g (rd (rd_L4 all g.f2) j) (rd (rd_L4 all g.f3) j)] 0 = atA w g all j from rfl, hPs]
    by_cases h7' : g.f0 = 7
    · have hf4 := h7 h7'
      have et : tailC w R g all rest j = part R (atB w g all) j :: rest := by unfold tailC; rw [if_pos h7']
      have et' : tailC w R g all rest (j + 1) = part R (atB w g all) (j + 1) :: rest := by unfold tailC; rw [if_pos h7']
      have hlen4 : g.f4 = (((all ++ [part R (atA w g all) (j + 1)]).length : Nat) : Int) := by rw [hf4, List.length_append]; rfl
      have hQ := part_len R (atB w g all) j hj
      have hm : ((all ++ [part R (atA w g all) (j + 1)]).length : Int) < ((all ++ part R (atA w g all) j :: part R (atB w g all) j :: rest).length : Int) := by clear hs h7 hf4 hlen4; simp; omega
      rw [et'] at hr
      rw [if_pos h7', et, hlen4, if_pos (Int.natCast_nonneg _), if_pos hm, if_pos (by simp)]
      rw [show all ++ part R (atA w g all) (j + 1) :: part R (atB w g all) j :: rest = (all ++ [part R (atA w g all) (j + 1)]) ++ part R (atB w g all) j :: rest from by simp, rdL_mid, if_pos (lt_len jR hQ), Int.toNat_natCast, set_mid]
      rw [show rd [mkA w g (rd (rd_L4 all g.f2) j) (rd (rd_L4 all g.f3) j), mkB w g (rd (rd_L4 all g.f2) j) (rd (rd_L4 all g.f3) j)] 1 = atB w g all j from rfl, hQs, ← hlen4, w1, ← hd1, List.append_assoc]
      exact hr
    · have et : tailC w R g all rest j = rest := by unfold tailC; rw [if_neg h7']
      have et' : tailC w R g all rest (j + 1) = rest := by unfold tailC; rw [if_neg h7']
      rw [et'] at hr
      rw [if_neg h7', et, w1, ← hd1]
      exact hr
set_option maxHeartbeats 4000000 in
theorem refSame (w : Nat) (rows cols pub priv : Int) (R C : Nat) (cx : Cx w R C rows cols) (l : List S106) (M : List (List Int)) (g : S105) (h8 : g.f0 = 8) (h2 : 0 ≤ g.f2) (h2' : g.f2 < M.length) (h3 : 0 ≤ g.f3) (h3' : g.f3 < M.length) (l2 : (rd_L4 M g.f2).length = R) (l3 : (rd_L4 M g.f3).length = R) (gi : Int)
    (r : List (List Int) × Int) (h : Ev (fun k => steepleref27_Run.l2 k M (wrap64 (gi + 1)) (w : Int) rows cols pub priv l) r) (d : Nat) : ∀ j : Nat, R - j = d → j ≤ R →
    Ev (fun k => steepleref27_Run.l3 k M gi (j : Int) (w : Int) rows cols pub priv l g.f0 g.f1 g.f2 g.f3 g.f4) (if (rd_L4 M g.f2).drop j = (rd_L4 M g.f3).drop j then r else ([], 7)) := by
  obtain ⟨hRb, hCb, hT, _⟩ := cx.two
  have hn8 : ¬ g.f0 < 8 := by rw [h8]; decide
  induction d with
  | zero =>
    intro j hd hj
    have hjR : j = R := by clear h2 h2' h3 h3'; omega
    subst hjR
    obtain ⟨K, hK⟩ := h
    dsimp only at hK
    refine ⟨K + (9 + 1), fun k hk => ?_⟩
    obtain ⟨k, rfl, hk1_⟩ := stepK hk
    have hr := hK k (Nat.le_trans (Nat.le_add_right _ _) hk1_)
    simp only [steepleref27_Run.l3]
    rw [hT k (Nat.le_trans (Nat.le_add_left _ _) hk1_)]
    simp only [Option.bind_some]
    rw [if_neg (Int.lt_irrefl _), List.drop_of_length_le (Nat.le_of_eq l2), List.drop_of_length_le (Nat.le_of_eq l3), if_pos rfl]
    exact hr
  | succ d ih =>
    intro j hd hj
    obtain ⟨s1, s2, s3⟩ := stepD hd
    obtain ⟨w1, jR, j0⟩ := stepW s1 (Nat.le_trans hRb (by decide))
    obtain ⟨K, hK⟩ := ih (j + 1) s2 s3
    dsimp only at hK
    refine ⟨(K + 9) + (1 + 1), fun k hk => ?_⟩
    obtain ⟨k, rfl, hk2_⟩ := stepK hk
    have b2 : j < (rd_L4 M g.f2).length := by rw [l2]; exact s1
    have b3 : j < (rd_L4 M g.f3).length := by rw [l3]; exact s1
    have hk9 : 9 ≤ k := Nat.le_trans (Nat.le_trans (Nat.le_add_left 9 K) (Nat.le_add_right _ _)) hk2_
    simp only [steepleref27_Run.l3]
    rw [hT k hk9]
    simp only [Option.bind_some]
    rw [if_pos jR, if_pos h8, if_pos h2, if_pos h2', if_pos j0, if_pos (lt_len jR l2), if_pos h3, if_pos h3', if_pos (lt_len jR l3), rd_nat _ j b2, rd_nat _ j b3, List.drop_eq_getElem_cons b2, List.drop_eq_getElem_cons b3]
    obtain ⟨k, rfl, hk3_⟩ := stepK hk2_
    have hr := hK k (Nat.le_trans (by rw [Nat.add_zero]; exact Nat.le_add_right _ _) hk3_)
    simp only [steepleref27_Run.j4]
    by_cases he : (rd_L4 M g.f2)[j] = (rd_L4 M g.f3)[j]
    · rw [he, bne_self_eq_false, if_neg (by decide), if_neg hn8, w1, hr]
      by_cases hq : (rd_L4 M g.f2).drop (j + 1) = (rd_L4 M g.f3).drop (j + 1)
      · rw [if_pos hq, if_pos (by rw [hq])]
      · rw [if_neg hq, if_neg (fun h => hq (by rw [List.cons.injEq] at h; exact h.2))]
    · rw [show ((rd_L4 M g.f2)[j] != (rd_L4 M g.f3)[j]) = true from bne_iff_ne.mpr he, if_pos rfl, if_neg (fun h => he (by rw [List.cons.injEq] at h; exact h.1))]
end Go.Proofs.Ythiiodgpdoljoaa.Bit
namespace Go.Proofs.Ythiiodgpdoljoaa.Bit
open Go Go.RowKit Go.Proofs.Ythiiodgpdoljoaa.PLw Go.Proofs.YthiiodgpdoljoaaW.PrintWords Go.Proofs.YthiiodgpdoljoaaW.PrintLast Go.Proofs.YthiiodgpdoljoaaW.PrintMore
set_option linter.unusedVariables false
set_option linter.unusedSimpArgs false
theorem new_nat (w R : Nat) (g : S105) (all : List (List Int)) (h8 : g.f0 ≠ 8) : (all ++ newC w R g all).length = all.length + (if g.f0 = 7 then 2 else 1) := by
  unfold newC
  by_cases h7 : g.f0 = 7
  · rw [if_pos h7, if_pos h7]; simp
  · rw [if_neg h7, if_neg h7]; simp
theorem makes_nat (g : S105) (h8 : g.f0 ≠ 8) : makes g.f0 = (((if g.f0 = 7 then 2 else 1) : Nat) : Int) := by
  unfold makes
  by_cases h7 : g.f0 = 7
  · rw [if_neg h8, if_pos h7, if_pos h7]; rfl
  · rw [if_neg h8, if_neg h7, if_neg h7]; rfl
theorem tail_open (w R C : Nat) (g : S105) (all : List (List Int)) (h8 : g.f0 ≠ 8) (hfn : (all.length : Int) + makes g.f0 ≤ (C : Int)) :
    all ++ List.replicate (C - all.length) (List.replicate R 0) = all ++ part R (atA w g all) 0 :: tailC w R g all (List.replicate (C - (all ++ newC w R g all).length) (List.replicate R 0)) 0 ∧ (all ++ newC w R g all).length ≤ C := by
  rw [makes_nat g h8] at hfn
  rw [new_nat w R g all h8]
  unfold tailC
  rw [part_none, part_none]
  by_cases h7 : g.f0 = 7
  · rw [if_pos h7] at hfn
    rw [if_pos h7, if_pos h7]
    refine ⟨?_, by omega⟩
    rw [show C - all.length = (C - (all.length + 2)) + 1 + 1 from by omega, List.replicate_succ, List.replicate_succ]
  · rw [if_neg h7] at hfn
    rw [if_neg h7, if_neg h7]
    refine ⟨?_, by omega⟩
    rw [show C - all.length = (C - (all.length + 1)) + 1 from by omega, List.replicate_succ]
set_option maxHeartbeats 4000000 in
theorem refGates (w : Nat) (rows cols pub priv : Int) (R C : Nat) (cx : Cx w R C rows cols) (l : List S105) (hl : l.length ≤ 1000) (d : Nat) : ∀ (i : Nat) (all : List (List Int)), l.length - i = d → i ≤ l.length → Good w R all → all.length ≤ C → (walk (w : Int) cols (l.drop i) (all.length : Int)).2 = 0 →
    Ev (fun k => steepleref27_Run.l2 k (all ++ List.replicate (C - all.length) (List.replicate R 0)) (i : Int) (w : Int) rows cols pub priv (l.map toG)) (finish C R (runG w R (l.drop i) all)) := by
  have hC := cx.hC
  induction d with
  | zero =>
    intro i all hd hi G ha hw0
    refine evFuel 1 fun m => ?_
    simp only [steepleref27_Run.l2, List.length_map]
    clear hw0
    rw [if_neg (by omega), List.drop_of_length_le (by omega)]
    rfl
  | succ d ih =>
    intro i all hd hi G ha hw0
    obtain ⟨hlt, q1, q2⟩ := stepD hd
    obtain ⟨w1, q3, q4⟩ := stepW hlt hl
    have hrd : rd_T106 (l.map toG) (i : Int) = toG l[i] := by rw [rd106 _ i (by simpa using hlt)]; simp
    rw [List.drop_eq_getElem_cons hlt] at hw0 ⊢
    unfold walk at hw0
    by_cases hg : gErr (w : Int) cols l[i] (all.length : Int) = 0
    case neg => simp only [hg, if_false] at hw0
    simp only [hg, if_true] at hw0
    obtain ⟨f1, f8, f2, f2', f3, f3', f4, fd, f7, fs, fn⟩ := gate_facts hg (Int.natCast_nonneg _)
    clear hg
    have fin : ∀ r, Ev (fun k => steepleref27_Run.l3 k (all ++ List.replicate (C - all.length) (List.replicate R 0)) (i : Int) 0 (w : Int) rows cols pub priv (l.map toG) l[i].f0 l[i].f1 l[i].f2 l[i].f3 l[i].f4) r → Ev (fun k => steepleref27_Run.l2 k (all ++ List.replicate (C - all.length) (List.replicate R 0)) (i : Int) (w : Int) rows cols pub priv (l.map toG)) r := by
      intro r h
      refine Ev.step (fun k => ?_) h
      simp only [steepleref27_Run.l2, List.length_map]
      rw [if_pos q3, if_pos q4, hrd]
      rfl
    apply fin
    by_cases h8 : l[i].f0 = 8
    · have hm0 : makes l[i].f0 = 0 := by rw [h8]; rfl
      rw [hm0, Int.add_zero] at hw0
      have g2 := good_at G f2 f2'
      have g3 := good_at G f3 f3'
      have hi' := ih (i + 1) all q1 q2 G ha hw0
      have e2 := rdL_left all (List.replicate (C - all.length) (List.replicate R 0)) l[i].f2 f2 f2'
      have e3 := rdL_left all (List.replicate (C - all.length) (List.replicate R 0)) l[i].f3 f3 f3'
      have := refSame w rows cols pub priv R C cx (l.map toG) (all ++ List.replicate (C - all.length) (List.replicate R 0)) l[i] h8 f2 (lt_app _ _ f2') f3 (lt_app _ _ f3') (by rw [e2]; exact g2.1) (by rw [e3]; exact g3.1) (i : Int) _ (by rw [w1]; exact hi') R 0 (Nat.sub_zero R) (Nat.zero_le R)
      rw [e2, e3, List.drop_zero, List.drop_zero] at this
      simp only [runG, if_pos h8]
      by_cases heq : rd_L4 all l[i].f2 = rd_L4 all l[i].f3
      · rw [if_pos heq] at this ⊢
        exact this
      · rw [if_neg heq] at this ⊢
        exact this
    · rw [← new_len w R l[i] all h8] at hw0
      rw [hC] at fn
      obtain ⟨e1, hle⟩ := tail_open w R C l[i] all h8 fn
      have hi' := ih (i + 1) (all ++ newC w R l[i] all) q1 q2 (good_new G l[i] f2 f2' f3 f3') hle hw0
      have := refRows w rows cols pub priv R C cx (l.map toG) all (List.replicate (C - (all ++ newC w R l[i] all).length) (List.replicate R 0)) G l[i] f1 f8 h8 f2 f2' f3 f3' f4 fs (fd h8) f7 (i : Int) _ (by rw [w1]; exact hi') R 0 (Nat.sub_zero R) (Nat.zero_le R)
      rw [← e1] at this
      simp only [runG, if_neg h8]
      exact this
def src (R : Nat) (given : List (List Int)) (i : Nat) : List Int := given.getD i (List.replicate R 0)
theorem src_len {w R : Nat} {given : List (List Int)} (G : Good w R given) (i : Nat) : (src R given i).length = R := by
  unfold src
  rw [List.getD_eq_getElem?_getD]
  by_cases h : i < given.length
  · rw [List.getElem?_eq_getElem h]; exact (G _ (List.getElem_mem h)).1
  · rw [List.getElem?_eq_none (by omega)]; simp
theorem src_all (R : Nat) (C : Nat) (given : List (List Int)) (h : given.length ≤ C) : (List.range C).map (src R given) = given ++ List.replicate (C - given.length) (List.replicate R 0) := by
  apply List.ext_getElem
  · simp; omega
  · intro i h1 h2
    simp only [List.getElem_map, List.getElem_range, src, List.getD_eq_getElem?_getD, List.getElem_append]
    split
    · rename_i hi; rw [List.getElem?_eq_getElem hi]; rfl
    · rename_i hi; rw [List.getElem?_eq_none (by omega)]; simp
theorem src_in {R : Nat} {given : List (List Int)} {i : Nat} (h : i < given.length) : src R given i = given[i] := by
  unfold src; rw [List.getD_eq_getElem?_getD, List.getElem?_eq_getElem h]; rfl
theorem src_out {R : Nat} {given : List (List Int)} {i : Nat} (h : ¬ i < given.length) : src R given i = List.replicate R 0 := by
  unfold src; rw [List.getD_eq_getElem?_getD, List.getElem?_eq_none (by omega)]; rfl
theorem take_small {l : List Int} {j n : Nat} (h : j < n) (hn : n ≤ 64) : (l.take j).length < 17592186044416 := by rw [List.length_take]; omega
set_option maxHeartbeats 4000000 in
theorem refCol (w : Nat) (rows cols pub priv : Int) (R C : Nat) (cx : Cx w R C rows cols) (l : List S106) (given acc : List (List Int)) (G : Good w R given) (ha : acc.length < 5864062014805) (i : Nat) (r : List (List Int) × Int) (h : Ev (fun k => steepleref27_Run.l0 k given (acc ++ [src R given i]) (wrap64 ((i : Int) + 1)) (w : Int) rows cols pub priv l) r) (d : Nat) : ∀ j : Nat, R - j = d → j ≤ R →
    Ev (fun k => steepleref27_Run.l1 k given acc (i : Int) ((src R given i).take j) (j : Int) (w : Int) rows cols pub priv l) r := by
  obtain ⟨hRb, hCb, hT, hTc⟩ := cx.two
  have hs := src_len G i
  induction d with
  | zero =>
    intro j hd hj
    have hjR : j = R := Nat.le_antisymm hj (Nat.sub_eq_zero_iff_le.mp hd)
    subst hjR
    obtain ⟨K, hK⟩ := h
    dsimp only at hK
    refine ⟨K + (9 + 1), fun k hk => ?_⟩
    obtain ⟨k, rfl, hk1⟩ := stepK hk
    have hr := hK k (Nat.le_trans (Nat.le_add_right _ _) hk1)
    simp only [steepleref27_Run.l1]
    rw [hT k (Nat.le_trans (Nat.le_add_left _ _) hk1)]
    simp only [Option.bind_some]
    rw [if_neg (Int.lt_irrefl _), if_pos ha, List.take_of_length_le (Nat.le_of_eq hs)]
    exact hr
  | succ d ih =>
    intro j hd hj
    obtain ⟨s1, s2, s3⟩ := stepD hd
    obtain ⟨w1, jR, j0⟩ := stepW s1 (Nat.le_trans hRb (by decide))
    obtain ⟨K, hK⟩ := ih (j + 1) s2 s3
    dsimp only at hK
    refine ⟨K + (9 + 1), fun k hk => ?_⟩
    obtain ⟨k, rfl, hk1⟩ := stepK hk
    have hjl : j < (src R given i).length := by rw [hs]; exact s1
    have hr := hK k (Nat.le_trans (Nat.le_add_right _ _) hk1)
    rw [List.take_succ_eq_append_getElem hjl] at hr
    simp only [steepleref27_Run.l1]
    rw [hT k (Nat.le_trans (Nat.le_add_left _ _) hk1)]
    simp only [Option.bind_some]
    rw [if_pos jR]
    by_cases hi : i < given.length
    · have e := src_in (R := R) hi
      have el : given[i].length = R := by rw [← e]; exact hs
      have hjg : j < given[i].length := by rw [el]; exact s1
      rw [if_pos (Int.ofNat_lt.mpr hi), if_pos (Int.natCast_nonneg i), if_pos j0, rdL_nat given i hi, if_pos (lt_len jR el), rd_nat _ j hjg, if_pos (take_small s1 hRb), w1]
      rw [show given[i][j] = (src R given i)[j] from by simp [e]]
      exact hr
    · have e := src_out (R := R) hi
      rw [if_neg (fun h => hi (Int.ofNat_lt.mp h)), if_pos (take_small s1 hRb), w1]
      rw [show (src R given i)[j] = 0 from by simp [e]] at hr
      exact hr
set_option maxHeartbeats 4000000 in
theorem refCopy (w : Nat) (rows cols pub priv : Int) (R C : Nat) (cx : Cx w R C rows cols) (l : List S105) (hl : l.length ≤ 1000) (given : List (List Int)) (G : Good w R given) (hg : given.length ≤ C) (hw0 : (walk (w : Int) cols l (given.length : Int)).2 = 0) (d : Nat) : ∀ i : Nat, C - i = d → i ≤ C →
    Ev (fun k => steepleref27_Run.l0 k given ((List.range i).map (src R given)) (i : Int) (w : Int) rows cols pub priv (l.map toG)) (finish C R (runG w R l given)) := by
  obtain ⟨hRb, hCb, hT, hTc⟩ := cx.two
  have HW := Aside0.mk hw0
  clear hw0
  induction d with
  | zero =>
    intro i hd hi
    have hiC : i = C := Nat.le_antisymm hi (Nat.sub_eq_zero_iff_le.mp hd)
    subst hiC
    obtain ⟨K, hK⟩ := refGates w rows cols pub priv R i cx l hl l.length 0 given (Nat.sub_zero _) (Nat.zero_le _) G hg HW.out
    dsimp only at hK
    refine ⟨K + (9 + 1), fun k hk => ?_⟩
    obtain ⟨k, rfl, hk1⟩ := stepK hk
    have hr := hK k (Nat.le_trans (Nat.le_add_right _ _) hk1)
    simp only [steepleref27_Run.l0]
    rw [hTc k (Nat.le_trans (Nat.le_add_left _ _) hk1)]
    simp only [Option.bind_some]
    rw [if_neg (Int.lt_irrefl _), src_all _ _ _ hg]
    exact hr
  | succ d ih =>
    intro i hd hi
    obtain ⟨s1, s2, s3⟩ := stepD hd
    obtain ⟨w1, jR, j0⟩ := stepW s1 (Nat.le_trans hCb (by decide))
    have h := ih (i + 1) s2 s3
    rw [List.range_succ, List.map_append] at h
    obtain ⟨K, hK⟩ := refCol w rows cols pub priv R C cx (l.map toG) given ((List.range i).map (src R given)) G (by rw [List.length_map, List.length_range]; exact Nat.lt_of_lt_of_le s1 (Nat.le_trans hCb (by decide))) i _ (by rw [w1]; exact h) R 0 (Nat.sub_zero R) (Nat.zero_le R)
    dsimp only at hK
    refine ⟨K + (9 + 1), fun k hk => ?_⟩
    obtain ⟨k, rfl, hk1⟩ := stepK hk
    have hr := hK k (Nat.le_trans (Nat.le_add_right _ _) hk1)
    simp only [steepleref27_Run.l0]
    rw [hTc k (Nat.le_trans (Nat.le_add_left _ _) hk1)]
    simp only [Option.bind_some]
    rw [if_pos jR]
    exact hr
end Go.Proofs.Ythiiodgpdoljoaa.Bit
namespace Go.Proofs.Ythiiodgpdoljoaa.Bit
open Go Go.RowKit Go.Proofs.Ythiiodgpdoljoaa.PLw Go.Proofs.YthiiodgpdoljoaaW.PrintWords Go.Proofs.YthiiodgpdoljoaaW.PrintLast Go.Proofs.YthiiodgpdoljoaaW.PrintMore
set_option linter.unusedVariables false
set_option linter.unusedSimpArgs false
theorem refLoopG (a0 a1 a2 a3 a4 : Int) (b0 b1 b2 b3 b4 : Int) (l : List S105) (hl : l.length ≤ 1000) (d : Nat) : ∀ (k i : Nat) (acc : List S106), l.length - i = d → i ≤ l.length → acc.length = i → d < k →
    steeplelaw25_Ref.l0 k (i : Int) a0 a1 a2 a3 a4 l b0 b1 b2 b3 b4 acc = some (b0, b1, b2, b3, b4, acc ++ (l.drop i).map toG) := by
  induction d with
  | zero =>
    intro k i acc hd hi ha hk
    obtain ⟨k, rfl⟩ : ∃ m, k = m + 1 := ⟨k - 1, by omega⟩
    simp only [steeplelaw25_Ref.l0]
    rw [if_neg (by omega), List.drop_of_length_le (by omega)]
    simp
  | succ d ih =>
    intro k i acc hd hi ha hk
    obtain ⟨k, rfl⟩ : ∃ m, k = m + 1 := ⟨k - 1, by omega⟩
    have hlt : i < l.length := by omega
    simp only [steeplelaw25_Ref.l0]
    rw [if_pos (by omega), if_pos (by omega), if_pos (by omega), rd105 l i hlt, w64 (by omega) (by omega)]
    rw [List.drop_eq_getElem_cons hlt]
    have := ih k (i + 1) (acc ++ [toG l[i]]) (by omega) (by omega) (by simp; omega) (by omega)
    have e : acc ++ List.map toG (l[i] :: List.drop (i + 1) l) = (acc ++ [toG l[i]]) ++ List.map toG (List.drop (i + 1) l) := by rw [List.map_cons, List.append_assoc]; rfl
    rw [e]
    exact this
theorem refG (k : Nat) (a0 a1 a2 a3 a4 : Int) (l : List S105) (hl : l.length ≤ 1000) (hk : l.length < k) : steeplelaw25_Ref.f k a0 a1 a2 a3 a4 l = some (a0, a1, a2, a3, a4, l.map toG) := by
  unfold steeplelaw25_Ref.f
  have := refLoopG a0 a1 a2 a3 a4 a0 a1 a2 a3 a4 l hl l.length k 0 [] (by omega) (by omega) rfl hk
  simpa using this
theorem checkSpec (m : Nat) (wide rows cols pub priv : Int) (l : List S105) : circuit_Check.f (m + 60) wide rows cols pub priv l = some (lookS wide rows cols pub priv l).2 := by
  unfold circuit_Check.f; rw [lookSpec]; rfl
theorem lookS_cases {wide rows cols pub priv : Int} {l : List S105} (h : (lookS wide rows cols pub priv l).2 = 0) :
    0 ≤ wide ∧ wide ≤ 5 ∧ 0 ≤ rows ∧ rows ≤ 4 ∧ 0 ≤ cols ∧ cols ≤ 6 ∧ 0 ≤ pub ∧ 0 ≤ priv ∧ pub + priv ≤ p2 cols ∧ l.length ≤ 30 ∧ lookS wide rows cols pub priv l = walk wide cols l (pub + priv) := by
  unfold lookS at h ⊢
  by_cases h1 : wide < 0 ∨ 5 < wide ∨ rows < 0 ∨ 4 < rows ∨ cols < 0 ∨ 6 < cols
  · rw [if_pos h1] at h; cases h
  · by_cases h2 : pub < 0 ∨ priv < 0 ∨ p2 cols < pub ∨ p2 cols - pub < priv
    · rw [if_neg h1, if_pos h2] at h; cases h
    · by_cases h3 : 30 < l.length
      · rw [if_neg h1, if_neg h2, if_pos h3] at h; cases h
      · rw [if_neg h1, if_neg h2, if_neg h3]
        refine ⟨by omega, by omega, by omega, by omega, by omega, by omega, by omega, by omega, by omega, by omega, rfl⟩
end Go.Proofs.Ythiiodgpdoljoaa.Bit
namespace Go.Proofs.Ythiiodgpdoljoaa.Bit
open Go Go.RowKit Go.Proofs.Ythiiodgpdoljoaa.PLw Go.Proofs.YthiiodgpdoljoaaW.PrintWords Go.Proofs.YthiiodgpdoljoaaW.PrintLast Go.Proofs.YthiiodgpdoljoaaW.PrintMore
set_option linter.unusedVariables false
set_option linter.unusedSimpArgs false
/-- The words of columns are words of 64 bits. -/
def W64 (l : List (List Int)) : Prop := ∀ c ∈ l, ∀ x ∈ c, 0 ≤ x ∧ x < 2 ^ 64
def Lens (n m : Nat) (l : List (List Int)) : Prop := l.length ≤ n ∧ ∀ c ∈ l, c.length ≤ m
def mostI (w : Nat) : Int := 2 ^ (2 ^ w) - 1
theorem most_val (w : Nat) (hw : w ≤ 5) : witness_most0.f (w : Int) = some (mostI w) := by
  unfold witness_most0.f mostI
  rw [if_pos (by omega), Int.toNat_natCast]
theorem shr_big (w : Nat) (hw : w ≤ 5) (x : Int) (h0 : 0 ≤ x) : (shr .u64 x (IntKind.u64.wrap ((2 ^ w : Nat) : Int)) > 0) ↔ mostI w < x := by
  obtain ⟨n, rfl⟩ := Int.eq_ofNat_of_zero_le h0
  have h2 := two_le hw
  rw [wrap64u (2 ^ w) (by omega), shr_nat n (2 ^ w) h2.2, Nat.shiftRight_eq_div_pow]
  have hp : 0 < 2 ^ 2 ^ w := Nat.two_pow_pos _
  have e : mostI w = ((2 ^ 2 ^ w : Nat) : Int) - 1 := by unfold mostI; push_cast; rfl
  rw [e]
  generalize 2 ^ 2 ^ w = M at *
  constructor
  · intro h
    have h' : 0 < n / M := by omega
    have := (Nat.div_pos_iff.mp h').2
    omega
  · intro h
    have h' : 0 < n / M := Nat.div_pos (by omega) hp
    omega
section
variable {w R C : Nat} {rows cols : Int}
theorem fits2 (cx : Cx w R C rows cols) (pub priv : Int) (l : List S106) (given : List (List Int)) (hW : W64 given) (hL : Lens 1000 1000 given) (i : Nat) (hi : i < given.length) (r : Int)
    (h : Ev (fun k => steepleref27_Fits.l1 k given ((i + 1 : Nat) : Int) (w : Int) rows cols pub priv l) r) (d : Nat) : ∀ j : Nat, given[i].length - j = d → j ≤ given[i].length →
    Ev (fun k => steepleref27_Fits.l2 k given (i : Int) (j : Int) (w : Int) rows cols pub priv l) (if (given[i].drop j).any (fun x => decide (mostI w < x)) = true then 5 else r) := by
  have hw := cx.hw
  have hT : ∀ k, 9 ≤ k → steepleref15_Two.f k (w : Int) = some ((2 ^ w : Nat) : Int) := fun k hk => by rw [two_at (Int.natCast_nonneg w) (by omega) k hk, p2_nat, Int.toNat_natCast]
  have hl := hL.2 _ (List.getElem_mem hi)
  obtain ⟨wi, iL, i0⟩ := stepW hi hL.1
  have hrd := rdL_nat given i hi
  induction d with
  | zero =>
    intro j hd hj
    have hjR : j = given[i].length := Nat.le_antisymm hj (Nat.sub_eq_zero_iff_le.mp hd)
    obtain ⟨K, hK⟩ := h
    dsimp only at hK
    refine ⟨K + (0 + 1), fun k hk => ?_⟩
    obtain ⟨k, rfl, hk1⟩ := stepK hk
    have hr := hK k hk1
    simp only [steepleref27_Fits.l2]
    rw [if_pos i0, if_pos iL, hrd, if_neg (by rw [hjR]; exact Int.lt_irrefl _), wi, hr, List.drop_of_length_le (Nat.le_of_eq hjR.symm), if_neg (by simp)]
  | succ d ih =>
    intro j hd hj
    obtain ⟨s1, s2, s3⟩ := stepD hd
    obtain ⟨w1, jR, j0⟩ := stepW s1 hl
    obtain ⟨K, hK⟩ := ih (j + 1) s2 s3
    dsimp only at hK
    refine ⟨K + (9 + 1), fun k hk => ?_⟩
    obtain ⟨k, rfl, hk1⟩ := stepK hk
    have hr := hK k (Nat.le_trans (Nat.le_add_right _ _) hk1)
    have hx := hW _ (List.getElem_mem hi) _ (List.getElem_mem s1)
    have hw0 : (0 : Int) ≤ IntKind.u64.wrap ((2 ^ w : Nat) : Int) := by rw [wrap64u (2 ^ w) (by have := two_le hw; omega)]; exact Int.natCast_nonneg _
    simp only [steepleref27_Fits.l2]
    rw [if_pos i0, if_pos iL, hrd, if_pos jR, if_pos j0, hT k (Nat.le_trans (Nat.le_add_left _ _) hk1)]
    simp only [Option.bind_some]
    rw [if_pos hw0, rd_nat _ j s1, List.drop_eq_getElem_cons s1, List.any_cons]
    by_cases hb : mostI w < given[i][j]
    · rw [if_pos ((shr_big w hw _ hx.1).mpr hb), if_pos (by rw [decide_eq_true hb]; rfl)]
    · rw [if_neg (fun h => hb ((shr_big w hw _ hx.1).mp h)), w1, hr, decide_eq_false hb, Bool.false_or]
theorem fits1 (cx : Cx w R C rows cols) (pub priv : Int) (l : List S106) (given : List (List Int)) (hW : W64 given) (hL : Lens 1000 1000 given) (d : Nat) : ∀ i : Nat, given.length - i = d → i ≤ given.length →
    Ev (fun k => steepleref27_Fits.l1 k given (i : Int) (w : Int) rows cols pub priv l) (if (given.drop i).any (colBig (mostI w)) = true then 5 else 0) := by
  induction d with
  | zero =>
    intro i hd hi
    have hiC : i = given.length := Nat.le_antisymm hi (Nat.sub_eq_zero_iff_le.mp hd)
    refine evFuel 1 fun m => ?_
    simp only [steepleref27_Fits.l1]
    rw [if_neg (by rw [hiC]; exact Int.lt_irrefl _), List.drop_of_length_le (Nat.le_of_eq hiC.symm), if_neg (by simp)]
  | succ d ih =>
    intro i hd hi
    obtain ⟨s1, s2, s3⟩ := stepD hd
    obtain ⟨w1, iL, i0⟩ := stepW s1 hL.1
    obtain ⟨K, hK⟩ := fits2 cx pub priv l given hW hL i s1 _ (ih (i + 1) s2 s3) given[i].length 0 (Nat.sub_zero _) (Nat.zero_le _)
    dsimp only at hK
    refine ⟨K + (0 + 1), fun k hk => ?_⟩
    obtain ⟨k, rfl, hk1⟩ := stepK hk
    have hr := hK k hk1
    simp only [steepleref27_Fits.l1]
    rw [if_pos iL, List.drop_eq_getElem_cons s1, List.any_cons]
    refine hr.trans ?_
    rw [List.drop_zero]
    show some (if colBig (mostI w) given[i] = true then _ else _) = _
    cases colBig (mostI w) given[i]
    · rw [if_neg (by decide), Bool.false_or]
    · rw [if_pos rfl, Bool.true_or, if_pos rfl]
theorem fits0 (cx : Cx w R C rows cols) (pub priv : Int) (l : List S106) (given : List (List Int)) (hW : W64 given) (hL : Lens 1000 1000 given) (d : Nat) : ∀ i : Nat, given.length - i = d → i ≤ given.length →
    Ev (fun k => steepleref27_Fits.l0 k given (i : Int) (w : Int) rows cols pub priv l) (if (given.drop i).all (colLen rows) = false then 6 else if given.any (colBig (mostI w)) = true then 5 else 0) := by
  obtain ⟨_, _, hT, _⟩ := cx.two
  have hR := cx.hR
  induction d with
  | zero =>
    intro i hd hi
    have hiC : i = given.length := Nat.le_antisymm hi (Nat.sub_eq_zero_iff_le.mp hd)
    obtain ⟨K, hK⟩ := fits1 cx pub priv l given hW hL given.length 0 (Nat.sub_zero _) (Nat.zero_le _)
    dsimp only at hK
    refine ⟨K + (0 + 1), fun k hk => ?_⟩
    obtain ⟨k, rfl, hk1⟩ := stepK hk
    have hr := hK k hk1
    simp only [steepleref27_Fits.l0]
    rw [if_neg (by rw [hiC]; exact Int.lt_irrefl _), List.drop_of_length_le (Nat.le_of_eq hiC.symm), if_neg (by simp)]
    exact hr
  | succ d ih =>
    intro i hd hi
    obtain ⟨s1, s2, s3⟩ := stepD hd
    obtain ⟨w1, iL, i0⟩ := stepW s1 hL.1
    obtain ⟨K, hK⟩ := ih (i + 1) s2 s3
    dsimp only at hK
    refine ⟨K + (9 + 1), fun k hk => ?_⟩
    obtain ⟨k, rfl, hk1⟩ := stepK hk
    have hr := hK k (Nat.le_trans (Nat.le_add_right _ _) hk1)
    simp only [steepleref27_Fits.l0]
    rw [if_pos iL, if_pos i0, hT k (Nat.le_trans (Nat.le_add_left _ _) hk1)]
    simp only [Option.bind_some]
    rw [rdL_nat given i s1, List.drop_eq_getElem_cons s1, List.all_cons]
    have e : colLen rows given[i] = decide ((given[i].length : Int) = (R : Int)) := by rw [← hR]; rfl
    rw [e]
    by_cases hb : (given[i].length : Int) = (R : Int)
    · rw [if_pos hb, w1, hr, decide_eq_true hb, Bool.true_and]
    · rw [if_neg hb, decide_eq_false hb, Bool.false_and, if_pos rfl]
theorem fits_ref (cx : Cx w R C rows cols) (pub priv : Int) (l : List S106) (given : List (List Int)) (hW : W64 given) (hL : Lens 1000 1000 given) (many : Int) :
    Ev (fun k => steepleref27_Fits.f k (w : Int) rows cols pub priv l given many) (fitsF rows (mostI w) given many) := by
  obtain ⟨K, hK⟩ := fits0 cx pub priv l given hW hL given.length 0 (Nat.sub_zero _) (Nat.zero_le _)
  refine ⟨K, fun k hk => ?_⟩
  have hr := hK k hk
  dsimp only at hr
  rw [List.drop_zero] at hr
  show steepleref27_Fits.f k (w : Int) rows cols pub priv l given many = _
  unfold steepleref27_Fits.f fitsF
  by_cases h : (given.length : Int) = many
  · rw [if_pos h, if_neg (fun h' => h' h)]
    exact hr
  · rw [if_neg h, if_pos h]
theorem fits_prog (cx : Cx w R C rows cols) (pub priv : Int) (l : List S105) (given : List (List Int)) (hL : Lens 1000 1000 given) (many : Int) :
    witness_fits.f (w : Int) rows cols pub priv l given many = some (fitsF rows (mostI w) given many) := by
  unfold witness_fits.f
  rw [if_pos ⟨cx.hr0, cx.hr4, Nat.le_trans hL.1 (by decide)⟩, most_val w cx.hw]
  rfl
/-- Columns that fit are good ones. -/
theorem fits_good (cx : Cx w R C rows cols) (given : List (List Int)) (hW : W64 given) (many : Int) (h : fitsF rows (mostI w) given many = 0) : (given.length : Int) = many ∧ Good w R given := by
  unfold fitsF at h
  by_cases h1 : (given.length : Int) ≠ many
  · rw [if_pos h1] at h; exact absurd h (by decide)
  rw [if_neg h1] at h
  by_cases h2 : given.all (colLen rows) = false
  · rw [if_pos h2] at h; exact absurd h (by decide)
  rw [if_neg h2] at h
  by_cases h3 : given.any (colBig (mostI w)) = true
  · rw [if_pos h3] at h; exact absurd h (by decide)
  refine ⟨Decidable.of_not_not h1, fun c hc => ⟨?_, fun x hx => ⟨(hW c hc x hx).1, ?_⟩⟩⟩
  · have := List.all_eq_true.mp (Bool.not_eq_false _ ▸ h2 : given.all (colLen rows) = true) c hc
    have h5 := of_decide_eq_true this
    have h6 := cx.hR
    unfold p2 at h6
    rw [h6] at h5
    exact Int.ofNat.inj h5
  · have h4 : given.any (colBig (mostI w)) = false := Bool.eq_false_iff.mpr h3
    have h5 := List.any_eq_false.mp h4 c hc
    have h6 := List.any_eq_false.mp (Bool.eq_false_iff.mpr h5) x hx
    have h7 : ¬ mostI w < x := fun h => h6 (decide_eq_true h)
    have e : mostI w = ((2 ^ 2 ^ w : Nat) : Int) - 1 := by unfold mostI; push_cast; rfl
    rw [e] at h7
    omega
end
end Go.Proofs.Ythiiodgpdoljoaa.Bit
namespace Go.Proofs.Ythiiodgpdoljoaa.PLw
open Go.RowKit Go.Proofs.YthiiodgpdoljoaaW.PrintWords Go.Proofs.YthiiodgpdoljoaaW.PrintLast Go.Proofs.YthiiodgpdoljoaaW.PrintMore
attribute [local go_sem] max2_int min2_int max_two min_two max_three min_three max_four min_four   -- for this text's walks alone
set_option linter.unusedVariables false
set_option linter.unusedSimpArgs false
/-! ### steeplelaw27_Few: function 25 -/
def steeplelaw27_Few.f (k : Nat) (a0_0 : Int) (a0_1 : Int) (a0_2 : Int) (a0_3 : Int) (a0_4 : Int) (l0_5 : List (S105)) : Option (Bool) := if (l0_5.length : Int) > 12 then (if (l0_5.length : Int) > 30 then (some (decide ((l0_5.length : Int) ≤ 40))) else (some false)) else ((steeplelaw25_Ref.f k a0_0 a0_1 a0_2 a0_3 a0_4 l0_5).bind fun bt129 => ((steepleref25_Check.f k bt129.1 bt129.2.1 bt129.2.2.1 bt129.2.2.2.1 bt129.2.2.2.2.1 bt129.2.2.2.2.2).bind fun t137 => (if t137 = 0 then (if a0_1 ≤ 2 then (some (decide (a0_2 ≤ 5))) else (some false)) else (some true))))
theorem steeplelaw27_Few.mono : ∀ a0 a1 a2 a3 a4 a5 k, LeO (steeplelaw27_Few.f k a0 a1 a2 a3 a4 a5) (steeplelaw27_Few.f (k + 1) a0 a1 a2 a3 a4 a5) := by
 intro a0 a1 a2 a3 a4 a5 k
 unfold steeplelaw27_Few.f
 repeat' first
   | (with_reducible exact steeplelaw25_Ref.mono _ _ _ _ _ _ _)
   | (with_reducible exact steepleref25_Check.mono _ _ _ _ _ _ _)
   | (with_reducible exact LeO.refl _)
   | (with_reducible exact LeO.none _)
   | (with_reducible refine LeO.ite ?_ ?_)
   | (with_reducible refine LeO.bind ?_ (fun _ => ?_))
   | exact steeplelaw25_Ref.mono _ _ _ _ _ _ _
   | exact steepleref25_Check.mono _ _ _ _ _ _ _
   | exact LeO.none _
   | refine LeO.ite ?_ ?_
   | refine LeO.bind ?_ (fun _ => ?_)
set_option maxHeartbeats 8000000 in
set_option maxRecDepth 100000 in
theorem steeplelaw27_Few.calls (k : Nat) (a0_0 : Int) (a0_1 : Int) (a0_2 : Int) (a0_3 : Int) (a0_4 : Int) (A0_5 : Option Addr) (c0_5 : Nat) (l0_5 : List (S105)) (r : Bool) (w : World) (hr0_5 : Kd.C k105 w A0_5 l0_5.length l0_5) (hc0_5 : l0_5.length ≤ c0_5) (h : steeplelaw27_Few.f k a0_0 a0_1 a0_2 a0_3 a0_4 l0_5 = some r) :
  Calls Try.prog 25 #[.agg #[.int .i64 a0_0, .int .i64 a0_1, .int .i64 a0_2, .int .i64 a0_3, .int .i64 a0_4, .slice A0_5 l0_5.length c0_5]] w fun e w' => e = .returned (.bool r) ∧ Below w.heap.size w w' := by
 have hu24 := Try.underlying24; have HR0_5 := Aside0.mk hr0_5; have HC0_5 := Aside0.mk hc0_5; clear hr0_5 hc0_5; have HB := Aside0.mk (Below.refl w.heap.size w)
 have H : (if (l0_5.length : Int) > 12 then (if (l0_5.length : Int) > 30 then (some (decide ((l0_5.length : Int) ≤ 40))) else (some false)) else ((steeplelaw25_Ref.f k a0_0 a0_1 a0_2 a0_3 a0_4 l0_5).bind fun bt129 => ((steepleref25_Check.f k bt129.1 bt129.2.1 bt129.2.2.1 bt129.2.2.2.1 bt129.2.2.2.2.1 bt129.2.2.2.2.2).bind fun t137 => (if t137 = 0 then (if a0_1 ≤ 2 then (some (decide (a0_2 ≤ 5))) else (some false)) else (some true))))) = some r := h
 clear h
 by_cases c2 : (l0_5.length : Int) > 12
 ·rw [if_pos c2] at H
  have c2b0 : decide (12 < (l0_5.length : Int)) = true := decide_eq_true c2
  have c2b1 : decide (12 < l0_5.length) = true := decide_eq_true (by omega)
  clear c2
  by_cases c3 : (l0_5.length : Int) > 30
  ·rw [if_pos c3] at H
   have c3b0 : decide (30 < (l0_5.length : Int)) = true := decide_eq_true c3
   have c3b1 : decide (30 < l0_5.length) = true := decide_eq_true (by omega)
   clear c3; obtain rfl := Option.some.inj H
   go_enter Try.func25, Try.ntmps25
   go_wp2_with (first | ((with_reducible refine gate_dst (N := 1) rfl ?_); (try (refine gate_guard (by rfl) ?_; dsimp only)); refine box_event ?hg (N := 1) ?hd (cs := #[.int .i64 a0_0, .int .i64 a0_1, .int .i64 a0_2, .int .i64 a0_3, .int .i64 a0_4, .slice A0_5 l0_5.length c0_5]) (t := 24) ?hr ?_; (case hd => rfl); (case hg => rfl); (case hr => first | (go_simp; done) | (go_simp; rfl)); intro gb128 hg w4 hbox hb; have n0_ := Aside0.mk (below_step (blA HB.out) hb); have n1_ := Aside0.mk (hbox); have n2_ := Aside0.mk ((by rw [hg]; exact (below_size (blA HB.out)) : w.heap.size ≤ gb128)); have n3_ := Aside0.mk ((by rw [hg]; exact (below_size (blA HB.out)) : w.heap.size ≤ gb128)); clear HB; have HB := n0_; have BK128 := n1_; have GW128 := n2_; have GE128 := n3_; clear n0_ n1_ n2_ n3_; clear hb hbox hg; have hcz5 := fun i => blk_cell BK128.out i; have hfz5 := fun i => blk_frozen BK128.out i; ))
   go_ret
   exact ⟨by first | rfl | (simp [errW_none, errW_some] <;> rfl) | (simp [*, errW_none, errW_some] <;> rfl), blA HB.out⟩
  ·rw [if_neg c3] at H
   have c3b0 : decide (30 < (l0_5.length : Int)) = false := decide_eq_false c3
   have c3b1 : decide (30 < l0_5.length) = false := decide_eq_false (by omega)
   clear c3; obtain rfl := Option.some.inj H
   go_enter Try.func25, Try.ntmps25
   go_wp2_with (first | ((with_reducible refine gate_dst (N := 1) rfl ?_); (try (refine gate_guard (by rfl) ?_; dsimp only)); refine box_event ?hg (N := 1) ?hd (cs := #[.int .i64 a0_0, .int .i64 a0_1, .int .i64 a0_2, .int .i64 a0_3, .int .i64 a0_4, .slice A0_5 l0_5.length c0_5]) (t := 24) ?hr ?_; (case hd => rfl); (case hg => rfl); (case hr => first | (go_simp; done) | (go_simp; rfl)); intro gb128 hg w6 hbox hb; have n0_ := Aside0.mk (below_step (blA HB.out) hb); have n1_ := Aside0.mk (hbox); have n2_ := Aside0.mk ((by rw [hg]; exact (below_size (blA HB.out)) : w.heap.size ≤ gb128)); have n3_ := Aside0.mk ((by rw [hg]; exact (below_size (blA HB.out)) : w.heap.size ≤ gb128)); clear HB; have HB := n0_; have BK128 := n1_; have GW128 := n2_; have GE128 := n3_; clear n0_ n1_ n2_ n3_; clear hb hbox hg; have hcz7 := fun i => blk_cell BK128.out i; have hfz7 := fun i => blk_frozen BK128.out i; ))
   go_ret
   exact ⟨by first | rfl | (simp [errW_none, errW_some] <;> rfl) | (simp [*, errW_none, errW_some] <;> rfl), blA HB.out⟩
 ·rw [if_neg c2] at H
  have c2b0 : decide (12 < (l0_5.length : Int)) = false := decide_eq_false c2
  have c2b1 : decide (12 < l0_5.length) = false := decide_eq_false (by omega)
  clear c2; replace H := Option.bind_eq_some_iff.mp H
  obtain ⟨⟨t129, t130, t131, t132, t133, t134⟩, A80, H⟩ := H
  (try dsimp only at H)
  have A8 := Aside0.mk A80; clear A80; replace H := Option.bind_eq_some_iff.mp H; obtain ⟨t137, A90, H⟩ := H
  (try dsimp only at H)
  have A9 := Aside0.mk A90; clear A90
  by_cases c10 : t137 = 0
  ·rw [if_pos c10] at H
   have c10b0 : (t137 == 0) = true := beq_iff_eq.mpr c10; have c10b1 : (t137 != 0) = false := bne_eq_false_iff_eq.mpr c10; clear c10
   by_cases c11 : a0_1 ≤ 2
   ·rw [if_pos c11] at H
    have c11b0 : decide (a0_1 ≤ 2) = true := decide_eq_true c11; clear c11; obtain rfl := Option.some.inj H
    go_enter Try.func25, Try.ntmps25
    go_wp2_with (first | ((with_reducible refine gate_dst (N := 1) rfl ?_); (try (refine gate_guard (by rfl) ?_; dsimp only)); refine box_event ?hg (N := 1) ?hd (cs := #[.int .i64 a0_0, .int .i64 a0_1, .int .i64 a0_2, .int .i64 a0_3, .int .i64 a0_4, .slice A0_5 l0_5.length c0_5]) (t := 24) ?hr ?_; (case hd => rfl); (case hg => rfl); (case hr => first | (go_simp; done) | (go_simp; rfl)); intro gb128 hg w12 hbox hb; have n0_ := Aside0.mk (below_step (blA HB.out) hb); have n1_ := Aside0.mk (hbox); have n2_ := Aside0.mk ((by rw [hg]; exact (below_size (blA HB.out)) : w.heap.size ≤ gb128)); have n3_ := Aside0.mk ((by rw [hg]; exact (below_size (blA HB.out)) : w.heap.size ≤ gb128)); clear HB; have HB := n0_; have BK128 := n1_; have GW128 := n2_; have GE128 := n3_; clear n0_ n1_ n2_ n3_; clear hb hbox hg; have hcz13 := fun i => blk_cell BK128.out i; have hfz13 := fun i => blk_frozen BK128.out i; ) | ((with_reducible refine gate_callee (f := 13) rfl ?_); refine goesL_ (some 18) rfl rfl Try.func13 (by kernel_rfl) rfl #[.agg #[.int .i64 a0_0, .int .i64 a0_1, .int .i64 a0_2, .int .i64 a0_3, .int .i64 a0_4, .slice A0_5 l0_5.length c0_5]] rfl gsA ?_; (with_reducible refine (steeplelaw25_Ref.calls k a0_0 a0_1 a0_2 a0_3 a0_4 _ _ l0_5 t129 t130 t131 t132 t133 t134 _ ?side1 ?side2 A8.out).mono ?_); (case side1 => repeat (first | exact (Kd.C_below HR0_5.out HB.out) | (with_reducible refine Kd.C_alloc ?_ _) | (with_reducible refine Kd.C_drewN ?_ _) | (with_reducible refine Kd.C_drew ?_))); (case side2 => exact HC0_5.out); rintro e w14 ⟨v135, rfl, ho0, hb⟩; refine ⟨_, rfl, ?_⟩; have n0_ := Aside0.mk (Kd.R_lower ho0 (below_size (blA HB.out))); have n1_ := Aside0.mk (blk_below (bkA BK128.out) hb); have n2_ := Aside0.mk (below_step (blA HB.out) hb); clear BK128; clear HB; have HO136 := n0_; have BK128 := n1_; have HB := n2_; clear n0_ n1_ n2_; (try clear hb); (try clear ho0); obtain ⟨Ao15, co15, eo15⟩ := Kd.R_slice HO136.out; subst eo15) | ((with_reducible refine gate_callee (f := 16) rfl ?_); refine goesL_ (some 19) rfl rfl Try.func16 (by kernel_rfl) rfl #[.agg #[.int .i64 t129, .int .i64 t130, .int .i64 t131, .int .i64 t132, .int .i64 t133, .slice Ao15 t134.length co15]] rfl gsA ?_; (with_reducible refine (steepleref25_Check.calls k t129 t130 t131 t132 t133 _ _ t134 t137 _ ?side1 ?side2 A9.out).mono ?_); (case side1 => repeat (first | exact (Kd.R_reads' HO136.out).2.2 | (with_reducible refine Kd.C_alloc ?_ _) | (with_reducible refine Kd.C_drewN ?_ _) | (with_reducible refine Kd.C_drew ?_))); (case side2 => exact (Kd.R_reads' HO136.out).2.1); rintro e w16 ⟨rfl, hb⟩; refine ⟨_, rfl, ?_⟩; have n0_ := Aside0.mk (Kd.R_below (raA HO136.out) hb); have n1_ := Aside0.mk (blk_below (bkA BK128.out) hb); have n2_ := Aside0.mk (below_step (blA HB.out) hb); clear HO136; clear BK128; clear HB; have HO136 := n0_; have BK128 := n1_; have HB := n2_; clear n0_ n1_ n2_; (try clear hb); have hcz17 := fun i => blk_cell BK128.out i; have hfz17 := fun i => blk_frozen BK128.out i; ))
    go_ret
    exact ⟨by first | rfl | (simp [errW_none, errW_some] <;> rfl) | (simp [*, errW_none, errW_some] <;> rfl), blA HB.out⟩
   ·rw [if_neg c11] at H
    have c11b0 : decide (a0_1 ≤ 2) = false := decide_eq_false c11; clear c11; obtain rfl := Option.some.inj H
    go_enter Try.func25, Try.ntmps25
    go_wp2_with (first | ((with_reducible refine gate_dst (N := 1) rfl ?_); (try (refine gate_guard (by rfl) ?_; dsimp only)); refine box_event ?hg (N := 1) ?hd (cs := #[.int .i64 a0_0, .int .i64 a0_1, .int .i64 a0_2, .int .i64 a0_3, .int .i64 a0_4, .slice A0_5 l0_5.length c0_5]) (t := 24) ?hr ?_; (case hd => rfl); (case hg => rfl); (case hr => first | (go_simp; done) | (go_simp; rfl)); intro gb128 hg w18 hbox hb; have n0_ := Aside0.mk (below_step (blA HB.out) hb); have n1_ := Aside0.mk (hbox); have n2_ := Aside0.mk ((by rw [hg]; exact (below_size (blA HB.out)) : w.heap.size ≤ gb128)); have n3_ := Aside0.mk ((by rw [hg]; exact (below_size (blA HB.out)) : w.heap.size ≤ gb128)); clear HB; have HB := n0_; have BK128 := n1_; have GW128 := n2_; have GE128 := n3_; clear n0_ n1_ n2_ n3_; clear hb hbox hg; have hcz19 := fun i => blk_cell BK128.out i; have hfz19 := fun i => blk_frozen BK128.out i; ) | ((with_reducible refine gate_callee (f := 13) rfl ?_); refine goesL_ (some 18) rfl rfl Try.func13 (by kernel_rfl) rfl #[.agg #[.int .i64 a0_0, .int .i64 a0_1, .int .i64 a0_2, .int .i64 a0_3, .int .i64 a0_4, .slice A0_5 l0_5.length c0_5]] rfl gsA ?_; (with_reducible refine (steeplelaw25_Ref.calls k a0_0 a0_1 a0_2 a0_3 a0_4 _ _ l0_5 t129 t130 t131 t132 t133 t134 _ ?side1 ?side2 A8.out).mono ?_); (case side1 => repeat (first | exact (Kd.C_below HR0_5.out HB.out) | (with_reducible refine Kd.C_alloc ?_ _) | (with_reducible refine Kd.C_drewN ?_ _) | (with_reducible refine Kd.C_drew ?_))); (case side2 => exact HC0_5.out); rintro e w20 ⟨v135, rfl, ho0, hb⟩; refine ⟨_, rfl, ?_⟩; have n0_ := Aside0.mk (Kd.R_lower ho0 (below_size (blA HB.out))); have n1_ := Aside0.mk (blk_below (bkA BK128.out) hb); have n2_ := Aside0.mk (below_step (blA HB.out) hb); clear BK128; clear HB; have HO136 := n0_; have BK128 := n1_; have HB := n2_; clear n0_ n1_ n2_; (try clear hb); (try clear ho0); obtain ⟨Ao21, co21, eo21⟩ := Kd.R_slice HO136.out; subst eo21) | ((with_reducible refine gate_callee (f := 16) rfl ?_); refine goesL_ (some 19) rfl rfl Try.func16 (by kernel_rfl) rfl #[.agg #[.int .i64 t129, .int .i64 t130, .int .i64 t131, .int .i64 t132, .int .i64 t133, .slice Ao21 t134.length co21]] rfl gsA ?_; (with_reducible refine (steepleref25_Check.calls k t129 t130 t131 t132 t133 _ _ t134 t137 _ ?side1 ?side2 A9.out).mono ?_); (case side1 => repeat (first | exact (Kd.R_reads' HO136.out).2.2 | (with_reducible refine Kd.C_alloc ?_ _) | (with_reducible refine Kd.C_drewN ?_ _) | (with_reducible refine Kd.C_drew ?_))); (case side2 => exact (Kd.R_reads' HO136.out).2.1); rintro e w22 ⟨rfl, hb⟩; refine ⟨_, rfl, ?_⟩; have n0_ := Aside0.mk (Kd.R_below (raA HO136.out) hb); have n1_ := Aside0.mk (blk_below (bkA BK128.out) hb); have n2_ := Aside0.mk (below_step (blA HB.out) hb); clear HO136; clear BK128; clear HB; have HO136 := n0_; have BK128 := n1_; have HB := n2_; clear n0_ n1_ n2_; (try clear hb); have hcz23 := fun i => blk_cell BK128.out i; have hfz23 := fun i => blk_frozen BK128.out i; ))
    go_ret
    exact ⟨by first | rfl | (simp [errW_none, errW_some] <;> rfl) | (simp [*, errW_none, errW_some] <;> rfl), blA HB.out⟩
  ·rw [if_neg c10] at H
   have c10b0 : (t137 == 0) = false := beq_eq_false_iff_ne.mpr c10; have c10b1 : (t137 != 0) = true := bne_iff_ne.mpr c10; obtain rfl := Option.some.inj H
   go_enter Try.func25, Try.ntmps25
   go_wp2_with (first | ((with_reducible refine gate_dst (N := 1) rfl ?_); (try (refine gate_guard (by rfl) ?_; dsimp only)); refine box_event ?hg (N := 1) ?hd (cs := #[.int .i64 a0_0, .int .i64 a0_1, .int .i64 a0_2, .int .i64 a0_3, .int .i64 a0_4, .slice A0_5 l0_5.length c0_5]) (t := 24) ?hr ?_; (case hd => rfl); (case hg => rfl); (case hr => first | (go_simp; done) | (go_simp; rfl)); intro gb128 hg w24 hbox hb; have n0_ := Aside0.mk (below_step (blA HB.out) hb); have n1_ := Aside0.mk (hbox); have n2_ := Aside0.mk ((by rw [hg]; exact (below_size (blA HB.out)) : w.heap.size ≤ gb128)); have n3_ := Aside0.mk ((by rw [hg]; exact (below_size (blA HB.out)) : w.heap.size ≤ gb128)); clear HB; have HB := n0_; have BK128 := n1_; have GW128 := n2_; have GE128 := n3_; clear n0_ n1_ n2_ n3_; clear hb hbox hg; have hcz25 := fun i => blk_cell BK128.out i; have hfz25 := fun i => blk_frozen BK128.out i; ) | ((with_reducible refine gate_callee (f := 13) rfl ?_); refine goesL_ (some 18) rfl rfl Try.func13 (by kernel_rfl) rfl #[.agg #[.int .i64 a0_0, .int .i64 a0_1, .int .i64 a0_2, .int .i64 a0_3, .int .i64 a0_4, .slice A0_5 l0_5.length c0_5]] rfl gsA ?_; (with_reducible refine (steeplelaw25_Ref.calls k a0_0 a0_1 a0_2 a0_3 a0_4 _ _ l0_5 t129 t130 t131 t132 t133 t134 _ ?side1 ?side2 A8.out).mono ?_); (case side1 => repeat (first | exact (Kd.C_below HR0_5.out HB.out) | (with_reducible refine Kd.C_alloc ?_ _) | (with_reducible refine Kd.C_drewN ?_ _) | (with_reducible refine Kd.C_drew ?_))); (case side2 => exact HC0_5.out); rintro e w26 ⟨v135, rfl, ho0, hb⟩; refine ⟨_, rfl, ?_⟩; have n0_ := Aside0.mk (Kd.R_lower ho0 (below_size (blA HB.out))); have n1_ := Aside0.mk (blk_below (bkA BK128.out) hb); have n2_ := Aside0.mk (below_step (blA HB.out) hb); clear BK128; clear HB; have HO136 := n0_; have BK128 := n1_; have HB := n2_; clear n0_ n1_ n2_; (try clear hb); (try clear ho0); obtain ⟨Ao27, co27, eo27⟩ := Kd.R_slice HO136.out; subst eo27) | ((with_reducible refine gate_callee (f := 16) rfl ?_); refine goesL_ (some 19) rfl rfl Try.func16 (by kernel_rfl) rfl #[.agg #[.int .i64 t129, .int .i64 t130, .int .i64 t131, .int .i64 t132, .int .i64 t133, .slice Ao27 t134.length co27]] rfl gsA ?_; (with_reducible refine (steepleref25_Check.calls k t129 t130 t131 t132 t133 _ _ t134 t137 _ ?side1 ?side2 A9.out).mono ?_); (case side1 => repeat (first | exact (Kd.R_reads' HO136.out).2.2 | (with_reducible refine Kd.C_alloc ?_ _) | (with_reducible refine Kd.C_drewN ?_ _) | (with_reducible refine Kd.C_drew ?_))); (case side2 => exact (Kd.R_reads' HO136.out).2.1); rintro e w28 ⟨rfl, hb⟩; refine ⟨_, rfl, ?_⟩; have n0_ := Aside0.mk (Kd.R_below (raA HO136.out) hb); have n1_ := Aside0.mk (blk_below (bkA BK128.out) hb); have n2_ := Aside0.mk (below_step (blA HB.out) hb); clear HO136; clear BK128; clear HB; have HO136 := n0_; have BK128 := n1_; have HB := n2_; clear n0_ n1_ n2_; (try clear hb)))
   go_ret
   exact ⟨by first | rfl | (simp [errW_none, errW_some] <;> rfl) | (simp [*, errW_none, errW_some] <;> rfl), blA HB.out⟩
/-! ### steeplelaw27_words: function 26 -/
def steeplelaw27_words.l0 : Nat → List (List Int) → Int → Int → Option (Bool)
 | 0, _, _, _ => none
 | k + 1, x0, x2, x7 => if x7 < (x0.length : Int) then (if 0 ≤ x7 then (if ((rd_L4 x0 x7).length : Int) > x2 then (some false) else (steeplelaw27_words.l0 k x0 x2 (wrap64 (x7 + 1)))) else (none)) else (some true)
def steeplelaw27_words.f (k : Nat) (l0 : List (List Int)) (a1 : Int) (a2 : Int) : Option (Bool) := if (l0.length : Int) > a1 then (some false) else (steeplelaw27_words.l0 k l0 a2 0)
theorem steeplelaw27_words.mono_l : ∀ k, (∀ y0 y1 y2, LeO (steeplelaw27_words.l0 k y0 y1 y2) (steeplelaw27_words.l0 (k + 1) y0 y1 y2))
 | 0 => fun _ _ _ r h => by simp [steeplelaw27_words.l0] at h
 | k + 1 => by
  have ih0 := steeplelaw27_words.mono_l k
  ·intro y0 y1 y2
   unfold steeplelaw27_words.l0
   repeat' first
   | (with_reducible exact ih0 _ _ _)
   | (with_reducible exact LeO.refl _)
   | (with_reducible exact LeO.none _)
   | (with_reducible refine LeO.ite ?_ ?_)
   | (with_reducible refine LeO.bind ?_ (fun _ => ?_))
   | exact ih0 _ _ _
   | exact LeO.none _
   | refine LeO.ite ?_ ?_
   | refine LeO.bind ?_ (fun _ => ?_)
theorem steeplelaw27_words.mono : ∀ a0 a1 a2 k, LeO (steeplelaw27_words.f k a0 a1 a2) (steeplelaw27_words.f (k + 1) a0 a1 a2) := by
 intro a0 a1 a2 k
 have ih0 := steeplelaw27_words.mono_l k
 unfold steeplelaw27_words.f
 repeat' first
   | (with_reducible exact ih0 _ _ _)
   | (with_reducible exact LeO.refl _)
   | (with_reducible exact LeO.none _)
   | (with_reducible refine LeO.ite ?_ ?_)
   | (with_reducible refine LeO.bind ?_ (fun _ => ?_))
   | exact ih0 _ _ _
   | exact LeO.none _
   | refine LeO.ite ?_ ?_
   | refine LeO.bind ?_ (fun _ => ?_)
set_option maxHeartbeats 8000000 in
set_option maxRecDepth 100000 in
theorem steeplelaw27_words.calls (k : Nat) (A0 : Option Addr) (c0 : Nat) (l0 : List (List Int)) (a1 : Int) (a2 : Int) (r : Bool) (w : World) (hr0 : Kd.C (Kd.slice 43 (Kd.int .u64)) w A0 l0.length l0) (hc0 : l0.length ≤ c0) (h : steeplelaw27_words.f k l0 a1 a2 = some r) :
  Calls Try.prog 26 #[.slice A0 l0.length c0, .int .i64 a1, .int .i64 a2] w fun e w' => e = .returned (.bool r) ∧ Drawn0 w w' := by
 have HR0 := Aside0.mk hr0; have HC0 := Aside0.mk hc0; clear hr0 hc0
 have H : (if (l0.length : Int) > a1 then (some false) else (steeplelaw27_words.l0 k l0 a2 0)) = some r := h
 clear h
 by_cases c4 : (l0.length : Int) > a1
 ·rw [if_pos c4] at H
  have c4b0 : decide (a1 < (l0.length : Int)) = true := decide_eq_true c4; clear c4; obtain rfl := Option.some.inj H
  go_enter Try.func26, Try.ntmps26
  go_wp2
  go_ret
  exact ⟨eqA, dwA⟩
 ·rw [if_neg c4] at H
  have c4b0 : decide (a1 < (l0.length : Int)) = false := decide_eq_false c4; clear c4; have H' := Aside0.mk H; clear H
  go_enter Try.func26, Try.ntmps26
  go_wp2
  go_loopg [7] k (fun kq v7 w' => ∃ (x7_1 : Int), v7 = .int .i64 x7_1 ∧ Aside0 (steeplelaw27_words.l0 kq l0 a2 x7_1 = some r) ∧ Aside0 (kq ≤ k) ∧ Drawn0 w w')
  case atStart => exact ⟨(0), eqA, H', ⟨Nat.le_refl _⟩, dwA⟩
  case round =>
   clear H'; (try clear c2); (try clear p2); (try clear c4); (try clear c4b0)
   obtain ⟨x7_1, rfl, HA, HK1, ⟨m1, rfl⟩⟩ := hrel
   cases gk with
   | zero => exact absurd HA.out (by simp [steeplelaw27_words.l0])
   | succ k1 =>
    have H := HA.out; clear HA
    simp only [steeplelaw27_words.l0] at H
    by_cases c5 : x7_1 < (l0.length : Int)
    ·rw [if_pos c5] at H
     have c5b0 : decide (x7_1 < (l0.length : Int)) = true := decide_eq_true c5; clear c5
     by_cases c6 : 0 ≤ x7_1
     ·rw [if_pos c6] at H
      have c6b0 : decide (0 ≤ x7_1) = true := decide_eq_true c6; clear c6
      by_cases c7 : ((rd_L4 l0 x7_1).length : Int) > a2
      ·rw [if_pos c7] at H
       have c7b0 : decide (a2 < ((rd_L4 l0 x7_1).length : Int)) = true := decide_eq_true c7; clear c7; obtain rfl := Option.some.inj H
       have p138 : 0 ≤ (x7_1 : Int) := of_decide_eq_true (by first | (with_reducible assumption) | assumption)
       have q138 : x7_1 < (l0.length : Int) := of_decide_eq_true (by first | (with_reducible assumption) | assumption)
       obtain ⟨ad138, A138_0, c138_0, e138, hx138_0, hl138_0, hi138_0⟩ := at_L4 HR0.out x7_1 p138 q138
       cases e138
       have HR138_0 := Aside0.mk hi138_0; have HC138_0 := Aside0.mk hl138_0; clear hi138_0 hl138_0; replace p138 := eq_true p138; replace q138 := eq_true q138
       go_wp2
       go_ret
       exact ⟨eqA, dwA⟩
      ·rw [if_neg c7] at H
       have c7b0 : decide (a2 < ((rd_L4 l0 x7_1).length : Int)) = false := decide_eq_false c7; clear c7; have H' := Aside0.mk H; clear H
       have p138 : 0 ≤ (x7_1 : Int) := of_decide_eq_true (by first | (with_reducible assumption) | assumption)
       have q138 : x7_1 < (l0.length : Int) := of_decide_eq_true (by first | (with_reducible assumption) | assumption)
       obtain ⟨ad138, A138_0, c138_0, e138, hx138_0, hl138_0, hi138_0⟩ := at_L4 HR0.out x7_1 p138 q138
       cases e138
       have HR138_0 := Aside0.mk hi138_0; have HC138_0 := Aside0.mk hl138_0; clear hi138_0 hl138_0; replace p138 := eq_true p138; replace q138 := eq_true q138
       go_wp2
       go_roundg k1
       case measure => have := HK1.out; omega
       case rel => exact ⟨(wrap64 (x7_1 + 1)), eqA, H', ⟨by have := HK1.out; omega⟩, dwA⟩
     ·rw [if_neg c6] at H
      exact absurd H (by simp)
    ·rw [if_neg c5] at H
     have c5b0 : decide (x7_1 < (l0.length : Int)) = false := decide_eq_false c5; clear c5; obtain rfl := Option.some.inj H
     go_wp2
     go_ret
     exact ⟨eqA, dwA⟩
end Go.Proofs.Ythiiodgpdoljoaa.PLw
