import Derived.Test.YthiiodgpdoljoaaKo2
import Derived.Test.YthiiodgpdoljoaaKo1
import Derived.Test.YthiiodgpdoljoaaKo5
-- Words and walks that the kit's print has laid for this seat, cut down, and our own texts, merged.
namespace Go.Proofs.Ythiiodgpdoljoaa.PLw
open Go.RowKit Go.Proofs.YthiiodgpdoljoaaW.PrintWords Go.Proofs.YthiiodgpdoljoaaW.PrintLast Go.Proofs.YthiiodgpdoljoaaW.PrintMore
attribute [local go_sem] max2_int min2_int max_two min_two max_three min_three max_four min_four   -- for this text's walks alone
set_option linter.unusedVariables false
set_option linter.unusedSimpArgs false
/-! ### steeplelaw25_Ref: function 13 -/
def steeplelaw25_Ref.l0 : Nat → Int → Int → Int → Int → Int → Int → List (S105) → Int → Int → Int → Int → Int → List (S106) → Option (Int × Int × Int × Int × Int × (List (S106)))
 | 0, _, _, _, _, _, _, _, _, _, _, _, _, _ => none
 | k + 1, x4, x102000, x102001, x102002, x102003, x102004, x102005, x104000, x104001, x104002, x104003, x104004, x104005 => if x4 < (x102005.length : Int) then (if 0 ≤ x4 then (if x104005.length < 3518437208883 then (steeplelaw25_Ref.l0 k (wrap64 (x4 + 1)) x102000 x102001 x102002 x102003 x102004 x102005 x104000 x104001 x104002 x104003 x104004 (x104005 ++ [(⟨(rd_T105 x102005 x4).f0, (rd_T105 x102005 x4).f1, (rd_T105 x102005 x4).f2, (rd_T105 x102005 x4).f3, (rd_T105 x102005 x4).f4⟩ : S106)])) else (none)) else (none)) else (some (x104000, x104001, x104002, x104003, x104004, x104005))
def steeplelaw25_Ref.f (k : Nat) (a0_0 : Int) (a0_1 : Int) (a0_2 : Int) (a0_3 : Int) (a0_4 : Int) (l0_5 : List (S105)) : Option (Int × Int × Int × Int × Int × (List (S106))) := steeplelaw25_Ref.l0 k 0 a0_0 a0_1 a0_2 a0_3 a0_4 l0_5 a0_0 a0_1 a0_2 a0_3 a0_4 ([] : List (S106))
theorem steeplelaw25_Ref.mono_l : ∀ k, (∀ y0 y1 y2 y3 y4 y5 y6 y7 y8 y9 y10 y11 y12, LeO (steeplelaw25_Ref.l0 k y0 y1 y2 y3 y4 y5 y6 y7 y8 y9 y10 y11 y12) (steeplelaw25_Ref.l0 (k + 1) y0 y1 y2 y3 y4 y5 y6 y7 y8 y9 y10 y11 y12))
 | 0 => fun _ _ _ _ _ _ _ _ _ _ _ _ _ r h => by simp [steeplelaw25_Ref.l0] at h
 | k + 1 => by
  have ih0 := steeplelaw25_Ref.mono_l k
  ·intro y0 y1 y2 y3 y4 y5 y6 y7 y8 y9 y10 y11 y12
   unfold steeplelaw25_Ref.l0
   repeat' first
   | (with_reducible exact ih0 _ _ _ _ _ _ _ _ _ _ _ _ _)
   | (with_reducible exact LeO.refl _)
   | (with_reducible exact LeO.none _)
   | (with_reducible refine LeO.ite ?_ ?_)
   | (with_reducible refine LeO.bind ?_ (fun _ => ?_))
   | exact ih0 _ _ _ _ _ _ _ _ _ _ _ _ _
   | exact LeO.none _
   | refine LeO.ite ?_ ?_
   | refine LeO.bind ?_ (fun _ => ?_)
theorem steeplelaw25_Ref.mono : ∀ a0 a1 a2 a3 a4 a5 k, LeO (steeplelaw25_Ref.f k a0 a1 a2 a3 a4 a5) (steeplelaw25_Ref.f (k + 1) a0 a1 a2 a3 a4 a5) := by
 intro a0 a1 a2 a3 a4 a5 k
 have ih0 := steeplelaw25_Ref.mono_l k
 unfold steeplelaw25_Ref.f
 repeat' first
   | (with_reducible exact ih0 _ _ _ _ _ _ _ _ _ _ _ _ _)
   | (with_reducible exact LeO.refl _)
   | (with_reducible exact LeO.none _)
   | (with_reducible refine LeO.ite ?_ ?_)
   | (with_reducible refine LeO.bind ?_ (fun _ => ?_))
   | exact ih0 _ _ _ _ _ _ _ _ _ _ _ _ _
   | exact LeO.none _
   | refine LeO.ite ?_ ?_
   | refine LeO.bind ?_ (fun _ => ?_)
def steeplelaw25_Ref.T5 : Bool × List (List Nat × List Nat) := (true, [([], []), ([0], [0]), ([], []), ([2], [2]), ([], []), ([3, 4], [3, 4]), ([5], [5]), ([6], [6]), ([1, 7], [1, 7]), ([0, 1, 2, 3, 4, 5, 6, 7, 8], []), ([9, 8, 8, 0, 1, 2, 3, 4, 5, 6, 7, 8], [8, 9])])
def steeplelaw25_Ref.B5 : List Nat := [0, 1, 0, 4, 0, 28, 60, 124, 255, 511, 1023]
theorem steeplelaw25_Ref.tab5 : rtab .any (opsOf Try.f13 5) = steeplelaw25_Ref.T5 := by kernel_rfl
theorem steeplelaw25_Ref.bits5 : waitsOk steeplelaw25_Ref.T5.2 steeplelaw25_Ref.B5 = true := by kernel_rfl
set_option maxHeartbeats 8000000 in
set_option maxRecDepth 100000 in
theorem steeplelaw25_Ref.calls (k : Nat) (a0_0 : Int) (a0_1 : Int) (a0_2 : Int) (a0_3 : Int) (a0_4 : Int) (A0_5 : Option Addr) (c0_5 : Nat) (l0_5 : List (S105)) (r1 : Int) (r2 : Int) (r3 : Int) (r4 : Int) (r5 : Int) (r6 : List (S106)) (w : World) (hr0_5 : Kd.C k105 w A0_5 l0_5.length l0_5) (hc0_5 : l0_5.length ≤ c0_5) (h : steeplelaw25_Ref.f k a0_0 a0_1 a0_2 a0_3 a0_4 l0_5 = some (r1, r2, r3, r4, r5, r6)) :
  Calls Try.prog 13 #[.agg #[.int .i64 a0_0, .int .i64 a0_1, .int .i64 a0_2, .int .i64 a0_3, .int .i64 a0_4, .slice A0_5 l0_5.length c0_5]] w fun e w' => ∃ v5_ : Value, e = .returned (.agg #[.int .i64 r1, .int .i64 r2, .int .i64 r3, .int .i64 r4, .int .i64 r5, v5_]) ∧ Kd.R k106 106 w' w.heap.size (fun _ => True) v5_ r6 ∧ Below w.heap.size w w' := by
 have hu24 := Try.underlying24; have hu28 := Try.underlying28; have hu105 := Try.underlying105; have HR0_5 := Aside0.mk hr0_5; have HC0_5 := Aside0.mk hc0_5; clear hr0_5 hc0_5; have HB := Aside0.mk (Below.refl w.heap.size w); have H : (steeplelaw25_Ref.l0 k 0 a0_0 a0_1 a0_2 a0_3 a0_4 l0_5 a0_0 a0_1 a0_2 a0_3 a0_4 ([] : List (S106))) = some (r1, r2, r3, r4, r5, r6) := h; clear h; have H' := Aside0.mk H; clear H
 go_enter Try.func13, Try.ntmps13
 go_wp2_with (first | ((with_reducible refine gate_dst (N := 1) rfl ?_); refine box_event ?hg (N := 1) ?hd (cs := #[.int .i64 a0_0, .int .i64 a0_1, .int .i64 a0_2, .int .i64 a0_3, .int .i64 a0_4, .slice A0_5 l0_5.length c0_5]) (t := 24) ?hr ?_; (case hd => rfl); (case hg => rfl); (case hr => first | (go_simp; done) | (go_simp; rfl)); intro gb101 hg w2 hbox hb; have n0_ := Aside0.mk (below_step (blA HB.out) hb); have n1_ := Aside0.mk (hbox); have n2_ := Aside0.mk ((by rw [hg]; exact (below_size (blA HB.out)) : w.heap.size ≤ gb101)); have n3_ := Aside0.mk ((by rw [hg]; exact (below_size (blA HB.out)) : w.heap.size ≤ gb101)); clear HB; have HB := n0_; have BK101 := n1_; have GW101 := n2_; have GE101 := n3_; clear n0_ n1_ n2_ n3_; clear hb hbox hg) | ((with_reducible refine gate_dst (N := 2) rfl ?_); refine box_event ?hg (N := 2) ?hd (cs := #[.int .i64 0, .int .i64 0, .int .i64 0, .int .i64 0, .int .i64 0, .slice none 0 0]) (t := 28) ?hr ?_; (case hd => rfl); (case hg => rfl); (case hr => first | (go_simp; done) | (go_simp; rfl)); intro gb102 hg w3 hbox hb; have n0_ := Aside0.mk (blk_below (bkA BK101.out) hb); have n1_ := Aside0.mk (below_step (blA HB.out) hb); have n2_ := Aside0.mk (hbox); have n3_ := Aside0.mk ((by rw [hg]; exact (below_size (blA HB.out)) : w.heap.size ≤ gb102)); have n4_ := Aside0.mk ((by rw [hg]; exact (below_size (blA HB.out)) : w.heap.size ≤ gb102)); have n5_ := Aside0.mk ((by rw [hg]; exact Nat.ne_of_lt (blk_lt (bkA BK101.out)) : gb101 ≠ gb102)); have n6_ := Aside0.mk ((by rw [hg]; exact Nat.ne_of_gt (blk_lt (bkA BK101.out)) : gb102 ≠ gb101)); clear BK101; clear HB; have BK101 := n0_; have HB := n1_; have BK102 := n2_; have GW102 := n3_; have GE102 := n4_; have NB101_102 := n5_; have NB102_101 := n6_; clear n0_ n1_ n2_ n3_ n4_ n5_ n6_; clear hb hbox hg; have hnb4 := NB101_102.out; have hnc4 := NB102_101.out; have hcz5 := fun i => blk_cell BK101.out i; have hfz5 := fun i => blk_frozen BK101.out i; ) | ((with_reducible refine gate_dst (N := 3) rfl ?_); refine box_event ?hg (N := 3) ?hd (cs := #[.int .i64 0, .int .i64 0, .int .i64 0, .int .i64 0, .int .i64 0, .slice none 0 0]) (t := 28) ?hr ?_; (case hd => rfl); (case hg => rfl); (case hr => first | (go_simp; done) | (go_simp; rfl)); intro gb103 hg w6 hbox hb; have n0_ := Aside0.mk (blk_below (bkA BK101.out) hb); have n1_ := Aside0.mk (blk_below (bkA BK102.out) hb); have n2_ := Aside0.mk (below_step (blA HB.out) hb); have n3_ := Aside0.mk (hbox); have n4_ := Aside0.mk ((by rw [hg]; exact (below_size (blA HB.out)) : w.heap.size ≤ gb103)); have n5_ := Aside0.mk ((by rw [hg]; exact (below_size (blA HB.out)) : w.heap.size ≤ gb103)); have n6_ := Aside0.mk ((by rw [hg]; exact Nat.ne_of_lt (blk_lt (bkA BK101.out)) : gb101 ≠ gb103)); have n7_ := Aside0.mk ((by rw [hg]; exact Nat.ne_of_gt (blk_lt (bkA BK101.out)) : gb103 ≠ gb101)); have n8_ := Aside0.mk ((by rw [hg]; exact Nat.ne_of_lt (blk_lt (bkA BK102.out)) : gb102 ≠ gb103)); have n9_ := Aside0.mk ((by rw [hg]; exact Nat.ne_of_gt (blk_lt (bkA BK102.out)) : gb103 ≠ gb102)); clear BK101; clear BK102; clear HB; have BK101 := n0_; have BK102 := n1_; have HB := n2_; have BK103 := n3_; have GW103 := n4_; have GE103 := n5_; have NB101_103 := n6_; have NB103_101 := n7_; have NB102_103 := n8_; have NB103_102 := n9_; clear n0_ n1_ n2_ n3_ n4_ n5_ n6_ n7_ n8_ n9_; clear hb hbox hg; have hnb7 := NB103_101.out; have hnc7 := NB101_103.out; have hnb8 := NB103_102.out; have hnc8 := NB102_103.out; have hcz9 := fun i => blk_cell BK103.out i; have hfz9 := fun i => blk_frozen BK103.out i; ))
 go_loopg [4] k (fun kq v4 w' => ∃ (x4_1 : Int) (x104005_1 : List (S106)) (u104005 : Value), v4 = .int .i64 x4_1 ∧ Aside0 (steeplelaw25_Ref.l0 kq x4_1 a0_0 a0_1 a0_2 a0_3 a0_4 l0_5 a0_0 a0_1 a0_2 a0_3 a0_4 x104005_1 = some (r1, r2, r3, r4, r5, r6)) ∧ Aside0 (kq ≤ k) ∧ Aside0 (Kd.R k106 106 w' w.heap.size (fun _ => True) u104005 x104005_1) ∧ Aside0 (w'.heap[gb101]? = some (.cells #[.int .i64 a0_0, .int .i64 a0_1, .int .i64 a0_2, .int .i64 a0_3, .int .i64 a0_4, (.slice A0_5 l0_5.length c0_5)] 24 (0, 0))) ∧ Aside0 (w'.heap[gb102]? = some (.cells #[.int .i64 0, .int .i64 0, .int .i64 0, .int .i64 0, .int .i64 0, (.slice none 0 0)] 28 (0, 0))) ∧ Aside0 (w'.heap[gb103]? = some (.cells #[.int .i64 a0_0, .int .i64 a0_1, .int .i64 a0_2, .int .i64 a0_3, .int .i64 a0_4, u104005] 28 (0, 0))) ∧ Aside0 (Below w.heap.size w w'))
 case atStart => exact ⟨(0), (([] : List (S106))), (.slice none 0 0), eqA, H', ⟨Nat.le_refl _⟩, ⟨by first | exact Kd.R_nil _ _ _ _ _ | exact Kd.N_nil _ _ _ _ _ | exact Kd.V_nil _ _ _ _ _ | exact Kd.Q_nil _ _ _ _ _ | exact Kd.S_nil _ _ _ _ _⟩, ⟨by refine bkA ?_; refine blk_far ?_ NB101_103.out _; refine bkA ?_; refine blk_far ?_ NB101_103.out _; refine bkA ?_; refine blk_far ?_ NB101_103.out _; refine bkA ?_; refine blk_far ?_ NB101_103.out _; refine bkA ?_; refine blk_far ?_ NB101_103.out _; refine bkA ?_; refine blk_far ?_ NB101_103.out _; refine bkA ?_; exact BK101.out⟩, ⟨by refine bkA ?_; refine blk_far ?_ NB102_103.out _; refine bkA ?_; refine blk_far ?_ NB102_103.out _; refine bkA ?_; refine blk_far ?_ NB102_103.out _; refine bkA ?_; refine blk_far ?_ NB102_103.out _; refine bkA ?_; refine blk_far ?_ NB102_103.out _; refine bkA ?_; refine blk_far ?_ NB102_103.out _; refine bkA ?_; exact BK102.out⟩, ⟨by refine bkA ?_; refine blk_put (cs := #[.int .i64 a0_0, .int .i64 a0_1, .int .i64 a0_2, .int .i64 a0_3, .int .i64 a0_4, .slice none 0 0]) ?_ 5 _ rfl; refine bkA ?_; refine blk_put (cs := #[.int .i64 a0_0, .int .i64 a0_1, .int .i64 a0_2, .int .i64 a0_3, .int .i64 0, .slice none 0 0]) ?_ 4 _ rfl; refine bkA ?_; refine blk_put (cs := #[.int .i64 a0_0, .int .i64 a0_1, .int .i64 a0_2, .int .i64 0, .int .i64 0, .slice none 0 0]) ?_ 3 _ rfl; refine bkA ?_; refine blk_put (cs := #[.int .i64 a0_0, .int .i64 a0_1, .int .i64 0, .int .i64 0, .int .i64 0, .slice none 0 0]) ?_ 2 _ rfl; refine bkA ?_; refine blk_put (cs := #[.int .i64 a0_0, .int .i64 0, .int .i64 0, .int .i64 0, .int .i64 0, .slice none 0 0]) ?_ 1 _ rfl; refine bkA ?_; refine blk_put (cs := #[.int .i64 0, .int .i64 0, .int .i64 0, .int .i64 0, .int .i64 0, .slice none 0 0]) ?_ 0 _ rfl; refine bkA ?_; exact BK103.out⟩, ⟨blA HB.out⟩⟩
 case round =>
  clear H'; (try clear c1); (try clear p2); (try clear c4); (try clear c7); (try clear c8); (try clear hcz5); (try clear hcz9); (try clear hfz5); (try clear hfz9); obtain ⟨x4_1, x104005_1, u104005, rfl, HA, HK1, HO_104005, BK101, BK102, BK103, HB⟩ := hrel
  cases gk with
  | zero => exact absurd HA.out (by simp [steeplelaw25_Ref.l0])
  | succ k1 =>
   have H := HA.out; clear HA
   simp only [steeplelaw25_Ref.l0] at H
   by_cases c10 : x4_1 < (l0_5.length : Int)
   ·rw [if_pos c10] at H
    have c10b0 : decide (x4_1 < (l0_5.length : Int)) = true := decide_eq_true c10; clear c10
    by_cases c11 : 0 ≤ x4_1
    ·rw [if_pos c11] at H
     have c11b0 : decide (0 ≤ x4_1) = true := decide_eq_true c11; clear c11
     by_cases c12 : x104005_1.length < 3518437208883
     ·rw [if_pos c12] at H
      have LMc12 := Aside0.mk c12; clear c12
      obtain ⟨y105, hy105⟩ : ∃ y_ : List (S106), y_ = (x104005_1 ++ [(⟨(rd_T105 l0_5 x4_1).f0, (rd_T105 l0_5 x4_1).f1, (rd_T105 l0_5 x4_1).f2, (rd_T105 l0_5 x4_1).f3, (rd_T105 l0_5 x4_1).f4⟩ : S106)]) := ⟨_, rfl⟩
      replace H : (steeplelaw25_Ref.l0 k1 (wrap64 (x4_1 + 1)) a0_0 a0_1 a0_2 a0_3 a0_4 l0_5 a0_0 a0_1 a0_2 a0_3 a0_4 y105) = some (r1, r2, r3, r4, r5, r6) := by first | (rw [hy105]; with_reducible exact H) | (have H2_ := (Option.bind_some _ _).symm.trans H; rw [hy105]; with_reducible exact H2_) | (have H2_ := (Option.bind_some _ _).symm.trans H; with_reducible exact H2_) | with_reducible exact H | (rw [hy105]; exact H) | exact H
      have Ny105 := Aside0.mk hy105; clear hy105; have H' := Aside0.mk H; clear H; have hnb13 := NB101_102.out; have hnc13 := NB102_101.out; have hnb14 := NB101_103.out; have hnc14 := NB103_101.out
      have hcz15 := fun i => blk_cell BK101.out i
      have hfz15 := fun i => blk_frozen BK101.out i
      try go_wp2
      have n0_ := Aside0.mk (Kd.R_drew HO_104005.out); have n1_ := Aside0.mk (blk_drew BK101.out); have n2_ := Aside0.mk (blk_drew BK102.out); have n3_ := Aside0.mk (blk_drew BK103.out); have n4_ := Aside0.mk (below_drew1 HB.out); clear HO_104005; clear BK101; clear BK102; clear BK103; clear HB; have HO_104005 := n0_; have BK101 := n1_; have BK102 := n2_; have BK103 := n3_; have HB := n4_; clear n0_ n1_ n2_ n3_ n4_
      have p104 : 0 ≤ (x4_1 : Int) := of_decide_eq_true (by first | (with_reducible assumption) | assumption)
      have q104 : x4_1 < (l0_5.length : Int) := of_decide_eq_true (by first | (with_reducible assumption) | assumption)
      obtain ⟨ad104, e104, hx104_0, hx104_1, hx104_2, hx104_3, hx104_4⟩ := at_T105 HR0_5.out x4_1 p104 q104; have hw104_4 := hx104_4; have hw104_3 := hx104_3; have hw104_2 := hx104_2; have hw104_1 := hx104_1; have hw104_0 := hx104_0
      cases e104
      replace hx104_0 := (HB.out.cell (World.block_lt_of_cell? w _ hx104_0)).trans hx104_0; replace hx104_1 := (HB.out.cell (World.block_lt_of_cell? w _ hx104_1)).trans hx104_1; replace hx104_2 := (HB.out.cell (World.block_lt_of_cell? w _ hx104_2)).trans hx104_2; replace hx104_3 := (HB.out.cell (World.block_lt_of_cell? w _ hx104_3)).trans hx104_3; replace hx104_4 := (HB.out.cell (World.block_lt_of_cell? w _ hx104_4)).trans hx104_4; replace p104 := eq_true p104; replace q104 := eq_true q104
      refine start_ (n := 11) (S := fun w' => w'.cell? ⟨gb103, 0, none⟩ = some (.int .i64 a0_0) ∧ w'.cell? ⟨gb103, 1, none⟩ = some (.int .i64 a0_1) ∧ w'.cell? ⟨gb103, 2, none⟩ = some (.int .i64 a0_2) ∧ w'.cell? ⟨gb103, 3, none⟩ = some (.int .i64 a0_3) ∧ w'.cell? ⟨gb103, 4, none⟩ = some (.int .i64 a0_4) ∧ w'.cell? ⟨gb103, 5, none⟩ = some (u104005) ∧ w'.cell? ⟨gb101, 0, none⟩ = some (.int .i64 a0_0) ∧ w'.cell? ⟨gb101, 1, none⟩ = some (.int .i64 a0_1) ∧ w'.cell? ⟨gb101, 2, none⟩ = some (.int .i64 a0_2) ∧ w'.cell? ⟨gb101, 3, none⟩ = some (.int .i64 a0_3) ∧ w'.cell? ⟨gb101, 4, none⟩ = some (.int .i64 a0_4) ∧ w'.cell? ⟨gb101, 5, none⟩ = some (.slice (some ad104) l0_5.length c0_5) ∧ w'.cell? (ad104.add ((x4_1).toNat * 5)) = some (.int .i64 ((rd_T105 l0_5 x4_1).f0)) ∧ w'.cell? ⟨(ad104.add ((x4_1).toNat * 5)).block, (ad104.add ((x4_1).toNat * 5)).off + 1, none⟩ = some (.int .i64 ((rd_T105 l0_5 x4_1).f1)) ∧ w'.cell? ⟨(ad104.add ((x4_1).toNat * 5)).block, (ad104.add ((x4_1).toNat * 5)).off + 2, none⟩ = some (.int .i64 ((rd_T105 l0_5 x4_1).f2)) ∧ w'.cell? ⟨(ad104.add ((x4_1).toNat * 5)).block, (ad104.add ((x4_1).toNat * 5)).off + 3, none⟩ = some (.int .i64 ((rd_T105 l0_5 x4_1).f3)) ∧ w'.cell? ⟨(ad104.add ((x4_1).toNat * 5)).block, (ad104.add ((x4_1).toNat * 5)).off + 4, none⟩ = some (.int .i64 ((rd_T105 l0_5 x4_1).f4))) (ds := [10]) #[false, false, false, false, false, false, false, false, false, false, false] (by kernel_rfl) rfl rfl ⟨(blk_cell BK103.out 0).trans rfl, (blk_cell BK103.out 1).trans rfl, (blk_cell BK103.out 2).trans rfl, (blk_cell BK103.out 3).trans rfl, (blk_cell BK103.out 4).trans rfl, (blk_cell BK103.out 5).trans rfl, (blk_cell BK101.out 0).trans rfl, (blk_cell BK101.out 1).trans rfl, (blk_cell BK101.out 2).trans rfl, (blk_cell BK101.out 3).trans rfl, (blk_cell BK101.out 4).trans rfl, (blk_cell BK101.out 5).trans rfl, (clA HB.out hw104_0), (clA HB.out hw104_1), (clA HB.out hw104_2), (clA HB.out hw104_3), (clA HB.out hw104_4)⟩ (fun hHeld => ?_); refine with_tabW steeplelaw25_Ref.tab5 steeplelaw25_Ref.bits5 (fun HT_ HW_ => ?_)
      generalize wr.drew = w16 at HO_104005 BK101 BK102 BK103 HB hx104_0 hx104_1 hx104_2 hx104_3 hx104_4 hHeld ⊢
      refine pureA 0 (some 23) HT_.out ?_
      refine pureA 2 (some 25) HT_.out ?_
      refine pureA 4 (some 27) HT_.out ?_
      refine takeA 1 (some 24) rfl HT_.out HW_.out hHeld (Or.inl ⟨by rfl, by rintro w' ⟨s0, s1, s2, s3, s4, s5, s6, s7, s8, s9, s10, s11, s12, s13, s14, s15, s16⟩; go_simp; with_reducible rfl⟩) ?_
      refine takeA 3 (some 26) rfl HT_.out HW_.out hHeld (Or.inl ⟨by rfl, by rintro w' ⟨s0, s1, s2, s3, s4, s5, s6, s7, s8, s9, s10, s11, s12, s13, s14, s15, s16⟩; go_simp; with_reducible rfl⟩) ?_
      refine pureA 5 (some 28) HT_.out ?_
      refine takeA 6 (some 29) rfl HT_.out HW_.out hHeld (Or.inl ⟨by rfl, by rintro w' ⟨s0, s1, s2, s3, s4, s5, s6, s7, s8, s9, s10, s11, s12, s13, s14, s15, s16⟩; go_simp; with_reducible rfl⟩) ?_
      refine one_ (i := 7) (N := some 30) #[true, true, true, true, true, true, true, true, false, false, false] rfl rfl (one_of HT_.out (by kernel_rfl)) (by decide) (fun K hK => ?_)
      refine value_ (w1 := ?_) (v := ?_) (by rfl) rfl ?_ ?_
      rotate_left 2
      ·go_simp
       constructor
       ·rfl
       ·rfl
      refine hK.out _ _ ⟨(blk_cell (blk_alloc BK103.out _) 0).trans rfl, (blk_cell (blk_alloc BK103.out _) 1).trans rfl, (blk_cell (blk_alloc BK103.out _) 2).trans rfl, (blk_cell (blk_alloc BK103.out _) 3).trans rfl, (blk_cell (blk_alloc BK103.out _) 4).trans rfl, (blk_cell (blk_alloc BK103.out _) 5).trans rfl, (blk_cell (blk_alloc BK101.out _) 0).trans rfl, (blk_cell (blk_alloc BK101.out _) 1).trans rfl, (blk_cell (blk_alloc BK101.out _) 2).trans rfl, (blk_cell (blk_alloc BK101.out _) 3).trans rfl, (blk_cell (blk_alloc BK101.out _) 4).trans rfl, (blk_cell (blk_alloc BK101.out _) 5).trans rfl, (World.cell?_alloc_lt _ _ _ (World.block_lt_of_cell? _ _ ((clA HB.out hw104_0)))).trans ((clA HB.out hw104_0)), (World.cell?_alloc_lt _ _ _ (World.block_lt_of_cell? _ _ ((clA HB.out hw104_1)))).trans ((clA HB.out hw104_1)), (World.cell?_alloc_lt _ _ _ (World.block_lt_of_cell? _ _ ((clA HB.out hw104_2)))).trans ((clA HB.out hw104_2)), (World.cell?_alloc_lt _ _ _ (World.block_lt_of_cell? _ _ ((clA HB.out hw104_3)))).trans ((clA HB.out hw104_3)), (World.cell?_alloc_lt _ _ _ (World.block_lt_of_cell? _ _ ((clA HB.out hw104_4)))).trans ((clA HB.out hw104_4))⟩ (fun hHeld => ?_)
      clear hK K
      refine normA ?_
      refine one_ (i := 8) (N := some 31) #[true, true, true, true, true, true, true, true, true, false, false] rfl rfl (one_of HT_.out (by kernel_rfl)) (by decide) (fun K hK => ?_)
      refine Kd.R_append_step k106 (w0 := w) w.heap.size (by rfl) (.tmp 24) (.tmp 30) 26 106 (.agg #[(.int .i64 0), (.int .i64 0), (.int .i64 0), (.int .i64 0), (.int .i64 0)]) 40 rfl Try.underlying26 info106 rfl (by decide) (by omega) u104005 x104005_1 (⟨(rd_T105 l0_5 x4_1).f0, (rd_T105 l0_5 x4_1).f1, (rd_T105 l0_5 x4_1).f2, (rd_T105 l0_5 x4_1).f3, (rd_T105 l0_5 x4_1).f4⟩ : S106) [.int .i64 ((rd_T105 l0_5 x4_1).f0), .int .i64 ((rd_T105 l0_5 x4_1).f1), .int .i64 ((rd_T105 l0_5 x4_1).f2), .int .i64 ((rd_T105 l0_5 x4_1).f3), .int .i64 ((rd_T105 l0_5 x4_1).f4)] (fun _ => True) (fun _ => False) rfl rfl ?aP (fun _ hk => hk.elim) ?aF ?aO ?aB ?aS ?aL ?_
      (case aP => exact k106_mkM _ _ _ (⟨(rd_T105 l0_5 x4_1).f0, (rd_T105 l0_5 x4_1).f1, (rd_T105 l0_5 x4_1).f2, (rd_T105 l0_5 x4_1).f3, (rd_T105 l0_5 x4_1).f4⟩ : S106))
      (case aB => exact (blA HB.out))
      (case aF => exact (fun _ _ => trivial))
      (case aO => exact (raA HO_104005.out))
      (case aS => exact (below_size (blA HB.out)))
      (case aL => have := LMc12.out; omega)
      intro v106 w17 ho hb hg hat
      rw [← Ny105.out] at ho
      have n0_ := Aside0.mk (blk_grown (bkA BK101.out) hg (Kd.R_ne HO_104005.out BK101.out (by decide)))
      have n1_ := Aside0.mk (blk_grown (bkA BK102.out) hg (Kd.R_ne HO_104005.out BK102.out (by decide)))
      have n2_ := Aside0.mk (blk_grown (bkA BK103.out) hg (Kd.R_ne HO_104005.out BK103.out (by decide)))
      have n3_ := Aside0.mk (hb); have n4_ := Aside0.mk (ho); clear BK101; clear BK102; clear BK103; clear HB; clear HO_104005; have BK101 := n0_; have BK102 := n1_; have BK103 := n2_; have HB := n3_; have HO107 := n4_; clear n0_ n1_ n2_ n3_ n4_; clear ho hb hg hat; obtain ⟨Ao18, co18, eo18⟩ := Kd.R_slice HO107.out
      (first | subst eo18 | (injection eo18 with f1_ f2_ f3_; have f4_ := f1_.symm; have f5_ := f3_.symm; clear f1_ f2_ f3_; subst f4_; subst f5_))
      refine hK.out _ _ ⟨(blk_cell BK103.out 0).trans rfl, (blk_cell BK103.out 1).trans rfl, (blk_cell BK103.out 2).trans rfl, (blk_cell BK103.out 3).trans rfl, (blk_cell BK103.out 4).trans rfl, (blk_cell BK103.out 5).trans rfl, (blk_cell BK101.out 0).trans rfl, (blk_cell BK101.out 1).trans rfl, (blk_cell BK101.out 2).trans rfl, (blk_cell BK101.out 3).trans rfl, (blk_cell BK101.out 4).trans rfl, (blk_cell BK101.out 5).trans rfl, (clA HB.out hw104_0), (clA HB.out hw104_1), (clA HB.out hw104_2), (clA HB.out hw104_3), (clA HB.out hw104_4)⟩ (fun hHeld => ?_)
      clear hK K
      refine normA ?_
      refine pureA 9 (some 32) HT_.out ?_
      refine last_ (i := 10) (N := none) #[true, true, true, true, true, true, true, true, true, true, true] rfl rfl (one_of HT_.out (by kernel_rfl)) (by decide) (fun K hK => ?_)
      have hs19 : w17.cell? ⟨gb103, 5, none⟩ = some (u104005) := (blk_cell BK103.out 5).trans rfl; have hfs19 := blk_frozen BK103.out 5; have hns19_0 := NB101_103.out; have hns19_1 := NB102_103.out; have hms19_0 := NB103_101.out; have hms19_1 := NB103_102.out
      refine skip_ (w1 := ?_) (by rfl) rfl ?_ ?_
      rotate_left
      ·go_simp
       rfl
      refine hK.out _ _ ?_
      clear hK K
      refine done_ (done_of HT_.out (by kernel_rfl)) ?_
      try go_wp2
      go_roundg k1
      case measure => have := HK1.out; omega
      case rel => exact ⟨(wrap64 (x4_1 + 1)), (y105), (.slice Ao18 y105.length co18), eqA, H', ⟨by have := HK1.out; omega⟩, ⟨by (with_reducible repeat (first | apply Kd.R_alloc | apply Kd.R_drewN | apply Kd.R_drew)); exact Kd.R_mono (Kd.R_far (p := ⟨gb103, 5, none⟩) (Kd.R_types HO107.out BK103.out (by decide)) (fun _ hk => hk.2) (.slice Ao18 y105.length co18)) (fun _ hk => trivial)⟩, ⟨by refine bkA ?_; refine blk_far ?_ NB101_103.out _; refine bkA ?_; exact BK101.out⟩, ⟨by refine bkA ?_; refine blk_far ?_ NB102_103.out _; refine bkA ?_; exact BK102.out⟩, ⟨by refine bkA ?_; refine blk_put (cs := #[.int .i64 a0_0, .int .i64 a0_1, .int .i64 a0_2, .int .i64 a0_3, .int .i64 a0_4, u104005]) ?_ 5 _ rfl; refine bkA ?_; exact BK103.out⟩, ⟨blA HB.out⟩⟩
     ·rw [if_neg c12] at H
      exact absurd H (by simp)
    ·rw [if_neg c11] at H
     exact absurd H (by simp)
   ·rw [if_neg c10] at H
    have c10b0 : decide (x4_1 < (l0_5.length : Int)) = false := decide_eq_false c10; clear c10
    simp only [Option.some.injEq, Prod.mk.injEq] at H
    obtain ⟨rfl, rfl, rfl, rfl, rfl, rfl⟩ := H; have hnb20 := NB101_102.out; have hnc20 := NB102_101.out; have hnb21 := NB101_103.out; have hnc21 := NB103_101.out
    have hcz22 := fun i => blk_cell BK101.out i
    have hfz22 := fun i => blk_frozen BK101.out i
    have hnb23 := NB103_102.out; have hnc23 := NB102_103.out
    have hcz24 := fun i => blk_cell BK103.out i
    have hfz24 := fun i => blk_frozen BK103.out i
    have hcz25 := fun i => blk_cell BK102.out i
    have hfz25 := fun i => blk_frozen BK102.out i
    obtain ⟨Ao26, co26, eo26⟩ := Kd.R_slice HO_104005.out; subst eo26
    go_wp2
    refine bodyPost_ret (results_cell_row rfl _ _ gb102 28 #[.int .i64 a0_0, .int .i64 a0_1, .int .i64 a0_2, .int .i64 a0_3, .int .i64 a0_4, .slice Ao26 x104005_1.length co26] (0, 0) _ rfl (by refine bkA ?_; refine blk_put (cs := #[.int .i64 a0_0, .int .i64 a0_1, .int .i64 a0_2, .int .i64 a0_3, .int .i64 a0_4, .slice none 0 0]) ?_ 5 _ rfl; refine bkA ?_; refine blk_put (cs := #[.int .i64 a0_0, .int .i64 a0_1, .int .i64 a0_2, .int .i64 a0_3, .int .i64 0, .slice none 0 0]) ?_ 4 _ rfl; refine bkA ?_; refine blk_put (cs := #[.int .i64 a0_0, .int .i64 a0_1, .int .i64 a0_2, .int .i64 0, .int .i64 0, .slice none 0 0]) ?_ 3 _ rfl; refine bkA ?_; refine blk_put (cs := #[.int .i64 a0_0, .int .i64 a0_1, .int .i64 0, .int .i64 0, .int .i64 0, .slice none 0 0]) ?_ 2 _ rfl; refine bkA ?_; refine blk_put (cs := #[.int .i64 a0_0, .int .i64 0, .int .i64 0, .int .i64 0, .int .i64 0, .slice none 0 0]) ?_ 1 _ rfl; refine bkA ?_; refine blk_put (cs := #[.int .i64 0, .int .i64 0, .int .i64 0, .int .i64 0, .int .i64 0, .slice none 0 0]) ?_ 0 _ rfl; refine bkA ?_; exact BK102.out) Try.underlying28 rfl (by kernel_rfl)) rfl ?_
    exact ⟨_, by first | rfl | (simp [errW_none, errW_some] <;> rfl) | (simp [*, errW_none, errW_some] <;> rfl), by (with_reducible repeat (first | apply Kd.R_alloc | apply Kd.R_drewN | apply Kd.R_drew)); exact Kd.R_mono (Kd.R_far (p := ⟨gb102, 5, none⟩) (Kd.R_far (p := ⟨gb102, 4, none⟩) (Kd.R_far (p := ⟨gb102, 3, none⟩) (Kd.R_far (p := ⟨gb102, 2, none⟩) (Kd.R_far (p := ⟨gb102, 1, none⟩) (Kd.R_far (p := ⟨gb102, 0, none⟩) (Kd.R_types HO_104005.out BK102.out (by decide)) (fun _ hk => hk.2) (.int .i64 a0_0)) (fun _ hk => hk.2) (.int .i64 a0_1)) (fun _ hk => hk.2) (.int .i64 a0_2)) (fun _ hk => hk.2) (.int .i64 a0_3)) (fun _ hk => hk.2) (.int .i64 a0_4)) (fun _ hk => hk.2) (.slice Ao26 x104005_1.length co26)) (fun _ hk => trivial), blA HB.out⟩
end Go.Proofs.Ythiiodgpdoljoaa.PLw
namespace Go.Proofs.Ythiiodgpdoljoaa.PLw
open Go.RowKit Go.Proofs.YthiiodgpdoljoaaW.PrintWords Go.Proofs.YthiiodgpdoljoaaW.PrintLast Go.Proofs.YthiiodgpdoljoaaW.PrintMore
attribute [local go_sem] max2_int min2_int max_two min_two max_three min_three max_four min_four   -- for this text's walks alone
set_option linter.unusedVariables false
set_option linter.unusedSimpArgs false
/-! ### steepleref25_Check: function 16 -/
mutual
def steepleref25_Check.j0 : Nat → Bool → Int → Int → Int → Int → Int → List (S106) → Option (Int)
 | 0, _, _, _, _, _, _, _ => none
 | k + 1, x43, x123000, x123001, x123002, x123003, x123004, x123005 => if x43 = true then (some 1) else (if x123003 > 64 then (steepleref25_Check.j1 k true x123000 x123001 x123002 x123003 x123004 x123005) else (if x123004 > 64 then (steepleref25_Check.j1 k true x123000 x123001 x123002 x123003 x123004 x123005) else ((steepleref15_Two.f k x123002).bind fun t123 => (steepleref25_Check.j1 k (decide ((wrap64 (x123003 + x123004)) > t123)) x123000 x123001 x123002 x123003 x123004 x123005))))
def steepleref25_Check.j1 : Nat → Bool → Int → Int → Int → Int → Int → List (S106) → Option (Int)
 | 0, _, _, _, _, _, _, _ => none
 | k + 1, x62, x123000, x123001, x123002, x123003, x123004, x123005 => if x62 = true then (some 1) else (if (x123005.length : Int) > 30 then (some 2) else (steepleref25_Check.l0 k (wrap64 (x123003 + x123004)) 0 x123000 x123001 x123002 x123003 x123004 x123005))
def steepleref25_Check.l0 : Nat → Int → Int → Int → Int → Int → Int → Int → List (S106) → Option (Int)
 | 0, _, _, _, _, _, _, _, _ => none
 | k + 1, x3, x4, x123000, x123001, x123002, x123003, x123004, x123005 => if x4 < (x123005.length : Int) then (if 0 ≤ x4 then ((steepleref25_System_Gate.f k x123000 x123001 x123002 x123003 x123004 x123005 ((rd_T106 x123005 x4).f0) ((rd_T106 x123005 x4).f1) ((rd_T106 x123005 x4).f2) ((rd_T106 x123005 x4).f3) ((rd_T106 x123005 x4).f4) x3).bind fun t125 => (if t125 = 0 then ((steepleref25_Makes.f ((rd_T106 x123005 x4).f0) ((rd_T106 x123005 x4).f1) ((rd_T106 x123005 x4).f2) ((rd_T106 x123005 x4).f3) ((rd_T106 x123005 x4).f4)).bind fun t127 => (steepleref25_Check.l0 k (wrap64 (x3 + t127)) (wrap64 (x4 + 1)) x123000 x123001 x123002 x123003 x123004 x123005)) else (some t125))) else (none)) else (some 0)
end
def steepleref25_Check.f (k : Nat) (a0_0 : Int) (a0_1 : Int) (a0_2 : Int) (a0_3 : Int) (a0_4 : Int) (l0_5 : List (S106)) : Option (Int) := if a0_0 < 0 then (steepleref25_Check.j0 k true a0_0 a0_1 a0_2 a0_3 a0_4 l0_5) else (if a0_0 > 5 then (steepleref25_Check.j0 k true a0_0 a0_1 a0_2 a0_3 a0_4 l0_5) else (if a0_1 < 0 then (steepleref25_Check.j0 k true a0_0 a0_1 a0_2 a0_3 a0_4 l0_5) else (if a0_1 > 4 then (steepleref25_Check.j0 k true a0_0 a0_1 a0_2 a0_3 a0_4 l0_5) else (if a0_2 < 0 then (steepleref25_Check.j0 k true a0_0 a0_1 a0_2 a0_3 a0_4 l0_5) else (if a0_2 > 6 then (steepleref25_Check.j0 k true a0_0 a0_1 a0_2 a0_3 a0_4 l0_5) else (if a0_3 < 0 then (steepleref25_Check.j0 k true a0_0 a0_1 a0_2 a0_3 a0_4 l0_5) else (steepleref25_Check.j0 k (decide (a0_4 < 0)) a0_0 a0_1 a0_2 a0_3 a0_4 l0_5)))))))
theorem steepleref25_Check.mono_l : ∀ k, (∀ y0 y1 y2 y3 y4 y5 y6, LeO (steepleref25_Check.j0 k y0 y1 y2 y3 y4 y5 y6) (steepleref25_Check.j0 (k + 1) y0 y1 y2 y3 y4 y5 y6)) ∧ (∀ y0 y1 y2 y3 y4 y5 y6, LeO (steepleref25_Check.j1 k y0 y1 y2 y3 y4 y5 y6) (steepleref25_Check.j1 (k + 1) y0 y1 y2 y3 y4 y5 y6)) ∧ (∀ y0 y1 y2 y3 y4 y5 y6 y7, LeO (steepleref25_Check.l0 k y0 y1 y2 y3 y4 y5 y6 y7) (steepleref25_Check.l0 (k + 1) y0 y1 y2 y3 y4 y5 y6 y7))
 | 0 => ⟨fun _ _ _ _ _ _ _ r h => by simp [steepleref25_Check.j0] at h, fun _ _ _ _ _ _ _ r h => by simp [steepleref25_Check.j1] at h, fun _ _ _ _ _ _ _ _ r h => by simp [steepleref25_Check.l0] at h⟩
 | k + 1 => by
  obtain ⟨ih0, ih1, ih2⟩ := steepleref25_Check.mono_l k
  refine ⟨?_, ?_, ?_⟩
  ·intro y0 y1 y2 y3 y4 y5 y6
   unfold steepleref25_Check.j0
   repeat' first
   | (with_reducible exact ih0 _ _ _ _ _ _ _)
   | (with_reducible exact ih1 _ _ _ _ _ _ _)
   | (with_reducible exact ih2 _ _ _ _ _ _ _ _)
   | (with_reducible exact steepleref15_Two.mono _ _)
   | (with_reducible exact steepleref25_System_Gate.mono _ _ _ _ _ _ _ _ _ _ _ _ _)
   | (with_reducible exact LeO.refl _)
   | (with_reducible exact LeO.none _)
   | (with_reducible refine LeO.ite ?_ ?_)
   | (with_reducible refine LeO.bind ?_ (fun _ => ?_))
   | exact ih0 _ _ _ _ _ _ _
   | exact ih1 _ _ _ _ _ _ _
   | exact ih2 _ _ _ _ _ _ _ _
   | exact steepleref15_Two.mono _ _
   | exact steepleref25_System_Gate.mono _ _ _ _ _ _ _ _ _ _ _ _ _
   | exact LeO.none _
   | refine LeO.ite ?_ ?_
   | refine LeO.bind ?_ (fun _ => ?_)
  ·intro y0 y1 y2 y3 y4 y5 y6
   unfold steepleref25_Check.j1
   repeat' first
   | (with_reducible exact ih0 _ _ _ _ _ _ _)
   | (with_reducible exact ih1 _ _ _ _ _ _ _)
   | (with_reducible exact ih2 _ _ _ _ _ _ _ _)
   | (with_reducible exact steepleref15_Two.mono _ _)
   | (with_reducible exact steepleref25_System_Gate.mono _ _ _ _ _ _ _ _ _ _ _ _ _)
   | (with_reducible exact LeO.refl _)
   | (with_reducible exact LeO.none _)
   | (with_reducible refine LeO.ite ?_ ?_)
   | (with_reducible refine LeO.bind ?_ (fun _ => ?_))
   | exact ih0 _ _ _ _ _ _ _
   | exact ih1 _ _ _ _ _ _ _
   | exact ih2 _ _ _ _ _ _ _ _
   | exact steepleref15_Two.mono _ _
   | exact steepleref25_System_Gate.mono _ _ _ _ _ _ _ _ _ _ _ _ _
   | exact LeO.none _
   | refine LeO.ite ?_ ?_
   | refine LeO.bind ?_ (fun _ => ?_)
  ·intro y0 y1 y2 y3 y4 y5 y6 y7
   unfold steepleref25_Check.l0
   repeat' first
   | (with_reducible exact ih0 _ _ _ _ _ _ _)
   | (with_reducible exact ih1 _ _ _ _ _ _ _)
   | (with_reducible exact ih2 _ _ _ _ _ _ _ _)
   | (with_reducible exact steepleref15_Two.mono _ _)
   | (with_reducible exact steepleref25_System_Gate.mono _ _ _ _ _ _ _ _ _ _ _ _ _)
   | (with_reducible exact LeO.refl _)
   | (with_reducible exact LeO.none _)
   | (with_reducible refine LeO.ite ?_ ?_)
   | (with_reducible refine LeO.bind ?_ (fun _ => ?_))
   | exact ih0 _ _ _ _ _ _ _
   | exact ih1 _ _ _ _ _ _ _
   | exact ih2 _ _ _ _ _ _ _ _
   | exact steepleref15_Two.mono _ _
   | exact steepleref25_System_Gate.mono _ _ _ _ _ _ _ _ _ _ _ _ _
   | exact LeO.none _
   | refine LeO.ite ?_ ?_
   | refine LeO.bind ?_ (fun _ => ?_)
theorem steepleref25_Check.mono : ∀ a0 a1 a2 a3 a4 a5 k, LeO (steepleref25_Check.f k a0 a1 a2 a3 a4 a5) (steepleref25_Check.f (k + 1) a0 a1 a2 a3 a4 a5) := by
 intro a0 a1 a2 a3 a4 a5 k
 obtain ⟨ih0, ih1, ih2⟩ := steepleref25_Check.mono_l k
 unfold steepleref25_Check.f
 repeat' first
   | (with_reducible exact ih0 _ _ _ _ _ _ _)
   | (with_reducible exact ih1 _ _ _ _ _ _ _)
   | (with_reducible exact ih2 _ _ _ _ _ _ _ _)
   | (with_reducible exact steepleref15_Two.mono _ _)
   | (with_reducible exact steepleref25_System_Gate.mono _ _ _ _ _ _ _ _ _ _ _ _ _)
   | (with_reducible exact LeO.refl _)
   | (with_reducible exact LeO.none _)
   | (with_reducible refine LeO.ite ?_ ?_)
   | (with_reducible refine LeO.bind ?_ (fun _ => ?_))
   | exact ih0 _ _ _ _ _ _ _
   | exact ih1 _ _ _ _ _ _ _
   | exact ih2 _ _ _ _ _ _ _ _
   | exact steepleref15_Two.mono _ _
   | exact steepleref25_System_Gate.mono _ _ _ _ _ _ _ _ _ _ _ _ _
   | exact LeO.none _
   | refine LeO.ite ?_ ?_
   | refine LeO.bind ?_ (fun _ => ?_)
def steepleref25_Check.T3 : Bool × List (List Nat × List Nat) := (true, [([], []), ([0], [0]), ([1], [1]), ([2], [2]), ([3], [3]), ([4, 3], [3, 4]), ([5, 3], [3, 5]), ([3, 6], [3, 6]), ([7, 3], [7]), ([8], [8]), ([9, 8], [8, 9]), ([8], [8]), ([11, 8], [8, 11]), ([10, 12, 8], [8, 10, 12]), ([8], [8]), ([14, 8], [8, 14]), ([15, 8, 8], [8, 15]), ([13, 16, 8], [8, 13, 16]), ([8, 17], [8, 17])])
def steepleref25_Check.B3 : List Nat := [0, 1, 3, 7, 15, 31, 63, 127, 255, 511, 1023, 511, 2559, 8191, 511, 16895, 49663, 131071, 262143]
theorem steepleref25_Check.tab3 : rtab .any (opsOf Try.f16 3) = steepleref25_Check.T3 := by kernel_rfl
theorem steepleref25_Check.bits3 : waitsOk steepleref25_Check.T3.2 steepleref25_Check.B3 = true := by kernel_rfl
def steepleref25_Check.T11 : Bool × List (List Nat × List Nat) := (true, [([], []), ([], []), ([1], [1]), ([], []), ([2, 3], [2, 3]), ([4], [4]), ([], []), ([0, 5, 6], [0, 5, 6]), ([7, 7, 0, 1, 2, 3, 4, 5, 6, 7], [7])])
def steepleref25_Check.B11 : List Nat := [0, 0, 2, 0, 14, 30, 0, 127, 255]
theorem steepleref25_Check.tab11 : rtab .any (opsOf Try.f16 11) = steepleref25_Check.T11 := by kernel_rfl
theorem steepleref25_Check.bits11 : waitsOk steepleref25_Check.T11.2 steepleref25_Check.B11 = true := by kernel_rfl
set_option maxHeartbeats 8000000 in
set_option maxRecDepth 100000 in
theorem steepleref25_Check.calls (k : Nat) (a0_0 : Int) (a0_1 : Int) (a0_2 : Int) (a0_3 : Int) (a0_4 : Int) (A0_5 : Option Addr) (c0_5 : Nat) (l0_5 : List (S106)) (r : Int) (w : World) (hr0_5 : Kd.C k106 w A0_5 l0_5.length l0_5) (hc0_5 : l0_5.length ≤ c0_5) (h : steepleref25_Check.f k a0_0 a0_1 a0_2 a0_3 a0_4 l0_5 = some r) :
  Calls Try.prog 16 #[.agg #[.int .i64 a0_0, .int .i64 a0_1, .int .i64 a0_2, .int .i64 a0_3, .int .i64 a0_4, .slice A0_5 l0_5.length c0_5]] w fun e w' => e = .returned (.int .i64 r) ∧ Below w.heap.size w w' := by
 have hu28 := Try.underlying28; have hu106 := Try.underlying106; have HR0_5 := Aside0.mk hr0_5; have HC0_5 := Aside0.mk hc0_5; clear hr0_5 hc0_5; have HB := Aside0.mk (Below.refl w.heap.size w)
 have H : (if a0_0 < 0 then (steepleref25_Check.j0 k true a0_0 a0_1 a0_2 a0_3 a0_4 l0_5) else (if a0_0 > 5 then (steepleref25_Check.j0 k true a0_0 a0_1 a0_2 a0_3 a0_4 l0_5) else (if a0_1 < 0 then (steepleref25_Check.j0 k true a0_0 a0_1 a0_2 a0_3 a0_4 l0_5) else (if a0_1 > 4 then (steepleref25_Check.j0 k true a0_0 a0_1 a0_2 a0_3 a0_4 l0_5) else (if a0_2 < 0 then (steepleref25_Check.j0 k true a0_0 a0_1 a0_2 a0_3 a0_4 l0_5) else (if a0_2 > 6 then (steepleref25_Check.j0 k true a0_0 a0_1 a0_2 a0_3 a0_4 l0_5) else (if a0_3 < 0 then (steepleref25_Check.j0 k true a0_0 a0_1 a0_2 a0_3 a0_4 l0_5) else (steepleref25_Check.j0 k (decide (a0_4 < 0)) a0_0 a0_1 a0_2 a0_3 a0_4 l0_5)))))))) = some r := h
 clear h; have HC2 := Aside0.mk H; clear H
 go_enter Try.func16, Try.ntmps16
 go_upto_region 1 with (first | ((with_reducible refine gate_dst (N := 1) rfl ?_); refine box_event ?hg (N := 1) ?hd (cs := #[.int .i64 a0_0, .int .i64 a0_1, .int .i64 a0_2, .int .i64 a0_3, .int .i64 a0_4, .slice A0_5 l0_5.length c0_5]) (t := 28) ?hr ?_; (case hd => rfl); (case hg => rfl); (case hr => first | (go_simp; done) | (go_simp; rfl)); intro gb122 hg w3 hbox hb; have n0_ := Aside0.mk (below_step (blA HB.out) hb); have n1_ := Aside0.mk (hbox); have n2_ := Aside0.mk ((by rw [hg]; exact (below_size (blA HB.out)) : w.heap.size ≤ gb122)); have n3_ := Aside0.mk ((by rw [hg]; exact (below_size (blA HB.out)) : w.heap.size ≤ gb122)); clear HB; have HB := n0_; have BK122 := n1_; have GW122 := n2_; have GE122 := n3_; clear n0_ n1_ n2_ n3_; clear hb hbox hg))
 (try simp only [Act.put, List.setIfInBounds_toArray, List.set_cons_zero, List.set_cons_succ])
 go_cut [43] (fun v43 wc => ∃ (kq : Nat) (x43_1 : Bool), v43 = .bool x43_1 ∧ Aside0 (steepleref25_Check.j0 kq x43_1 a0_0 a0_1 a0_2 a0_3 a0_4 l0_5 = some r) ∧ Aside0 (kq ≤ k) ∧ Aside0 (wc.heap[gb122]? = some (.cells #[.int .i64 a0_0, .int .i64 a0_1, .int .i64 a0_2, .int .i64 a0_3, .int .i64 a0_4, (.slice A0_5 l0_5.length c0_5)] 28 (0, 0))) ∧ Aside0 (Below w.heap.size w wc))
 case first =>
  have H := HC2.out; clear HC2
  by_cases c4 : a0_0 < 0
  ·rw [if_pos c4] at H
   have c4b0 : decide (a0_0 < 0) = true := decide_eq_true c4; clear c4
   (first | rw [c4b0] | (simp only [i64_w, i32_w]; rw [c4b0]) | skip)
   have H' := Aside0.mk H; clear H
   have hcz5 := fun i => blk_cell BK122.out i
   have hfz5 := fun i => blk_frozen BK122.out i
   go_wp2
   go_meet
   case rel => exact ⟨_, (true), eqA, H', ⟨omA⟩, ⟨bkA BK122.out⟩, ⟨blA HB.out⟩⟩
  ·rw [if_neg c4] at H
   have c4b0 : decide (a0_0 < 0) = false := decide_eq_false c4; clear c4
   (first | rw [c4b0] | (simp only [i64_w, i32_w]; rw [c4b0]) | skip)
   by_cases c6 : a0_0 > 5
   ·rw [if_pos c6] at H
    have c6b0 : decide (5 < a0_0) = true := decide_eq_true c6; clear c6; have H' := Aside0.mk H; clear H
    have hcz7 := fun i => blk_cell BK122.out i
    have hfz7 := fun i => blk_frozen BK122.out i
    go_wp2
    go_meet
    case rel => exact ⟨_, (true), eqA, H', ⟨omA⟩, ⟨bkA BK122.out⟩, ⟨blA HB.out⟩⟩
   ·rw [if_neg c6] at H
    have c6b0 : decide (5 < a0_0) = false := decide_eq_false c6; clear c6
    by_cases c8 : a0_1 < 0
    ·rw [if_pos c8] at H
     have c8b0 : decide (a0_1 < 0) = true := decide_eq_true c8; clear c8; have H' := Aside0.mk H; clear H
     have hcz9 := fun i => blk_cell BK122.out i
     have hfz9 := fun i => blk_frozen BK122.out i
     go_wp2
     go_meet
     case rel => exact ⟨_, (true), eqA, H', ⟨omA⟩, ⟨bkA BK122.out⟩, ⟨blA HB.out⟩⟩
    ·rw [if_neg c8] at H
     have c8b0 : decide (a0_1 < 0) = false := decide_eq_false c8; clear c8
     by_cases c10 : a0_1 > 4
     ·rw [if_pos c10] at H
      have c10b0 : decide (4 < a0_1) = true := decide_eq_true c10; clear c10; have H' := Aside0.mk H; clear H
      have hcz11 := fun i => blk_cell BK122.out i
      have hfz11 := fun i => blk_frozen BK122.out i
      go_wp2
      go_meet
      case rel => exact ⟨_, (true), eqA, H', ⟨omA⟩, ⟨bkA BK122.out⟩, ⟨blA HB.out⟩⟩
     ·rw [if_neg c10] at H
      have c10b0 : decide (4 < a0_1) = false := decide_eq_false c10; clear c10
      by_cases c12 : a0_2 < 0
      ·rw [if_pos c12] at H
       have c12b0 : decide (a0_2 < 0) = true := decide_eq_true c12; clear c12; have H' := Aside0.mk H; clear H
       have hcz13 := fun i => blk_cell BK122.out i
       have hfz13 := fun i => blk_frozen BK122.out i
       go_wp2
       go_meet
       case rel => exact ⟨_, (true), eqA, H', ⟨omA⟩, ⟨bkA BK122.out⟩, ⟨blA HB.out⟩⟩
      ·rw [if_neg c12] at H
       have c12b0 : decide (a0_2 < 0) = false := decide_eq_false c12; clear c12
       by_cases c14 : a0_2 > 6
       ·rw [if_pos c14] at H
        have c14b0 : decide (6 < a0_2) = true := decide_eq_true c14; clear c14; have H' := Aside0.mk H; clear H
        have hcz15 := fun i => blk_cell BK122.out i
        have hfz15 := fun i => blk_frozen BK122.out i
        go_wp2
        go_meet
        case rel => exact ⟨_, (true), eqA, H', ⟨omA⟩, ⟨bkA BK122.out⟩, ⟨blA HB.out⟩⟩
       ·rw [if_neg c14] at H
        have c14b0 : decide (6 < a0_2) = false := decide_eq_false c14; clear c14
        by_cases c16 : a0_3 < 0
        ·rw [if_pos c16] at H
         have c16b0 : decide (a0_3 < 0) = true := decide_eq_true c16; clear c16; have H' := Aside0.mk H; clear H
         have hcz17 := fun i => blk_cell BK122.out i
         have hfz17 := fun i => blk_frozen BK122.out i
         go_wp2
         go_meet
         case rel => exact ⟨_, (true), eqA, H', ⟨omA⟩, ⟨bkA BK122.out⟩, ⟨blA HB.out⟩⟩
        ·rw [if_neg c16] at H
         have c16b0 : decide (a0_3 < 0) = false := decide_eq_false c16; clear c16; have H' := Aside0.mk H; clear H
         have hcz18 := fun i => blk_cell BK122.out i
         have hfz18 := fun i => blk_frozen BK122.out i
         go_wp2
         go_meet
         case rel => exact ⟨_, (decide (a0_4 < 0)), eqA, H', ⟨omA⟩, ⟨bkA BK122.out⟩, ⟨blA HB.out⟩⟩
 case rest =>
  clear HC2; (try clear c1); (try clear p2); (try clear c4); (try clear c4b0); (try clear c6); (try clear c6b0); (try clear c8); (try clear c8b0); (try clear c10); (try clear c10b0); (try clear c12); (try clear c12b0); (try clear c14); (try clear c14b0); (try clear c16); (try clear c16b0); (try clear hcz11); (try clear hcz13); (try clear hcz15); (try clear hcz17); (try clear hcz18); (try clear hcz5); (try clear hcz7); (try clear hcz9); (try clear hfz11); (try clear hfz13); (try clear hfz15); (try clear hfz17); (try clear hfz18); (try clear hfz5); (try clear hfz7); (try clear hfz9); obtain ⟨kq, x43_1, rfl, HA, HJ1, BK122, HB⟩ := hcut
  cases kq with
  | zero => exact absurd HA.out (by simp [steepleref25_Check.j0])
  | succ kj1 =>
   have H := HA.out; clear HA
   simp only [steepleref25_Check.j0] at H
   by_cases c19 : x43_1 = true
   ·subst c19
    have H1 : (some 1) = some r := by rw [if_pos rfl] at H; exact H
    clear H; have H := H1; clear H1; obtain rfl := Option.some.inj H
    go_wp2
    go_ret
    exact ⟨by first | rfl | (simp [errW_none, errW_some] <;> rfl) | (simp [*, errW_none, errW_some] <;> rfl), blA HB.out⟩
   ·replace c19 := Bool.eq_false_iff.mpr c19; subst c19
    have H1 : (if a0_3 > 64 then (steepleref25_Check.j1 kj1 true a0_0 a0_1 a0_2 a0_3 a0_4 l0_5) else (if a0_4 > 64 then (steepleref25_Check.j1 kj1 true a0_0 a0_1 a0_2 a0_3 a0_4 l0_5) else ((steepleref15_Two.f kj1 a0_2).bind fun t123 => (steepleref25_Check.j1 kj1 (decide ((wrap64 (a0_3 + a0_4)) > t123)) a0_0 a0_1 a0_2 a0_3 a0_4 l0_5)))) = some r := by rw [if_neg (show ¬ (false = true) by decide)] at H; exact H
    clear H; have H := H1; clear H1; have HC20 := Aside0.mk H; clear H
    go_upto_region 3 with (fail)
    go_cut [62] (fun v62 wc => ∃ (kq : Nat) (x62_19 : Bool), v62 = .bool x62_19 ∧ Aside0 (steepleref25_Check.j1 kq x62_19 a0_0 a0_1 a0_2 a0_3 a0_4 l0_5 = some r) ∧ Aside0 (kq ≤ kj1) ∧ Aside0 (wc.heap[gb122]? = some (.cells #[.int .i64 a0_0, .int .i64 a0_1, .int .i64 a0_2, .int .i64 a0_3, .int .i64 a0_4, (.slice A0_5 l0_5.length c0_5)] 28 (0, 0))) ∧ Aside0 (Below w.heap.size w wc))
    case first =>
     have H := HC20.out; clear HC20
     by_cases c21 : a0_3 > 64
     ·rw [if_pos c21] at H
      have c21b0 : decide (64 < a0_3) = true := decide_eq_true c21; clear c21
      (first | rw [c21b0] | (simp only [i64_w, i32_w]; rw [c21b0]) | skip)
      have H' := Aside0.mk H; clear H
      try go_wp2
      have n0_ := Aside0.mk (blk_drew BK122.out); have n1_ := Aside0.mk (below_drew1 HB.out); clear BK122; clear HB; have BK122 := n0_; have HB := n1_; clear n0_ n1_
      refine start_ (n := 19) (S := fun w' => w'.cell? ⟨gb122, 0, none⟩ = some (.int .i64 a0_0) ∧ w'.cell? ⟨gb122, 1, none⟩ = some (.int .i64 a0_1) ∧ w'.cell? ⟨gb122, 2, none⟩ = some (.int .i64 a0_2) ∧ w'.cell? ⟨gb122, 3, none⟩ = some (.int .i64 a0_3) ∧ w'.cell? ⟨gb122, 4, none⟩ = some (.int .i64 a0_4) ∧ w'.cell? ⟨gb122, 5, none⟩ = some (.slice A0_5 l0_5.length c0_5)) (ds := []) #[false, false, false, false, false, false, false, false, false, false, false, false, false, false, false, false, false, false, false] (by kernel_rfl) rfl rfl ⟨(blk_cell BK122.out 0).trans rfl, (blk_cell BK122.out 1).trans rfl, (blk_cell BK122.out 2).trans rfl, (blk_cell BK122.out 3).trans rfl, (blk_cell BK122.out 4).trans rfl, (blk_cell BK122.out 5).trans rfl⟩ (fun hHeld => ?_); refine with_tabW steepleref25_Check.tab3 steepleref25_Check.bits3 (fun HT_ HW_ => ?_)
      generalize wc.drew = w22 at BK122 HB hHeld ⊢
      refine pureA 0 (some 44) HT_.out ?_
      refine takeA 1 (some 45) rfl HT_.out HW_.out hHeld (Or.inl ⟨by rfl, by rintro w' ⟨s0, s1, s2, s3, s4, s5⟩; go_simp; with_reducible rfl⟩) ?_
      refine pureA 2 (some 46) HT_.out ?_
      refine pureA 3 (some 47) HT_.out ?_
      refine pure_ (i := 4) (N := some 48) (v := undef) (a' := ?_) #[true, true, true, true, true, false, false, false, false, false, false, false, false, false, false, false, false, false, false] rfl rfl (any_of HT_.out (by kernel_rfl)) (fun _ _ _ h => h) (Or.inr ⟨by rfl, rfl⟩) ?_ ?_
      rotate_left
      ·simp only [Act.put, List.setIfInBounds_toArray, List.set_cons_zero, List.set_cons_succ, i64_w, i32_w]
       rfl
      refine pure_ (i := 5) (N := some 49) (v := undef) (a' := ?_) #[true, true, true, true, true, true, false, false, false, false, false, false, false, false, false, false, false, false, false] rfl rfl (any_of HT_.out (by kernel_rfl)) (fun _ _ _ h => h) (Or.inr ⟨by rfl, rfl⟩) ?_ ?_
      rotate_left
      ·simp only [Act.put, List.setIfInBounds_toArray, List.set_cons_zero, List.set_cons_succ, i64_w, i32_w]
       rfl
      refine pure_ (i := 6) (N := some 50) (v := undef) (a' := ?_) #[true, true, true, true, true, true, true, false, false, false, false, false, false, false, false, false, false, false, false] rfl rfl (any_of HT_.out (by kernel_rfl)) (fun _ _ _ h => h) (Or.inr ⟨by rfl, rfl⟩) ?_ ?_
      rotate_left
      ·simp only [Act.put, List.setIfInBounds_toArray, List.set_cons_zero, List.set_cons_succ, i64_w, i32_w]
       rfl
      refine pureA 7 (some 51) HT_.out ?_
      refine pureA 8 (some 52) HT_.out ?_
      refine pure_ (i := 9) (N := some 53) (v := undef) (a' := ?_) #[true, true, true, true, true, true, true, true, true, true, false, false, false, false, false, false, false, false, false] rfl rfl (any_of HT_.out (by kernel_rfl)) (fun _ _ _ h => h) (Or.inr ⟨by rfl, rfl⟩) ?_ ?_
      rotate_left
      ·simp only [Act.put, List.setIfInBounds_toArray, List.set_cons_zero, List.set_cons_succ, i64_w, i32_w]
       rfl
      refine pure_ (i := 10) (N := some 54) (v := undef) (a' := ?_) #[true, true, true, true, true, true, true, true, true, true, true, false, false, false, false, false, false, false, false] rfl rfl (any_of HT_.out (by kernel_rfl)) (fun _ _ _ h => h) (Or.inr ⟨by rfl, rfl⟩) ?_ ?_
      rotate_left
      ·simp only [Act.put, List.setIfInBounds_toArray, List.set_cons_zero, List.set_cons_succ, i64_w, i32_w]
       rfl
      refine pure_ (i := 11) (N := some 55) (v := undef) (a' := ?_) #[true, true, true, true, true, true, true, true, true, true, true, true, false, false, false, false, false, false, false] rfl rfl (any_of HT_.out (by kernel_rfl)) (fun _ _ _ h => h) (Or.inr ⟨by rfl, rfl⟩) ?_ ?_
      rotate_left
      ·simp only [Act.put, List.setIfInBounds_toArray, List.set_cons_zero, List.set_cons_succ, i64_w, i32_w]
       rfl
      refine pure_ (i := 12) (N := some 56) (v := undef) (a' := ?_) #[true, true, true, true, true, true, true, true, true, true, true, true, true, false, false, false, false, false, false] rfl rfl (any_of HT_.out (by kernel_rfl)) (fun _ _ _ h => h) (Or.inr ⟨by rfl, rfl⟩) ?_ ?_
      rotate_left
      ·simp only [Act.put, List.setIfInBounds_toArray, List.set_cons_zero, List.set_cons_succ, i64_w, i32_w]
       rfl
      refine pure_ (i := 13) (N := some 57) (v := undef) (a' := ?_) #[true, true, true, true, true, true, true, true, true, true, true, true, true, true, false, false, false, false, false] rfl rfl (any_of HT_.out (by kernel_rfl)) (fun _ _ _ h => h) (Or.inr ⟨by rfl, rfl⟩) ?_ ?_
      rotate_left
      ·simp only [Act.put, List.setIfInBounds_toArray, List.set_cons_zero, List.set_cons_succ, i64_w, i32_w]
       rfl
      refine pure_ (i := 14) (N := some 58) (v := undef) (a' := ?_) #[true, true, true, true, true, true, true, true, true, true, true, true, true, true, true, false, false, false, false] rfl rfl (any_of HT_.out (by kernel_rfl)) (fun _ _ _ h => h) (Or.inr ⟨by rfl, rfl⟩) ?_ ?_
      rotate_left
      ·simp only [Act.put, List.setIfInBounds_toArray, List.set_cons_zero, List.set_cons_succ, i64_w, i32_w]
       rfl
      refine pure_ (i := 15) (N := some 59) (v := undef) (a' := ?_) #[true, true, true, true, true, true, true, true, true, true, true, true, true, true, true, true, false, false, false] rfl rfl (any_of HT_.out (by kernel_rfl)) (fun _ _ _ h => h) (Or.inr ⟨by rfl, rfl⟩) ?_ ?_
      rotate_left
      ·simp only [Act.put, List.setIfInBounds_toArray, List.set_cons_zero, List.set_cons_succ, i64_w, i32_w]
       rfl
      refine pure_ (i := 16) (N := some 60) (v := undef) (a' := ?_) #[true, true, true, true, true, true, true, true, true, true, true, true, true, true, true, true, true, false, false] rfl rfl (any_of HT_.out (by kernel_rfl)) (fun _ _ _ h => h) (Or.inr ⟨by rfl, rfl⟩) ?_ ?_
      rotate_left
      ·simp only [Act.put, List.setIfInBounds_toArray, List.set_cons_zero, List.set_cons_succ, i64_w, i32_w]
       rfl
      refine pure_ (i := 17) (N := some 61) (v := undef) (a' := ?_) #[true, true, true, true, true, true, true, true, true, true, true, true, true, true, true, true, true, true, false] rfl rfl (any_of HT_.out (by kernel_rfl)) (fun _ _ _ h => h) (Or.inr ⟨by rfl, rfl⟩) ?_ ?_
      rotate_left
      ·simp only [Act.put, List.setIfInBounds_toArray, List.set_cons_zero, List.set_cons_succ, i64_w, i32_w]
       rfl
      refine pureA 18 (some 62) HT_.out ?_
      refine done_ (done_of HT_.out (by kernel_rfl)) ?_
      try go_wp2
      go_meet
      case rel => exact ⟨_, (true), eqA, H', ⟨by have := HJ1.out; first | omega | exact Nat.le_refl _⟩, ⟨bkA BK122.out⟩, ⟨blA HB.out⟩⟩
     ·rw [if_neg c21] at H
      have c21b0 : decide (64 < a0_3) = false := decide_eq_false c21; clear c21
      (first | rw [c21b0] | (simp only [i64_w, i32_w]; rw [c21b0]) | skip)
      by_cases c23 : a0_4 > 64
      ·rw [if_pos c23] at H
       have c23b0 : decide (64 < a0_4) = true := decide_eq_true c23; clear c23; have H' := Aside0.mk H; clear H
       try go_wp2
       have n0_ := Aside0.mk (blk_drew BK122.out); have n1_ := Aside0.mk (below_drew1 HB.out); clear BK122; clear HB; have BK122 := n0_; have HB := n1_; clear n0_ n1_
       refine start_ (n := 19) (S := fun w' => w'.cell? ⟨gb122, 0, none⟩ = some (.int .i64 a0_0) ∧ w'.cell? ⟨gb122, 1, none⟩ = some (.int .i64 a0_1) ∧ w'.cell? ⟨gb122, 2, none⟩ = some (.int .i64 a0_2) ∧ w'.cell? ⟨gb122, 3, none⟩ = some (.int .i64 a0_3) ∧ w'.cell? ⟨gb122, 4, none⟩ = some (.int .i64 a0_4) ∧ w'.cell? ⟨gb122, 5, none⟩ = some (.slice A0_5 l0_5.length c0_5)) (ds := []) #[false, false, false, false, false, false, false, false, false, false, false, false, false, false, false, false, false, false, false] (by kernel_rfl) rfl rfl ⟨(blk_cell BK122.out 0).trans rfl, (blk_cell BK122.out 1).trans rfl, (blk_cell BK122.out 2).trans rfl, (blk_cell BK122.out 3).trans rfl, (blk_cell BK122.out 4).trans rfl, (blk_cell BK122.out 5).trans rfl⟩ (fun hHeld => ?_); refine with_tabW steepleref25_Check.tab3 steepleref25_Check.bits3 (fun HT_ HW_ => ?_)
       generalize wc.drew = w24 at BK122 HB hHeld ⊢
       refine pureA 0 (some 44) HT_.out ?_
       refine takeA 1 (some 45) rfl HT_.out HW_.out hHeld (Or.inl ⟨by rfl, by rintro w' ⟨s0, s1, s2, s3, s4, s5⟩; go_simp; with_reducible rfl⟩) ?_
       refine pureA 2 (some 46) HT_.out ?_
       refine pureA 3 (some 47) HT_.out ?_
       refine pureA 4 (some 48) HT_.out ?_
       refine takeA 5 (some 49) rfl HT_.out HW_.out hHeld (Or.inl ⟨by rfl, by rintro w' ⟨s0, s1, s2, s3, s4, s5⟩; go_simp; with_reducible rfl⟩) ?_
       refine pureA 6 (some 50) HT_.out ?_
       refine pureA 7 (some 51) HT_.out ?_
       refine pureA 8 (some 52) HT_.out ?_
       refine pure_ (i := 9) (N := some 53) (v := undef) (a' := ?_) #[true, true, true, true, true, true, true, true, true, true, false, false, false, false, false, false, false, false, false] rfl rfl (any_of HT_.out (by kernel_rfl)) (fun _ _ _ h => h) (Or.inr ⟨by rfl, rfl⟩) ?_ ?_
       rotate_left
       ·simp only [Act.put, List.setIfInBounds_toArray, List.set_cons_zero, List.set_cons_succ, i64_w, i32_w]
        rfl
       refine pure_ (i := 10) (N := some 54) (v := undef) (a' := ?_) #[true, true, true, true, true, true, true, true, true, true, true, false, false, false, false, false, false, false, false] rfl rfl (any_of HT_.out (by kernel_rfl)) (fun _ _ _ h => h) (Or.inr ⟨by rfl, rfl⟩) ?_ ?_
       rotate_left
       ·simp only [Act.put, List.setIfInBounds_toArray, List.set_cons_zero, List.set_cons_succ, i64_w, i32_w]
        rfl
       refine pure_ (i := 11) (N := some 55) (v := undef) (a' := ?_) #[true, true, true, true, true, true, true, true, true, true, true, true, false, false, false, false, false, false, false] rfl rfl (any_of HT_.out (by kernel_rfl)) (fun _ _ _ h => h) (Or.inr ⟨by rfl, rfl⟩) ?_ ?_
       rotate_left
       ·simp only [Act.put, List.setIfInBounds_toArray, List.set_cons_zero, List.set_cons_succ, i64_w, i32_w]
        rfl
       refine pure_ (i := 12) (N := some 56) (v := undef) (a' := ?_) #[true, true, true, true, true, true, true, true, true, true, true, true, true, false, false, false, false, false, false] rfl rfl (any_of HT_.out (by kernel_rfl)) (fun _ _ _ h => h) (Or.inr ⟨by rfl, rfl⟩) ?_ ?_
       rotate_left
       ·simp only [Act.put, List.setIfInBounds_toArray, List.set_cons_zero, List.set_cons_succ, i64_w, i32_w]
        rfl
       refine pure_ (i := 13) (N := some 57) (v := undef) (a' := ?_) #[true, true, true, true, true, true, true, true, true, true, true, true, true, true, false, false, false, false, false] rfl rfl (any_of HT_.out (by kernel_rfl)) (fun _ _ _ h => h) (Or.inr ⟨by rfl, rfl⟩) ?_ ?_
       rotate_left
       ·simp only [Act.put, List.setIfInBounds_toArray, List.set_cons_zero, List.set_cons_succ, i64_w, i32_w]
        rfl
       refine pure_ (i := 14) (N := some 58) (v := undef) (a' := ?_) #[true, true, true, true, true, true, true, true, true, true, true, true, true, true, true, false, false, false, false] rfl rfl (any_of HT_.out (by kernel_rfl)) (fun _ _ _ h => h) (Or.inr ⟨by rfl, rfl⟩) ?_ ?_
       rotate_left
       ·simp only [Act.put, List.setIfInBounds_toArray, List.set_cons_zero, List.set_cons_succ, i64_w, i32_w]
        rfl
       refine pure_ (i := 15) (N := some 59) (v := undef) (a' := ?_) #[true, true, true, true, true, true, true, true, true, true, true, true, true, true, true, true, false, false, false] rfl rfl (any_of HT_.out (by kernel_rfl)) (fun _ _ _ h => h) (Or.inr ⟨by rfl, rfl⟩) ?_ ?_
       rotate_left
       ·simp only [Act.put, List.setIfInBounds_toArray, List.set_cons_zero, List.set_cons_succ, i64_w, i32_w]
        rfl
       refine pure_ (i := 16) (N := some 60) (v := undef) (a' := ?_) #[true, true, true, true, true, true, true, true, true, true, true, true, true, true, true, true, true, false, false] rfl rfl (any_of HT_.out (by kernel_rfl)) (fun _ _ _ h => h) (Or.inr ⟨by rfl, rfl⟩) ?_ ?_
       rotate_left
       ·simp only [Act.put, List.setIfInBounds_toArray, List.set_cons_zero, List.set_cons_succ, i64_w, i32_w]
        rfl
       refine pure_ (i := 17) (N := some 61) (v := undef) (a' := ?_) #[true, true, true, true, true, true, true, true, true, true, true, true, true, true, true, true, true, true, false] rfl rfl (any_of HT_.out (by kernel_rfl)) (fun _ _ _ h => h) (Or.inr ⟨by rfl, rfl⟩) ?_ ?_
       rotate_left
       ·simp only [Act.put, List.setIfInBounds_toArray, List.set_cons_zero, List.set_cons_succ, i64_w, i32_w]
        rfl
       refine pureA 18 (some 62) HT_.out ?_
       refine done_ (done_of HT_.out (by kernel_rfl)) ?_
       try go_wp2
       go_meet
       case rel => exact ⟨_, (true), eqA, H', ⟨by have := HJ1.out; first | omega | exact Nat.le_refl _⟩, ⟨bkA BK122.out⟩, ⟨blA HB.out⟩⟩
      ·rw [if_neg c23] at H
       have c23b0 : decide (64 < a0_4) = false := decide_eq_false c23; clear c23; replace H := Option.bind_eq_some_iff.mp H; obtain ⟨t123, A250, H⟩ := H; replace H : (steepleref25_Check.j1 kj1 (decide ((wrap64 (a0_3 + a0_4)) > t123)) a0_0 a0_1 a0_2 a0_3 a0_4 l0_5) = some r := H; have A25 := Aside0.mk A250; clear A250; have H' := Aside0.mk H; clear H
       try go_wp2
       have n0_ := Aside0.mk (blk_drew BK122.out); have n1_ := Aside0.mk (below_drew1 HB.out); clear BK122; clear HB; have BK122 := n0_; have HB := n1_; clear n0_ n1_
       refine start_ (n := 19) (S := fun w' => w'.cell? ⟨gb122, 0, none⟩ = some (.int .i64 a0_0) ∧ w'.cell? ⟨gb122, 1, none⟩ = some (.int .i64 a0_1) ∧ w'.cell? ⟨gb122, 2, none⟩ = some (.int .i64 a0_2) ∧ w'.cell? ⟨gb122, 3, none⟩ = some (.int .i64 a0_3) ∧ w'.cell? ⟨gb122, 4, none⟩ = some (.int .i64 a0_4) ∧ w'.cell? ⟨gb122, 5, none⟩ = some (.slice A0_5 l0_5.length c0_5)) (ds := []) #[false, false, false, false, false, false, false, false, false, false, false, false, false, false, false, false, false, false, false] (by kernel_rfl) rfl rfl ⟨(blk_cell BK122.out 0).trans rfl, (blk_cell BK122.out 1).trans rfl, (blk_cell BK122.out 2).trans rfl, (blk_cell BK122.out 3).trans rfl, (blk_cell BK122.out 4).trans rfl, (blk_cell BK122.out 5).trans rfl⟩ (fun hHeld => ?_); refine with_tabW steepleref25_Check.tab3 steepleref25_Check.bits3 (fun HT_ HW_ => ?_)
       generalize wc.drew = w26 at BK122 HB hHeld ⊢
       refine pureA 0 (some 44) HT_.out ?_
       refine takeA 1 (some 45) rfl HT_.out HW_.out hHeld (Or.inl ⟨by rfl, by rintro w' ⟨s0, s1, s2, s3, s4, s5⟩; go_simp; with_reducible rfl⟩) ?_
       refine pureA 2 (some 46) HT_.out ?_
       refine pureA 3 (some 47) HT_.out ?_
       refine pureA 4 (some 48) HT_.out ?_
       refine takeA 5 (some 49) rfl HT_.out HW_.out hHeld (Or.inl ⟨by rfl, by rintro w' ⟨s0, s1, s2, s3, s4, s5⟩; go_simp; with_reducible rfl⟩) ?_
       refine pureA 6 (some 50) HT_.out ?_
       refine pureA 7 (some 51) HT_.out ?_
       refine pureA 8 (some 52) HT_.out ?_
       refine pureA 9 (some 53) HT_.out ?_
       refine pureA 11 (some 55) HT_.out ?_
       refine pureA 14 (some 58) HT_.out ?_
       refine takeA 10 (some 54) rfl HT_.out HW_.out hHeld (Or.inl ⟨by rfl, by rintro w' ⟨s0, s1, s2, s3, s4, s5⟩; go_simp; with_reducible rfl⟩) ?_
       refine takeA 12 (some 56) rfl HT_.out HW_.out hHeld (Or.inl ⟨by rfl, by rintro w' ⟨s0, s1, s2, s3, s4, s5⟩; go_simp; with_reducible rfl⟩) ?_
       refine pureA 13 (some 57) HT_.out ?_
       refine takeA 15 (some 59) rfl HT_.out HW_.out hHeld (Or.inl ⟨by rfl, by rintro w' ⟨s0, s1, s2, s3, s4, s5⟩; go_simp; with_reducible rfl⟩) ?_
       refine one_ (i := 16) (N := some 60) #[true, true, true, true, true, true, true, true, true, true, true, true, true, true, true, true, true, false, false] rfl rfl (one_of HT_.out (by kernel_rfl)) (by decide) (fun K hK => ?_)
       refine goes_ Try.func32 (by kernel_rfl) rfl #[.int .i64 a0_2] (by rfl) rfl rfl gsA ?_
       with_reducible refine (steepleref15_Two.calls kj1 a0_2 t123 _ A25.out).mono ?_
       rintro e w' ⟨rfl, ⟨nd, rfl⟩⟩
       refine ⟨_, rfl, ?_⟩
       refine hK.out _ _ ⟨(blk_cell BK122.out 0).trans rfl, (blk_cell BK122.out 1).trans rfl, (blk_cell BK122.out 2).trans rfl, (blk_cell BK122.out 3).trans rfl, (blk_cell BK122.out 4).trans rfl, (blk_cell BK122.out 5).trans rfl⟩ (fun hHeld => ?_)
       clear hK K
       refine normA ?_
       refine pureA 17 (some 61) HT_.out ?_
       refine pureA 18 (some 62) HT_.out ?_
       refine done_ (done_of HT_.out (by kernel_rfl)) ?_
       try go_wp2
       go_meet
       case rel => exact ⟨_, (decide ((wrap64 (a0_3 + a0_4)) > t123)), eqA, H', ⟨by have := HJ1.out; first | omega | exact Nat.le_refl _⟩, ⟨bkA BK122.out⟩, ⟨blA HB.out⟩⟩
    case rest =>
     clear HC20; (try clear c1); (try clear c2); (try clear p2); (try clear c3); (try clear c4); (try clear c4b0); (try clear c6); (try clear c6b0); (try clear p6); (try clear c8); (try clear c8b0); (try clear c10); (try clear c10b0); (try clear c12); (try clear c12b0); (try clear c14); (try clear c14b0); (try clear c16); (try clear c16b0); (try clear c19); (try clear c21); (try clear c21b0); (try clear c23); (try clear c23b0); (try clear hcz11); (try clear hcz13); (try clear hcz15); (try clear hcz17); (try clear hcz18); (try clear hcz5); (try clear hcz7); (try clear hcz9); (try clear hfz11); (try clear hfz13); (try clear hfz15); (try clear hfz17); (try clear hfz18); (try clear hfz5); (try clear hfz7); (try clear hfz9); (try clear p2); obtain ⟨kq, x62_19, rfl, HA, HJ19, BK122, HB⟩ := hcut
     cases kq with
     | zero => exact absurd HA.out (by simp [steepleref25_Check.j1])
     | succ kj19 =>
      have H := HA.out; clear HA
      simp only [steepleref25_Check.j1] at H
      by_cases c27 : x62_19 = true
      ·subst c27
       have H1 : (some 1) = some r := by rw [if_pos rfl] at H; exact H
       clear H; have H := H1; clear H1; obtain rfl := Option.some.inj H
       go_wp2
       go_ret
       exact ⟨by first | rfl | (simp [errW_none, errW_some] <;> rfl) | (simp [*, errW_none, errW_some] <;> rfl), blA HB.out⟩
      ·replace c27 := Bool.eq_false_iff.mpr c27; subst c27
       have H1 : (if (l0_5.length : Int) > 30 then (some 2) else (steepleref25_Check.l0 kj19 (wrap64 (a0_3 + a0_4)) 0 a0_0 a0_1 a0_2 a0_3 a0_4 l0_5)) = some r := by rw [if_neg (show ¬ (false = true) by decide)] at H; exact H
       clear H; have H := H1; clear H1
       by_cases c28 : (l0_5.length : Int) > 30
       ·rw [if_pos c28] at H
        have c28b0 : decide (30 < (l0_5.length : Int)) = true := decide_eq_true c28
        have c28b1 : decide (30 < l0_5.length) = true := decide_eq_true (by omega)
        clear c28; obtain rfl := Option.some.inj H
        have hcz29 := fun i => blk_cell BK122.out i
        have hfz29 := fun i => blk_frozen BK122.out i
        go_wp2
        go_ret
        exact ⟨by first | rfl | (simp [errW_none, errW_some] <;> rfl) | (simp [*, errW_none, errW_some] <;> rfl), blA HB.out⟩
       ·rw [if_neg c28] at H
        have c28b0 : decide (30 < (l0_5.length : Int)) = false := decide_eq_false c28
        have c28b1 : decide (30 < l0_5.length) = false := decide_eq_false (by omega)
        clear c28; have H' := Aside0.mk H; clear H
        have hcz30 := fun i => blk_cell BK122.out i
        have hfz30 := fun i => blk_frozen BK122.out i
        go_wp2
        go_loopg [3, 4] kj19 (fun kq v3 v4 w' => ∃ (x3_3 : Int) (x4_3 : Int), v3 = .int .i64 x3_3 ∧ v4 = .int .i64 x4_3 ∧ Aside0 (steepleref25_Check.l0 kq x3_3 x4_3 a0_0 a0_1 a0_2 a0_3 a0_4 l0_5 = some r) ∧ Aside0 (kq ≤ kj19) ∧ Aside0 (w'.heap[gb122]? = some (.cells #[.int .i64 a0_0, .int .i64 a0_1, .int .i64 a0_2, .int .i64 a0_3, .int .i64 a0_4, (.slice A0_5 l0_5.length c0_5)] 28 (0, 0))) ∧ Aside0 (Below w.heap.size w w'))
        case atStart => exact ⟨(wrap64 (a0_3 + a0_4)), (0), eqA, eqA, H', ⟨Nat.le_refl _⟩, ⟨bkA BK122.out⟩, ⟨blA HB.out⟩⟩
        case round =>
         clear H'; (try clear c1); (try clear c2); (try clear p2); (try clear c3); (try clear c4); (try clear c4b0); (try clear c6); (try clear c6b0); (try clear p6); (try clear c8); (try clear c8b0); (try clear c10); (try clear c10b0); (try clear c12); (try clear c12b0); (try clear c14); (try clear c14b0); (try clear c16); (try clear c16b0); (try clear c19); (try clear c21); (try clear c21b0); (try clear c23); (try clear c23b0); (try clear c27); (try clear c28); (try clear c28b0); (try clear c28b1); (try clear hcz11); (try clear hcz13); (try clear hcz15); (try clear hcz17); (try clear hcz18); (try clear hcz29); (try clear hcz30); (try clear hcz5); (try clear hcz7); (try clear hcz9); (try clear hfz11); (try clear hfz13); (try clear hfz15); (try clear hfz17); (try clear hfz18); (try clear hfz29); (try clear hfz30); (try clear hfz5); (try clear hfz7); (try clear hfz9); (try clear p2); (try clear p6); obtain ⟨x3_3, x4_3, rfl, rfl, HA, HK3, BK122, HB⟩ := hrel
         cases gk with
         | zero => exact absurd HA.out (by simp [steepleref25_Check.l0])
         | succ k3 =>
          have H := HA.out; clear HA
          simp only [steepleref25_Check.l0] at H
          by_cases c31 : x4_3 < (l0_5.length : Int)
          ·rw [if_pos c31] at H
           have c31b0 : decide (x4_3 < (l0_5.length : Int)) = true := decide_eq_true c31; clear c31
           by_cases c32 : 0 ≤ x4_3
           ·rw [if_pos c32] at H
            have c32b0 : decide (0 ≤ x4_3) = true := decide_eq_true c32; clear c32; replace H := Option.bind_eq_some_iff.mp H; obtain ⟨t125, A330, H⟩ := H
            (try dsimp only at H)
            have A33 := Aside0.mk A330; clear A330
            by_cases c34 : t125 = 0
            ·rw [if_pos c34] at H
             have c34b0 : (t125 == 0) = true := beq_iff_eq.mpr c34; have c34b1 : (t125 != 0) = false := bne_eq_false_iff_eq.mpr c34; clear c34; replace H := Option.bind_eq_some_iff.mp H; obtain ⟨t127, A350, H⟩ := H; replace H : (steepleref25_Check.l0 k3 (wrap64 (x3_3 + t127)) (wrap64 (x4_3 + 1)) a0_0 a0_1 a0_2 a0_3 a0_4 l0_5) = some r := H; have A35 := Aside0.mk A350; clear A350; have H' := Aside0.mk H; clear H
             have hcz36 := fun i => blk_cell BK122.out i
             have hfz36 := fun i => blk_frozen BK122.out i
             try go_wp2
             have n0_ := Aside0.mk (blk_drew BK122.out); have n1_ := Aside0.mk (below_drew1 HB.out); clear BK122; clear HB; have BK122 := n0_; have HB := n1_; clear n0_ n1_
             have p124 : 0 ≤ (x4_3 : Int) := of_decide_eq_true (by first | (with_reducible assumption) | assumption)
             have q124 : x4_3 < (l0_5.length : Int) := of_decide_eq_true (by first | (with_reducible assumption) | assumption)
             obtain ⟨ad124, e124, hx124_0, hx124_1, hx124_2, hx124_3, hx124_4⟩ := at_T106 HR0_5.out x4_3 p124 q124; have hw124_4 := hx124_4; have hw124_3 := hx124_3; have hw124_2 := hx124_2; have hw124_1 := hx124_1; have hw124_0 := hx124_0
             cases e124
             replace hx124_0 := (HB.out.cell (World.block_lt_of_cell? w _ hx124_0)).trans hx124_0; replace hx124_1 := (HB.out.cell (World.block_lt_of_cell? w _ hx124_1)).trans hx124_1; replace hx124_2 := (HB.out.cell (World.block_lt_of_cell? w _ hx124_2)).trans hx124_2; replace hx124_3 := (HB.out.cell (World.block_lt_of_cell? w _ hx124_3)).trans hx124_3; replace hx124_4 := (HB.out.cell (World.block_lt_of_cell? w _ hx124_4)).trans hx124_4; replace p124 := eq_true p124; replace q124 := eq_true q124
             refine start_ (n := 9) (S := fun w' => w'.cell? ⟨gb122, 0, none⟩ = some (.int .i64 a0_0) ∧ w'.cell? ⟨gb122, 1, none⟩ = some (.int .i64 a0_1) ∧ w'.cell? ⟨gb122, 2, none⟩ = some (.int .i64 a0_2) ∧ w'.cell? ⟨gb122, 3, none⟩ = some (.int .i64 a0_3) ∧ w'.cell? ⟨gb122, 4, none⟩ = some (.int .i64 a0_4) ∧ w'.cell? ⟨gb122, 5, none⟩ = some (.slice (some ad124) l0_5.length c0_5) ∧ w'.cell? (ad124.add ((x4_3).toNat * 5)) = some (.int .i64 ((rd_T106 l0_5 x4_3).f0)) ∧ w'.cell? ⟨(ad124.add ((x4_3).toNat * 5)).block, (ad124.add ((x4_3).toNat * 5)).off + 1, none⟩ = some (.int .i64 ((rd_T106 l0_5 x4_3).f1)) ∧ w'.cell? ⟨(ad124.add ((x4_3).toNat * 5)).block, (ad124.add ((x4_3).toNat * 5)).off + 2, none⟩ = some (.int .i64 ((rd_T106 l0_5 x4_3).f2)) ∧ w'.cell? ⟨(ad124.add ((x4_3).toNat * 5)).block, (ad124.add ((x4_3).toNat * 5)).off + 3, none⟩ = some (.int .i64 ((rd_T106 l0_5 x4_3).f3)) ∧ w'.cell? ⟨(ad124.add ((x4_3).toNat * 5)).block, (ad124.add ((x4_3).toNat * 5)).off + 4, none⟩ = some (.int .i64 ((rd_T106 l0_5 x4_3).f4))) (ds := []) #[false, false, false, false, false, false, false, false, false] (by kernel_rfl) rfl rfl ⟨(blk_cell BK122.out 0).trans rfl, (blk_cell BK122.out 1).trans rfl, (blk_cell BK122.out 2).trans rfl, (blk_cell BK122.out 3).trans rfl, (blk_cell BK122.out 4).trans rfl, (blk_cell BK122.out 5).trans rfl, (clA HB.out hw124_0), (clA HB.out hw124_1), (clA HB.out hw124_2), (clA HB.out hw124_3), (clA HB.out hw124_4)⟩ (fun hHeld => ?_); refine with_tabW steepleref25_Check.tab11 steepleref25_Check.bits11 (fun HT_ HW_ => ?_)
             generalize wr.drew = w37 at BK122 HB hx124_0 hx124_1 hx124_2 hx124_3 hx124_4 hHeld ⊢
             refine pureA 1 (some 80) HT_.out ?_
             refine pureA 3 (some 82) HT_.out ?_
             refine pureA 6 (some 85) HT_.out ?_
             refine takeA 0 (some 79) rfl HT_.out HW_.out hHeld (Or.inl ⟨by rfl, by rintro w' ⟨s0, s1, s2, s3, s4, s5, s6, s7, s8, s9, s10⟩; go_simp; with_reducible rfl⟩) ?_
             refine takeA 2 (some 81) rfl HT_.out HW_.out hHeld (Or.inl ⟨by rfl, by rintro w' ⟨s0, s1, s2, s3, s4, s5, s6, s7, s8, s9, s10⟩; go_simp; with_reducible rfl⟩) ?_
             refine pureA 4 (some 83) HT_.out ?_
             refine takeA 5 (some 84) rfl HT_.out HW_.out hHeld (Or.inl ⟨by rfl, by rintro w' ⟨s0, s1, s2, s3, s4, s5, s6, s7, s8, s9, s10⟩; go_simp; with_reducible rfl⟩) ?_
             refine one_ (i := 7) (N := some 86) #[true, true, true, true, true, true, true, true, false] rfl rfl (one_of HT_.out (by kernel_rfl)) (by decide) (fun K hK => ?_)
             refine goes_ Try.func59 (by kernel_rfl) rfl #[.agg #[.int .i64 a0_0, .int .i64 a0_1, .int .i64 a0_2, .int .i64 a0_3, .int .i64 a0_4, .slice (some ad124) l0_5.length c0_5], .agg #[.int .i64 ((rd_T106 l0_5 x4_3).f0), .int .i64 ((rd_T106 l0_5 x4_3).f1), .int .i64 ((rd_T106 l0_5 x4_3).f2), .int .i64 ((rd_T106 l0_5 x4_3).f3), .int .i64 ((rd_T106 l0_5 x4_3).f4)], .int .i64 x3_3] (by rfl) rfl rfl gsA ?_
             with_reducible refine (steepleref25_System_Gate.calls k3 a0_0 a0_1 a0_2 a0_3 a0_4 _ _ l0_5 ((rd_T106 l0_5 x4_3).f0) ((rd_T106 l0_5 x4_3).f1) ((rd_T106 l0_5 x4_3).f2) ((rd_T106 l0_5 x4_3).f3) ((rd_T106 l0_5 x4_3).f4) x3_3 t125 _ ?side1 ?side2 A33.out).mono ?_
             (case side1 => repeat (first | exact (Kd.C_below HR0_5.out HB.out) | (with_reducible refine Kd.C_alloc ?_ _) | (with_reducible refine Kd.C_drewN ?_ _) | (with_reducible refine Kd.C_drew ?_)))
             (case side2 => exact HC0_5.out)
             rintro e w38 ⟨rfl, hb⟩
             refine ⟨_, rfl, ?_⟩
             have n0_ := Aside0.mk (blk_below (bkA BK122.out) hb); have n1_ := Aside0.mk (below_step (blA HB.out) hb); clear BK122; clear HB; have BK122 := n0_; have HB := n1_; clear n0_ n1_
             (try clear hb)
             refine hK.out _ _ ⟨(blk_cell BK122.out 0).trans rfl, (blk_cell BK122.out 1).trans rfl, (blk_cell BK122.out 2).trans rfl, (blk_cell BK122.out 3).trans rfl, (blk_cell BK122.out 4).trans rfl, (blk_cell BK122.out 5).trans rfl, (clA HB.out hw124_0), (clA HB.out hw124_1), (clA HB.out hw124_2), (clA HB.out hw124_3), (clA HB.out hw124_4)⟩ (fun hHeld => ?_)
             clear hK K
             refine normA ?_
             refine pureA 8 (some 5) HT_.out ?_
             refine done_ (done_of HT_.out (by kernel_rfl)) ?_
             have hcz39 := fun i => blk_cell BK122.out i
             have hfz39 := fun i => blk_frozen BK122.out i
             have p126 : 0 ≤ (x4_3 : Int) := of_decide_eq_true (by first | (with_reducible assumption) | assumption)
             have q126 : x4_3 < (l0_5.length : Int) := of_decide_eq_true (by first | (with_reducible assumption) | assumption)
             obtain ⟨ad126, e126, hx126_0, hx126_1, hx126_2, hx126_3, hx126_4⟩ := at_T106 HR0_5.out x4_3 p126 q126
             obtain rfl : ad124 = ad126 := (by injection e126)
             replace hx126_0 := (HB.out.cell (World.block_lt_of_cell? w _ hx126_0)).trans hx126_0; replace hx126_1 := (HB.out.cell (World.block_lt_of_cell? w _ hx126_1)).trans hx126_1; replace hx126_2 := (HB.out.cell (World.block_lt_of_cell? w _ hx126_2)).trans hx126_2; replace hx126_3 := (HB.out.cell (World.block_lt_of_cell? w _ hx126_3)).trans hx126_3; replace hx126_4 := (HB.out.cell (World.block_lt_of_cell? w _ hx126_4)).trans hx126_4; replace p126 := eq_true p126; replace q126 := eq_true q126
             try go_wp2_with (first | ((with_reducible refine gate_callee (f := 60) rfl ?_); refine goesL_ (some 96) rfl rfl Try.func60 (by kernel_rfl) rfl #[.agg #[.int .i64 ((rd_T106 l0_5 x4_3).f0), .int .i64 ((rd_T106 l0_5 x4_3).f1), .int .i64 ((rd_T106 l0_5 x4_3).f2), .int .i64 ((rd_T106 l0_5 x4_3).f3), .int .i64 ((rd_T106 l0_5 x4_3).f4)]] rfl gsA ?_; (with_reducible refine (steepleref25_Makes.calls ((rd_T106 l0_5 x4_3).f0) ((rd_T106 l0_5 x4_3).f1) ((rd_T106 l0_5 x4_3).f2) ((rd_T106 l0_5 x4_3).f3) ((rd_T106 l0_5 x4_3).f4) t127 _ A35.out).mono ?_); rintro e w40 ⟨rfl, hb⟩; refine ⟨_, rfl, ?_⟩; have n0_ := Aside0.mk (blk_below (bkA BK122.out) hb); have n1_ := Aside0.mk (below_step (blA HB.out) hb); clear BK122; clear HB; have BK122 := n0_; have HB := n1_; clear n0_ n1_; (try clear hb)))
             go_roundg k3
             case measure => have := HJ1.out; have := HJ19.out; have := HK3.out; omega
             case rel => exact ⟨(wrap64 (x3_3 + t127)), (wrap64 (x4_3 + 1)), eqA, eqA, H', ⟨by have := HJ1.out; have := HJ19.out; have := HK3.out; omega⟩, ⟨bkA BK122.out⟩, ⟨blA HB.out⟩⟩
            ·rw [if_neg c34] at H
             have c34b0 : (t125 == 0) = false := beq_eq_false_iff_ne.mpr c34; have c34b1 : (t125 != 0) = true := bne_iff_ne.mpr c34; obtain rfl := Option.some.inj H
             have hcz41 := fun i => blk_cell BK122.out i
             have hfz41 := fun i => blk_frozen BK122.out i
             try go_wp2
             have n0_ := Aside0.mk (blk_drew BK122.out); have n1_ := Aside0.mk (below_drew1 HB.out); clear BK122; clear HB; have BK122 := n0_; have HB := n1_; clear n0_ n1_
             have p124 : 0 ≤ (x4_3 : Int) := of_decide_eq_true (by first | (with_reducible assumption) | assumption)
             have q124 : x4_3 < (l0_5.length : Int) := of_decide_eq_true (by first | (with_reducible assumption) | assumption)
             obtain ⟨ad124, e124, hx124_0, hx124_1, hx124_2, hx124_3, hx124_4⟩ := at_T106 HR0_5.out x4_3 p124 q124; have hw124_4 := hx124_4; have hw124_3 := hx124_3; have hw124_2 := hx124_2; have hw124_1 := hx124_1; have hw124_0 := hx124_0
             cases e124
             replace hx124_0 := (HB.out.cell (World.block_lt_of_cell? w _ hx124_0)).trans hx124_0; replace hx124_1 := (HB.out.cell (World.block_lt_of_cell? w _ hx124_1)).trans hx124_1; replace hx124_2 := (HB.out.cell (World.block_lt_of_cell? w _ hx124_2)).trans hx124_2; replace hx124_3 := (HB.out.cell (World.block_lt_of_cell? w _ hx124_3)).trans hx124_3; replace hx124_4 := (HB.out.cell (World.block_lt_of_cell? w _ hx124_4)).trans hx124_4; replace p124 := eq_true p124; replace q124 := eq_true q124
             refine start_ (n := 9) (S := fun w' => w'.cell? ⟨gb122, 0, none⟩ = some (.int .i64 a0_0) ∧ w'.cell? ⟨gb122, 1, none⟩ = some (.int .i64 a0_1) ∧ w'.cell? ⟨gb122, 2, none⟩ = some (.int .i64 a0_2) ∧ w'.cell? ⟨gb122, 3, none⟩ = some (.int .i64 a0_3) ∧ w'.cell? ⟨gb122, 4, none⟩ = some (.int .i64 a0_4) ∧ w'.cell? ⟨gb122, 5, none⟩ = some (.slice (some ad124) l0_5.length c0_5) ∧ w'.cell? (ad124.add ((x4_3).toNat * 5)) = some (.int .i64 ((rd_T106 l0_5 x4_3).f0)) ∧ w'.cell? ⟨(ad124.add ((x4_3).toNat * 5)).block, (ad124.add ((x4_3).toNat * 5)).off + 1, none⟩ = some (.int .i64 ((rd_T106 l0_5 x4_3).f1)) ∧ w'.cell? ⟨(ad124.add ((x4_3).toNat * 5)).block, (ad124.add ((x4_3).toNat * 5)).off + 2, none⟩ = some (.int .i64 ((rd_T106 l0_5 x4_3).f2)) ∧ w'.cell? ⟨(ad124.add ((x4_3).toNat * 5)).block, (ad124.add ((x4_3).toNat * 5)).off + 3, none⟩ = some (.int .i64 ((rd_T106 l0_5 x4_3).f3)) ∧ w'.cell? ⟨(ad124.add ((x4_3).toNat * 5)).block, (ad124.add ((x4_3).toNat * 5)).off + 4, none⟩ = some (.int .i64 ((rd_T106 l0_5 x4_3).f4))) (ds := []) #[false, false, false, false, false, false, false, false, false] (by kernel_rfl) rfl rfl ⟨(blk_cell BK122.out 0).trans rfl, (blk_cell BK122.out 1).trans rfl, (blk_cell BK122.out 2).trans rfl, (blk_cell BK122.out 3).trans rfl, (blk_cell BK122.out 4).trans rfl, (blk_cell BK122.out 5).trans rfl, (clA HB.out hw124_0), (clA HB.out hw124_1), (clA HB.out hw124_2), (clA HB.out hw124_3), (clA HB.out hw124_4)⟩ (fun hHeld => ?_); refine with_tabW steepleref25_Check.tab11 steepleref25_Check.bits11 (fun HT_ HW_ => ?_)
             generalize wr.drew = w42 at BK122 HB hx124_0 hx124_1 hx124_2 hx124_3 hx124_4 hHeld ⊢
             refine pureA 1 (some 80) HT_.out ?_
             refine pureA 3 (some 82) HT_.out ?_
             refine pureA 6 (some 85) HT_.out ?_
             refine takeA 0 (some 79) rfl HT_.out HW_.out hHeld (Or.inl ⟨by rfl, by rintro w' ⟨s0, s1, s2, s3, s4, s5, s6, s7, s8, s9, s10⟩; go_simp; with_reducible rfl⟩) ?_
             refine takeA 2 (some 81) rfl HT_.out HW_.out hHeld (Or.inl ⟨by rfl, by rintro w' ⟨s0, s1, s2, s3, s4, s5, s6, s7, s8, s9, s10⟩; go_simp; with_reducible rfl⟩) ?_
             refine pureA 4 (some 83) HT_.out ?_
             refine takeA 5 (some 84) rfl HT_.out HW_.out hHeld (Or.inl ⟨by rfl, by rintro w' ⟨s0, s1, s2, s3, s4, s5, s6, s7, s8, s9, s10⟩; go_simp; with_reducible rfl⟩) ?_
             refine one_ (i := 7) (N := some 86) #[true, true, true, true, true, true, true, true, false] rfl rfl (one_of HT_.out (by kernel_rfl)) (by decide) (fun K hK => ?_)
             refine goes_ Try.func59 (by kernel_rfl) rfl #[.agg #[.int .i64 a0_0, .int .i64 a0_1, .int .i64 a0_2, .int .i64 a0_3, .int .i64 a0_4, .slice (some ad124) l0_5.length c0_5], .agg #[.int .i64 ((rd_T106 l0_5 x4_3).f0), .int .i64 ((rd_T106 l0_5 x4_3).f1), .int .i64 ((rd_T106 l0_5 x4_3).f2), .int .i64 ((rd_T106 l0_5 x4_3).f3), .int .i64 ((rd_T106 l0_5 x4_3).f4)], .int .i64 x3_3] (by rfl) rfl rfl gsA ?_
             with_reducible refine (steepleref25_System_Gate.calls k3 a0_0 a0_1 a0_2 a0_3 a0_4 _ _ l0_5 ((rd_T106 l0_5 x4_3).f0) ((rd_T106 l0_5 x4_3).f1) ((rd_T106 l0_5 x4_3).f2) ((rd_T106 l0_5 x4_3).f3) ((rd_T106 l0_5 x4_3).f4) x3_3 t125 _ ?side1 ?side2 A33.out).mono ?_
             (case side1 => repeat (first | exact (Kd.C_below HR0_5.out HB.out) | (with_reducible refine Kd.C_alloc ?_ _) | (with_reducible refine Kd.C_drewN ?_ _) | (with_reducible refine Kd.C_drew ?_)))
             (case side2 => exact HC0_5.out)
             rintro e w43 ⟨rfl, hb⟩
             refine ⟨_, rfl, ?_⟩
             have n0_ := Aside0.mk (blk_below (bkA BK122.out) hb); have n1_ := Aside0.mk (below_step (blA HB.out) hb); clear BK122; clear HB; have BK122 := n0_; have HB := n1_; clear n0_ n1_
             (try clear hb)
             refine hK.out _ _ ⟨(blk_cell BK122.out 0).trans rfl, (blk_cell BK122.out 1).trans rfl, (blk_cell BK122.out 2).trans rfl, (blk_cell BK122.out 3).trans rfl, (blk_cell BK122.out 4).trans rfl, (blk_cell BK122.out 5).trans rfl, (clA HB.out hw124_0), (clA HB.out hw124_1), (clA HB.out hw124_2), (clA HB.out hw124_3), (clA HB.out hw124_4)⟩ (fun hHeld => ?_)
             clear hK K
             refine normA ?_
             refine pureA 8 (some 5) HT_.out ?_
             refine done_ (done_of HT_.out (by kernel_rfl)) ?_
             try go_wp2
             go_ret
             exact ⟨by first | rfl | (simp [errW_none, errW_some] <;> rfl) | (simp [*, errW_none, errW_some] <;> rfl), blA HB.out⟩
           ·rw [if_neg c32] at H
            exact absurd H (by simp)
          ·rw [if_neg c31] at H
           have c31b0 : decide (x4_3 < (l0_5.length : Int)) = false := decide_eq_false c31; clear c31; obtain rfl := Option.some.inj H
           have hcz44 := fun i => blk_cell BK122.out i
           have hfz44 := fun i => blk_frozen BK122.out i
           go_wp2
           go_ret
           exact ⟨by first | rfl | (simp [errW_none, errW_some] <;> rfl) | (simp [*, errW_none, errW_some] <;> rfl), blA HB.out⟩
end Go.Proofs.Ythiiodgpdoljoaa.PLw
namespace Go.Proofs.Ythiiodgpdoljoaa.Bit
open Go.RowKit Go.Proofs.Ythiiodgpdoljoaa.PLw Go.Proofs.YthiiodgpdoljoaaW.PrintWords Go.Proofs.YthiiodgpdoljoaaW.PrintLast
set_option linter.unusedVariables false
set_option linter.unusedSimpArgs false
theorem two_p2 (m : Nat) {n : Int} (h0 : 0 ≤ n) (h6 : n ≤ 6) : steepleref15_Two.f (m + 9) n = some (p2 n) := by
  have : n = 0 ∨ n = 1 ∨ n = 2 ∨ n = 3 ∨ n = 4 ∨ n = 5 ∨ n = 6 := by omega
  rcases this with rfl | rfl | rfl | rfl | rfl | rfl | rfl <;> simp [steepleref15_Two.f, steepleref15_Two.l0, p2, wrap64]
theorem refFits (m : Nat) (kind w s : Int) : steepleref18_Fits.f (m + 9) kind w s = some (fits kind w s) := by
  unfold steepleref18_Fits.f fits
  by_cases h1 : kind < 0
  · simp [h1]; omega
  · by_cases h2 : kind > 3
    · simp [h1, h2]; omega
    · by_cases h3 : w < 0
      · simp [h1, h2, h3]; omega
      · by_cases h4 : w > 6
        · simp [h1, h2, h3, h4]; omega
        · by_cases h5 : s < 0
          · simp [h1, h2, h3, h4, h5]; omega
          · rw [if_neg h1, if_neg h2, if_neg h3, if_neg h4, if_neg h5, two_p2 m (by omega) (by omega)]
            simp only [Option.bind_some]
            grind
def toG (g : S105) : S106 := ⟨g.f0, g.f1, g.f2, g.f3, g.f4⟩
theorem refGate (m : Nat) (wide rows cols pub priv : Int) (l : List S106) (g : S105) (n : Int) (hw : 0 ≤ wide) (hw5 : wide ≤ 5) (hc : 0 ≤ cols) (hc6 : cols ≤ 6) (hn : 0 ≤ n) (hn2 : n ≤ 64) :
    steepleref25_System_Gate.f (m + 20) wide rows cols pub priv l g.f0 g.f1 g.f2 g.f3 g.f4 n = some (gErr wide cols g n) := by
  obtain ⟨f0, f1, f2, f3, f4⟩ := g
  have hb := p2_bound hc hc6
  have e0 : wrap64 n = n := w64 (by omega) (by omega)
  have e1 : wrap64 (n + 1) = n + 1 := w64 (by omega) (by omega)
  have e2 : wrap64 (n + 2) = n + 2 := w64 (by omega) (by omega)
  have g0 : steepleref15_Two.f (m + 15) cols = some (p2 cols) := two_p2 (m + 6) hc hc6
  have g1 : ∀ a b c, steepleref18_Fits.f (m + 17) a b c = some (fits a b c) := refFits (m + 8)
  have v1 : wrap64 1 = 1 := w64 (by omega) (by omega)
  have v2 : wrap64 2 = 2 := w64 (by omega) (by omega)
  have v3 : wrap64 3 = 3 := w64 (by omega) (by omega)
  have hf : f0 < 1 ∨ 8 < f0 ∨ f0 = 1 ∨ f0 = 2 ∨ f0 = 3 ∨ f0 = 4 ∨ f0 = 5 ∨ f0 = 6 ∨ f0 = 7 ∨ f0 = 8 := by omega
  rcases hf with h | h | rfl | rfl | rfl | rfl | rfl | rfl | rfl | rfl
  · simp [steepleref25_System_Gate.f, steepleref25_System_Gate.j0, gErr, h]
  · have a0 : ¬ f0 < 1 := by omega
    simp [steepleref25_System_Gate.f, steepleref25_System_Gate.j0, gErr, h, a0]
  all_goals simp [steepleref25_System_Gate.f, steepleref25_System_Gate.j0, steepleref25_System_Gate.j1, steepleref25_System_Gate.j2, steepleref25_System_Gate.j3, steepleref25_System_Gate.j4, steepleref25_two.f, steepleref25_shifts.f, steepleref25_Makes.f, gErr, g0, g1, e0, e1, e2, v1, v2, v3]
  all_goals clear g0 g1 e0 e1 e2 v1 v2 v3
  all_goals grind
theorem refGate106 (m : Nat) (wide rows cols pub priv : Int) (l : List S106) (g : S105) (n : Int) (hw : 0 ≤ wide) (hw5 : wide ≤ 5) (hc : 0 ≤ cols) (hc6 : cols ≤ 6) (hn : 0 ≤ n) (hn2 : n ≤ 64) :
    steepleref25_System_Gate.f (m + 20) wide rows cols pub priv l (toG g).f0 (toG g).f1 (toG g).f2 (toG g).f3 (toG g).f4 n = some (gErr wide cols g n) := refGate m wide rows cols pub priv l g n hw hw5 hc hc6 hn hn2
theorem refMakes (g : S105) : steepleref25_Makes.f (toG g).f0 (toG g).f1 (toG g).f2 (toG g).f3 (toG g).f4 = some (makes g.f0) := by
  unfold steepleref25_Makes.f makes toG; grind
theorem refLoop (wide rows cols pub priv : Int) (l : List S105) (hw : 0 ≤ wide) (hw5 : wide ≤ 5) (hc : 0 ≤ cols) (hc6 : cols ≤ 6) (hl : l.length ≤ 1000) (d : Nat) : ∀ (k i : Nat) (n : Int), l.length - i = d → i ≤ l.length → d + 30 < k → 0 ≤ n → n ≤ p2 cols →
    steepleref25_Check.l0 k n (i : Int) wide rows cols pub priv (l.map toG) = some (walk wide cols (l.drop i) n).2 := by
  have hb := p2_bound hc hc6
  induction d with
  | zero =>
    intro k i n hd hi hk hn hn2
    obtain ⟨k, rfl⟩ : ∃ m, k = m + 1 := ⟨k - 1, by omega⟩
    simp only [steepleref25_Check.l0, List.length_map]
    rw [if_neg (by omega), List.drop_of_length_le (by omega)]
    rfl
  | succ d ih =>
    intro k i n hd hi hk hn hn2
    obtain ⟨k, rfl⟩ : ∃ m, k = m + 1 := ⟨k - 1, by omega⟩
    obtain ⟨m, hm⟩ : ∃ m, k = m + 20 := ⟨k - 20, by omega⟩
    have hlt : i < l.length := by omega
    have hr : rd_T106 (l.map toG) (i : Int) = toG l[i] := by rw [rd106 _ i (by simpa using hlt)]; simp
    have hG := refGate106 m wide rows cols pub priv (l.map toG) l[i] n hw hw5 hc hc6 hn (by omega)
    rw [← hm] at hG
    simp only [steepleref25_Check.l0, List.length_map]
    rw [if_pos (by omega), if_pos (by omega), hr, hG]
    rw [List.drop_eq_getElem_cons hlt]
    simp only [Option.bind_some, walk, refMakes]
    by_cases he : gErr wide cols l[i] n = 0
    · have h3 := gErr_ok he
      have h4 := makes_nonneg l[i].f0
      simp only [he, if_true]
      rw [w64 (x := n + makes l[i].f0) (by omega) (by omega), w64 (by omega) (by omega)]
      exact ih k (i + 1) _ (by omega) (by omega) (by omega) (by omega) (by omega)
    · simp only [he, if_false]
theorem refCheck (m : Nat) (wide rows cols pub priv : Int) (l : List S105) (hl : l.length ≤ 40) : steepleref25_Check.f (m + 100) wide rows cols pub priv (l.map toG) = some (lookS wide rows cols pub priv l).2 := by
  unfold lookS
  by_cases h1 : wide < 0 ∨ 5 < wide ∨ rows < 0 ∨ 4 < rows ∨ cols < 0 ∨ 6 < cols
  · rw [if_pos h1]
    simp only [steepleref25_Check.f, steepleref25_Check.j0]
    grind
  · rw [if_neg h1]
    have hc : 0 ≤ cols := by omega
    have hc6 : cols ≤ 6 := by omega
    have g0 : steepleref15_Two.f (m + 99) cols = some (p2 cols) := two_p2 (m + 90) hc hc6
    have hb := p2_bound hc hc6
    by_cases hp : pub < 0 ∨ priv < 0
    · rw [if_pos (by omega)]
      simp only [steepleref25_Check.f]
      rw [if_neg (by omega), if_neg (by omega), if_neg (by omega), if_neg (by omega), if_neg (by omega), if_neg (by omega)]
      by_cases a1 : pub < 0
      · rw [if_pos a1]; simp [steepleref25_Check.j0]
      · have a2 : priv < 0 := by omega
        rw [if_neg a1]; simp [steepleref25_Check.j0, a2]
    · have hj : steepleref25_Check.f (m + 100) wide rows cols pub priv (l.map toG) = steepleref25_Check.j0 (m + 100) false wide rows cols pub priv (l.map toG) := by
        simp only [steepleref25_Check.f]
        rw [if_neg (by omega), if_neg (by omega), if_neg (by omega), if_neg (by omega), if_neg (by omega), if_neg (by omega), if_neg (by omega)]
        congr 1
        simp; omega
      rw [hj]
      simp only [steepleref25_Check.j0, g0, Option.bind_some, Bool.false_eq_true, if_false]
      by_cases b1 : pub > 64
      · rw [if_pos b1, if_pos (by omega)]; simp [steepleref25_Check.j1]
      · by_cases b2 : priv > 64
        · rw [if_neg b1, if_pos b2, if_pos (by omega)]; simp [steepleref25_Check.j1]
        · rw [if_neg b1, if_neg b2]
          have e2 : wrap64 (pub + priv) = pub + priv := w64 (by omega) (by omega)
          rw [e2]
          by_cases b3 : pub + priv > p2 cols
          · rw [if_pos (by omega)]; simp [steepleref25_Check.j1, b3]
          · rw [if_neg (by omega)]
            simp only [b3, decide_false, steepleref25_Check.j1, Bool.false_eq_true, if_false, List.length_map, e2]
            by_cases h3 : 30 < l.length
            · rw [if_pos (by omega), if_pos h3]
            · rw [if_neg (by omega), if_neg h3]
              exact refLoop wide rows cols pub priv l (by omega) (by omega) hc hc6 (by omega) l.length _ 0 (pub + priv) (by omega) (by omega) (by omega) (by omega) (by omega)
end Go.Proofs.Ythiiodgpdoljoaa.Bit
namespace Go.Proofs.Ythiiodgpdoljoaa.Bit
open Go.RowKit Go.Proofs.Ythiiodgpdoljoaa.PLw Go.Proofs.YthiiodgpdoljoaaW.PrintWords Go.Proofs.YthiiodgpdoljoaaW.PrintLast
set_option linter.unusedVariables false
set_option linter.unusedSimpArgs false
theorem walk_kinds {wide cols : Int} : ∀ (l : List S105) (n : Int), (walk wide cols l n).2 = 0 → ∀ g ∈ l, 1 ≤ g.f0 ∧ g.f0 ≤ 8
  | [], n, h => by simp
  | g :: gs, n, h => by
    unfold walk at h
    by_cases he : gErr wide cols g n = 0
    · simp only [he, if_true] at h
      have := gErr_ok he
      intro g' hg'
      rcases List.mem_cons.mp hg' with rfl | hg'
      · exact ⟨this.1, this.2.1⟩
      · exact walk_kinds gs _ h g' hg'
    · simp only [he, if_false] at h
theorem walk_le {wide cols : Int} : ∀ (l : List S105) (n : Int), n ≤ p2 cols → (walk wide cols l n).2 = 0 → (walk wide cols l n).1 ≤ p2 cols
  | [], n, h, _ => h
  | g :: gs, n, h, he => by
    unfold walk at he ⊢
    by_cases hg : gErr wide cols g n = 0
    · simp only [hg, if_true] at he ⊢
      exact walk_le gs _ (gErr_ok hg).2.2 he
    · simp only [hg, if_false] at he
end Go.Proofs.Ythiiodgpdoljoaa.Bit
namespace Go.Proofs.Ythiiodgpdoljoaa.Bit
open Go Go.RowKit Go.Proofs.Ythiiodgpdoljoaa.PLw Go.Proofs.YthiiodgpdoljoaaW.PrintWords Go.Proofs.YthiiodgpdoljoaaW.PrintLast Go.Proofs.YthiiodgpdoljoaaW.PrintMore
set_option linter.unusedVariables false
set_option linter.unusedSimpArgs false
theorem evFuel {α : Type} {g : Nat → Option α} {r : α} (n : Nat) (h : ∀ m, g (m + n) = some r) : Ev g r :=
  ⟨n, fun k hk => by obtain ⟨m, rfl⟩ := Nat.exists_eq_add_of_le' hk; exact h m⟩
theorem evBig {α : Type} {g : Nat → Option α} {r : α} (n : Nat) (h : ∀ m, n ≤ m → g m = some r) : Ev g r := ⟨n, h⟩
/-- A step of several rounds at once. -/
theorem evDown {α : Type} {g f : Nat → Option α} {r : α} (n : Nat) (h : ∀ k, g (k + n) = f k) (k : Ev f r) : Ev g r := by
  obtain ⟨K, hK⟩ := k
  refine ⟨K + n, fun k hk => ?_⟩
  obtain ⟨m, rfl⟩ := Nat.exists_eq_add_of_le' (show n ≤ k by omega)
  rw [h m]
  exact hK m (by omega)
end Go.Proofs.Ythiiodgpdoljoaa.Bit
