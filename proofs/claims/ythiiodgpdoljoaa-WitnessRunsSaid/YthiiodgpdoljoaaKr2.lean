import Derived.Test.YthiiodgpdoljoaaKr1
import Derived.Test.YthiiodgpdoljoaaKr0
-- Words and walks that the kit's print has laid for this seat, cut down, and our own texts, merged.
namespace Go.Proofs.Ythiiodgpdoljoaa.PLw
open Go.RowKit Go.Proofs.YthiiodgpdoljoaaW.PrintWords Go.Proofs.YthiiodgpdoljoaaW.PrintLast Go.Proofs.YthiiodgpdoljoaaW.PrintMore
attribute [local go_sem] max2_int min2_int max_two min_two max_three min_three max_four min_four   -- for this text's walks alone
set_option linter.unusedVariables false
set_option linter.unusedSimpArgs false
/-! ### circuit_look: function 64 -/
mutual
def circuit_look.j0 : Nat → Bool → Int → Int → Int → Int → Int → List (S105) → Option (Int × Int)
 | 0, _, _, _, _, _, _, _ => none
 | k + 1, x9, x147000, x147001, x147002, x147003, x147004, x147005 => if x9 = true then (some (0, 1)) else (if x147003 < 0 then (circuit_look.j1 k true x147000 x147001 x147002 x147003 x147004 x147005) else (if x147004 < 0 then (circuit_look.j1 k true x147000 x147001 x147002 x147003 x147004 x147005) else (if 0 ≤ x147002 then (if x147003 > (shl .i64 1 x147002) then (circuit_look.j1 k true x147000 x147001 x147002 x147003 x147004 x147005) else (circuit_look.j1 k (decide (x147004 > (wrap64 ((shl .i64 1 x147002) - x147003)))) x147000 x147001 x147002 x147003 x147004 x147005)) else (none))))
def circuit_look.j1 : Nat → Bool → Int → Int → Int → Int → Int → List (S105) → Option (Int × Int)
 | 0, _, _, _, _, _, _, _ => none
 | k + 1, x38, x147000, x147001, x147002, x147003, x147004, x147005 => if x38 = true then (some (0, 1)) else (if (x147005.length : Int) > 30 then (some (0, 2)) else (circuit_look.l0 k (wrap64 (x147003 + x147004)) x147005 (x147005.length : Int) 0 x147000 x147001 x147002 x147003 x147004 x147005))
def circuit_look.l0 : Nat → Int → List (S105) → Int → Int → Int → Int → Int → Int → Int → List (S105) → Option (Int × Int)
 | 0, _, _, _, _, _, _, _, _, _, _ => none
 | k + 1, x4, x77, x78, x79, x147000, x147001, x147002, x147003, x147004, x147005 => if x79 < x78 then (if 0 ≤ x79 then (if x79 < (x77.length : Int) then ((circuit_gate.f k x147000 x147001 x147002 x147003 x147004 x147005 ((rd_T105 x77 x79).f0) ((rd_T105 x77 x79).f1) ((rd_T105 x77 x79).f2) ((rd_T105 x77 x79).f3) ((rd_T105 x77 x79).f4) x4).bind fun bt149 => (if bt149.2 = 0 then (circuit_look.l0 k bt149.1 x77 x78 (wrap64 (x79 + 1)) x147000 x147001 x147002 x147003 x147004 x147005) else (some (0, bt149.2)))) else (none)) else (none)) else (some (x4, 0))
end
def circuit_look.f (k : Nat) (a0_0 : Int) (a0_1 : Int) (a0_2 : Int) (a0_3 : Int) (a0_4 : Int) (l0_5 : List (S105)) : Option (Int × Int) := if a0_0 < 0 then (circuit_look.j0 k true a0_0 a0_1 a0_2 a0_3 a0_4 l0_5) else (if a0_0 > 5 then (circuit_look.j0 k true a0_0 a0_1 a0_2 a0_3 a0_4 l0_5) else (if a0_1 < 0 then (circuit_look.j0 k true a0_0 a0_1 a0_2 a0_3 a0_4 l0_5) else (if a0_1 > 4 then (circuit_look.j0 k true a0_0 a0_1 a0_2 a0_3 a0_4 l0_5) else (if a0_2 < 0 then (circuit_look.j0 k true a0_0 a0_1 a0_2 a0_3 a0_4 l0_5) else (circuit_look.j0 k (decide (a0_2 > 6)) a0_0 a0_1 a0_2 a0_3 a0_4 l0_5)))))
theorem circuit_look.mono_l : ∀ k, (∀ y0 y1 y2 y3 y4 y5 y6, LeO (circuit_look.j0 k y0 y1 y2 y3 y4 y5 y6) (circuit_look.j0 (k + 1) y0 y1 y2 y3 y4 y5 y6)) ∧ (∀ y0 y1 y2 y3 y4 y5 y6, LeO (circuit_look.j1 k y0 y1 y2 y3 y4 y5 y6) (circuit_look.j1 (k + 1) y0 y1 y2 y3 y4 y5 y6)) ∧ (∀ y0 y1 y2 y3 y4 y5 y6 y7 y8 y9, LeO (circuit_look.l0 k y0 y1 y2 y3 y4 y5 y6 y7 y8 y9) (circuit_look.l0 (k + 1) y0 y1 y2 y3 y4 y5 y6 y7 y8 y9))
 | 0 => ⟨fun _ _ _ _ _ _ _ r h => by simp [circuit_look.j0] at h, fun _ _ _ _ _ _ _ r h => by simp [circuit_look.j1] at h, fun _ _ _ _ _ _ _ _ _ _ r h => by simp [circuit_look.l0] at h⟩
 | k + 1 => by
  obtain ⟨ih0, ih1, ih2⟩ := circuit_look.mono_l k
  refine ⟨?_, ?_, ?_⟩
  ·intro y0 y1 y2 y3 y4 y5 y6
   unfold circuit_look.j0
   repeat' first
   | (with_reducible exact ih0 _ _ _ _ _ _ _)
   | (with_reducible exact ih1 _ _ _ _ _ _ _)
   | (with_reducible exact ih2 _ _ _ _ _ _ _ _ _ _)
   | (with_reducible exact circuit_gate.mono _ _ _ _ _ _ _ _ _ _ _ _ _)
   | (with_reducible exact LeO.refl _)
   | (with_reducible exact LeO.none _)
   | (with_reducible refine LeO.ite ?_ ?_)
   | (with_reducible refine LeO.bind ?_ (fun _ => ?_))
   | exact ih0 _ _ _ _ _ _ _
   | exact ih1 _ _ _ _ _ _ _
   | exact ih2 _ _ _ _ _ _ _ _ _ _
   | exact circuit_gate.mono _ _ _ _ _ _ _ _ _ _ _ _ _
   | exact LeO.none _
   | refine LeO.ite ?_ ?_
   | refine LeO.bind ?_ (fun _ => ?_)
  ·intro y0 y1 y2 y3 y4 y5 y6
   unfold circuit_look.j1
   repeat' first
   | (with_reducible exact ih0 _ _ _ _ _ _ _)
   | (with_reducible exact ih1 _ _ _ _ _ _ _)
   | (with_reducible exact ih2 _ _ _ _ _ _ _ _ _ _)
   | (with_reducible exact circuit_gate.mono _ _ _ _ _ _ _ _ _ _ _ _ _)
   | (with_reducible exact LeO.refl _)
   | (with_reducible exact LeO.none _)
   | (with_reducible refine LeO.ite ?_ ?_)
   | (with_reducible refine LeO.bind ?_ (fun _ => ?_))
   | exact ih0 _ _ _ _ _ _ _
   | exact ih1 _ _ _ _ _ _ _
   | exact ih2 _ _ _ _ _ _ _ _ _ _
   | exact circuit_gate.mono _ _ _ _ _ _ _ _ _ _ _ _ _
   | exact LeO.none _
   | refine LeO.ite ?_ ?_
   | refine LeO.bind ?_ (fun _ => ?_)
  ·intro y0 y1 y2 y3 y4 y5 y6 y7 y8 y9
   unfold circuit_look.l0
   repeat' first
   | (with_reducible exact ih0 _ _ _ _ _ _ _)
   | (with_reducible exact ih1 _ _ _ _ _ _ _)
   | (with_reducible exact ih2 _ _ _ _ _ _ _ _ _ _)
   | (with_reducible exact circuit_gate.mono _ _ _ _ _ _ _ _ _ _ _ _ _)
   | (with_reducible exact LeO.refl _)
   | (with_reducible exact LeO.none _)
   | (with_reducible refine LeO.ite ?_ ?_)
   | (with_reducible refine LeO.bind ?_ (fun _ => ?_))
   | exact ih0 _ _ _ _ _ _ _
   | exact ih1 _ _ _ _ _ _ _
   | exact ih2 _ _ _ _ _ _ _ _ _ _
   | exact circuit_gate.mono _ _ _ _ _ _ _ _ _ _ _ _ _
   | exact LeO.none _
   | refine LeO.ite ?_ ?_
   | refine LeO.bind ?_ (fun _ => ?_)
theorem circuit_look.mono : ∀ a0 a1 a2 a3 a4 a5 k, LeO (circuit_look.f k a0 a1 a2 a3 a4 a5) (circuit_look.f (k + 1) a0 a1 a2 a3 a4 a5) := by
 intro a0 a1 a2 a3 a4 a5 k
 obtain ⟨ih0, ih1, ih2⟩ := circuit_look.mono_l k
 unfold circuit_look.f
 repeat' first
   | (with_reducible exact ih0 _ _ _ _ _ _ _)
   | (with_reducible exact ih1 _ _ _ _ _ _ _)
   | (with_reducible exact ih2 _ _ _ _ _ _ _ _ _ _)
   | (with_reducible exact circuit_gate.mono _ _ _ _ _ _ _ _ _ _ _ _ _)
   | (with_reducible exact LeO.refl _)
   | (with_reducible exact LeO.none _)
   | (with_reducible refine LeO.ite ?_ ?_)
   | (with_reducible refine LeO.bind ?_ (fun _ => ?_))
   | exact ih0 _ _ _ _ _ _ _
   | exact ih1 _ _ _ _ _ _ _
   | exact ih2 _ _ _ _ _ _ _ _ _ _
   | exact circuit_gate.mono _ _ _ _ _ _ _ _ _ _ _ _ _
   | exact LeO.none _
   | refine LeO.ite ?_ ?_
   | refine LeO.bind ?_ (fun _ => ?_)
set_option maxHeartbeats 8000000 in
set_option maxRecDepth 100000 in
theorem circuit_look.calls (k : Nat) (a0_0 : Int) (a0_1 : Int) (a0_2 : Int) (a0_3 : Int) (a0_4 : Int) (A0_5 : Option Addr) (c0_5 : Nat) (l0_5 : List (S105)) (r1 : Int) (r2 : Int) (w : World) (hr0_5 : Kd.C k105 w A0_5 l0_5.length l0_5) (hc0_5 : l0_5.length ≤ c0_5) (h : circuit_look.f k a0_0 a0_1 a0_2 a0_3 a0_4 l0_5 = some (r1, r2)) :
  Calls Try.prog 64 #[.agg #[.int .i64 a0_0, .int .i64 a0_1, .int .i64 a0_2, .int .i64 a0_3, .int .i64 a0_4, .slice A0_5 l0_5.length c0_5]] w fun e w' => e = .returned (.tuple #[.int .i64 r1, .int .i64 r2]) ∧ Below w.heap.size w w' := by
 have hu24 := Try.underlying24; have hu105 := Try.underlying105; have HR0_5 := Aside0.mk hr0_5; have HC0_5 := Aside0.mk hc0_5; clear hr0_5 hc0_5; have HB := Aside0.mk (Below.refl w.heap.size w)
 have H : (if a0_0 < 0 then (circuit_look.j0 k true a0_0 a0_1 a0_2 a0_3 a0_4 l0_5) else (if a0_0 > 5 then (circuit_look.j0 k true a0_0 a0_1 a0_2 a0_3 a0_4 l0_5) else (if a0_1 < 0 then (circuit_look.j0 k true a0_0 a0_1 a0_2 a0_3 a0_4 l0_5) else (if a0_1 > 4 then (circuit_look.j0 k true a0_0 a0_1 a0_2 a0_3 a0_4 l0_5) else (if a0_2 < 0 then (circuit_look.j0 k true a0_0 a0_1 a0_2 a0_3 a0_4 l0_5) else (circuit_look.j0 k (decide (a0_2 > 6)) a0_0 a0_1 a0_2 a0_3 a0_4 l0_5)))))) = some (r1, r2) := h
 clear h; have HC2 := Aside0.mk H; clear H
 go_enter Try.func64, Try.ntmps64
 go_upto_region 1 with (first | ((with_reducible refine gate_dst (N := 1) rfl ?_); refine box_event ?hg (N := 1) ?hd (cs := #[.int .i64 a0_0, .int .i64 a0_1, .int .i64 a0_2, .int .i64 a0_3, .int .i64 a0_4, .slice A0_5 l0_5.length c0_5]) (t := 24) ?hr ?_; (case hd => rfl); (case hg => rfl); (case hr => first | (go_simp; done) | (go_simp; rfl)); intro gb146 hg w3 hbox hb; have n0_ := Aside0.mk (below_step (blA HB.out) hb); have n1_ := Aside0.mk (hbox); have n2_ := Aside0.mk ((by rw [hg]; exact (below_size (blA HB.out)) : w.heap.size ≤ gb146)); have n3_ := Aside0.mk ((by rw [hg]; exact (below_size (blA HB.out)) : w.heap.size ≤ gb146)); clear HB; have HB := n0_; have BK146 := n1_; have GW146 := n2_; have GE146 := n3_; clear n0_ n1_ n2_ n3_; clear hb hbox hg))
 repeat (go_quiet (first | ((with_reducible refine gate_dst (N := 1) rfl ?_); refine box_event ?hg (N := 1) ?hd (cs := #[.int .i64 a0_0, .int .i64 a0_1, .int .i64 a0_2, .int .i64 a0_3, .int .i64 a0_4, .slice A0_5 l0_5.length c0_5]) (t := 24) ?hr ?_; (case hd => rfl); (case hg => rfl); (case hr => first | (go_simp; done) | (go_simp; rfl)); intro gb146 hg w3 hbox hb; have n0_ := Aside0.mk (below_step (blA HB.out) hb); have n1_ := Aside0.mk (hbox); have n2_ := Aside0.mk ((by rw [hg]; exact (below_size (blA HB.out)) : w.heap.size ≤ gb146)); have n3_ := Aside0.mk ((by rw [hg]; exact (below_size (blA HB.out)) : w.heap.size ≤ gb146)); clear HB; have HB := n0_; have BK146 := n1_; have GW146 := n2_; have GE146 := n3_; clear n0_ n1_ n2_ n3_; clear hb hbox hg)); go_upto_region 1 with (first | ((with_reducible refine gate_dst (N := 1) rfl ?_); refine box_event ?hg (N := 1) ?hd (cs := #[.int .i64 a0_0, .int .i64 a0_1, .int .i64 a0_2, .int .i64 a0_3, .int .i64 a0_4, .slice A0_5 l0_5.length c0_5]) (t := 24) ?hr ?_; (case hd => rfl); (case hg => rfl); (case hr => first | (go_simp; done) | (go_simp; rfl)); intro gb146 hg w3 hbox hb; have n0_ := Aside0.mk (below_step (blA HB.out) hb); have n1_ := Aside0.mk (hbox); have n2_ := Aside0.mk ((by rw [hg]; exact (below_size (blA HB.out)) : w.heap.size ≤ gb146)); have n3_ := Aside0.mk ((by rw [hg]; exact (below_size (blA HB.out)) : w.heap.size ≤ gb146)); clear HB; have HB := n0_; have BK146 := n1_; have GW146 := n2_; have GE146 := n3_; clear n0_ n1_ n2_ n3_; clear hb hbox hg)))
 (try simp only [Act.put, List.setIfInBounds_toArray, List.set_cons_zero, List.set_cons_succ])
 go_cut [9] (fun v9 wc => ∃ (kq : Nat) (x9_1 : Bool), v9 = .bool x9_1 ∧ Aside0 (circuit_look.j0 kq x9_1 a0_0 a0_1 a0_2 a0_3 a0_4 l0_5 = some (r1, r2)) ∧ Aside0 (kq ≤ k) ∧ Aside0 (wc.heap[gb146]? = some (.cells #[.int .i64 a0_0, .int .i64 a0_1, .int .i64 a0_2, .int .i64 a0_3, .int .i64 a0_4, (.slice A0_5 l0_5.length c0_5)] 24 (0, 0))) ∧ Aside0 (Below w.heap.size w wc))
 case first =>
  have H := HC2.out; clear HC2
  by_cases c4 : a0_0 < 0
  ·rw [if_pos c4] at H
   have c4b0 : decide (a0_0 < 0) = true := decide_eq_true c4; clear c4
   (first | rw [c4b0] | (simp only [i64_w, i32_w]; rw [c4b0]) | skip)
   have H' := Aside0.mk H; clear H
   have hcz5 := fun i => blk_cell BK146.out i
   have hfz5 := fun i => blk_frozen BK146.out i
   go_wp2
   repeat (go_quiet (fail); try go_wp2)
   go_meet
   case rel => exact ⟨_, (true), eqA, H', ⟨omA⟩, ⟨bkA BK146.out⟩, ⟨blA HB.out⟩⟩
  ·rw [if_neg c4] at H
   have c4b0 : decide (a0_0 < 0) = false := decide_eq_false c4; clear c4
   (first | rw [c4b0] | (simp only [i64_w, i32_w]; rw [c4b0]) | skip)
   by_cases c6 : a0_0 > 5
   ·rw [if_pos c6] at H
    have c6b0 : decide (5 < a0_0) = true := decide_eq_true c6; clear c6; have H' := Aside0.mk H; clear H
    have hcz7 := fun i => blk_cell BK146.out i
    have hfz7 := fun i => blk_frozen BK146.out i
    go_wp2
    repeat (go_quiet (fail); try go_wp2)
    go_meet
    case rel => exact ⟨_, (true), eqA, H', ⟨omA⟩, ⟨bkA BK146.out⟩, ⟨blA HB.out⟩⟩
   ·rw [if_neg c6] at H
    have c6b0 : decide (5 < a0_0) = false := decide_eq_false c6; clear c6
    by_cases c8 : a0_1 < 0
    ·rw [if_pos c8] at H
     have c8b0 : decide (a0_1 < 0) = true := decide_eq_true c8; clear c8; have H' := Aside0.mk H; clear H
     have hcz9 := fun i => blk_cell BK146.out i
     have hfz9 := fun i => blk_frozen BK146.out i
     go_wp2
     repeat (go_quiet (fail); try go_wp2)
     go_meet
     case rel => exact ⟨_, (true), eqA, H', ⟨omA⟩, ⟨bkA BK146.out⟩, ⟨blA HB.out⟩⟩
    ·rw [if_neg c8] at H
     have c8b0 : decide (a0_1 < 0) = false := decide_eq_false c8; clear c8
     by_cases c10 : a0_1 > 4
     ·rw [if_pos c10] at H
      have c10b0 : decide (4 < a0_1) = true := decide_eq_true c10; clear c10; have H' := Aside0.mk H; clear H
      have hcz11 := fun i => blk_cell BK146.out i
      have hfz11 := fun i => blk_frozen BK146.out i
      go_wp2
      repeat (go_quiet (fail); try go_wp2)
      go_meet
      case rel => exact ⟨_, (true), eqA, H', ⟨omA⟩, ⟨bkA BK146.out⟩, ⟨blA HB.out⟩⟩
     ·rw [if_neg c10] at H
      have c10b0 : decide (4 < a0_1) = false := decide_eq_false c10; clear c10
      by_cases c12 : a0_2 < 0
      ·rw [if_pos c12] at H
       have c12b0 : decide (a0_2 < 0) = true := decide_eq_true c12; clear c12; have H' := Aside0.mk H; clear H
       have hcz13 := fun i => blk_cell BK146.out i
       have hfz13 := fun i => blk_frozen BK146.out i
       go_wp2
       repeat (go_quiet (fail); try go_wp2)
       go_meet
       case rel => exact ⟨_, (true), eqA, H', ⟨omA⟩, ⟨bkA BK146.out⟩, ⟨blA HB.out⟩⟩
      ·rw [if_neg c12] at H
       have c12b0 : decide (a0_2 < 0) = false := decide_eq_false c12; clear c12; have H' := Aside0.mk H; clear H
       have hcz14 := fun i => blk_cell BK146.out i
       have hfz14 := fun i => blk_frozen BK146.out i
       go_wp2
       repeat (go_quiet (fail); try go_wp2)
       go_meet
       case rel => exact ⟨_, (decide (a0_2 > 6)), eqA, H', ⟨omA⟩, ⟨bkA BK146.out⟩, ⟨blA HB.out⟩⟩
 case rest =>
  clear HC2; (try clear c1); (try clear p2); (try clear c4); (try clear c4b0); (try clear c6); (try clear c6b0); (try clear c8); (try clear c8b0); (try clear c10); (try clear c10b0); (try clear c12); (try clear c12b0); (try clear hcz11); (try clear hcz13); (try clear hcz14); (try clear hcz5); (try clear hcz7); (try clear hcz9); (try clear hfz11); (try clear hfz13); (try clear hfz14); (try clear hfz5); (try clear hfz7); (try clear hfz9); obtain ⟨kq, x9_1, rfl, HA, HJ1, BK146, HB⟩ := hcut
  cases kq with
  | zero => exact absurd HA.out (by simp [circuit_look.j0])
  | succ kj1 =>
   have H := HA.out; clear HA
   simp only [circuit_look.j0] at H
   by_cases c15 : x9_1 = true
   ·subst c15
    have H1 : (some (0, 1)) = some (r1, r2) := by rw [if_pos rfl] at H; exact H
    clear H; have H := H1; clear H1
    simp only [Option.some.injEq, Prod.mk.injEq] at H
    obtain ⟨rfl, rfl⟩ := H
    go_wp2
    repeat (go_quiet (fail); try go_wp2)
    go_ret2
    exact ⟨by first | rfl | (simp [errW_none, errW_some] <;> rfl) | (simp [*, errW_none, errW_some] <;> rfl), blA HB.out⟩
   ·replace c15 := Bool.eq_false_iff.mpr c15; subst c15
    have H1 : (if a0_3 < 0 then (circuit_look.j1 kj1 true a0_0 a0_1 a0_2 a0_3 a0_4 l0_5) else (if a0_4 < 0 then (circuit_look.j1 kj1 true a0_0 a0_1 a0_2 a0_3 a0_4 l0_5) else (if 0 ≤ a0_2 then (if a0_3 > (shl .i64 1 a0_2) then (circuit_look.j1 kj1 true a0_0 a0_1 a0_2 a0_3 a0_4 l0_5) else (circuit_look.j1 kj1 (decide (a0_4 > (wrap64 ((shl .i64 1 a0_2) - a0_3)))) a0_0 a0_1 a0_2 a0_3 a0_4 l0_5)) else (none)))) = some (r1, r2) := by rw [if_neg (show ¬ (false = true) by decide)] at H; exact H
    clear H; have H := H1; clear H1; have HC16 := Aside0.mk H; clear H
    go_upto_region 3 with (fail)
    repeat (go_quiet (fail); go_upto_region 3 with (fail))
    go_cut [38] (fun v38 wc => ∃ (kq : Nat) (x38_15 : Bool), v38 = .bool x38_15 ∧ Aside0 (circuit_look.j1 kq x38_15 a0_0 a0_1 a0_2 a0_3 a0_4 l0_5 = some (r1, r2)) ∧ Aside0 (kq ≤ kj1) ∧ Aside0 (wc.heap[gb146]? = some (.cells #[.int .i64 a0_0, .int .i64 a0_1, .int .i64 a0_2, .int .i64 a0_3, .int .i64 a0_4, (.slice A0_5 l0_5.length c0_5)] 24 (0, 0))) ∧ Aside0 (Below w.heap.size w wc))
    case first =>
     have H := HC16.out; clear HC16
     by_cases c17 : a0_3 < 0
     ·rw [if_pos c17] at H
      have c17b0 : decide (a0_3 < 0) = true := decide_eq_true c17; clear c17
      (first | rw [c17b0] | (simp only [i64_w, i32_w]; rw [c17b0]) | skip)
      have H' := Aside0.mk H; clear H
      have hcz18 := fun i => blk_cell BK146.out i
      have hfz18 := fun i => blk_frozen BK146.out i
      go_wp2
      repeat (go_quiet (fail); try go_wp2)
      go_meet
      case rel => exact ⟨_, (true), eqA, H', ⟨by have := HJ1.out; first | omega | exact Nat.le_refl _⟩, ⟨bkA BK146.out⟩, ⟨blA HB.out⟩⟩
     ·rw [if_neg c17] at H
      have c17b0 : decide (a0_3 < 0) = false := decide_eq_false c17; clear c17
      (first | rw [c17b0] | (simp only [i64_w, i32_w]; rw [c17b0]) | skip)
      by_cases c19 : a0_4 < 0
      ·rw [if_pos c19] at H
       have c19b0 : decide (a0_4 < 0) = true := decide_eq_true c19; clear c19; have H' := Aside0.mk H; clear H
       have hcz20 := fun i => blk_cell BK146.out i
       have hfz20 := fun i => blk_frozen BK146.out i
       go_wp2
       repeat (go_quiet (fail); try go_wp2)
       go_meet
       case rel => exact ⟨_, (true), eqA, H', ⟨by have := HJ1.out; first | omega | exact Nat.le_refl _⟩, ⟨bkA BK146.out⟩, ⟨blA HB.out⟩⟩
      ·rw [if_neg c19] at H
       have c19b0 : decide (a0_4 < 0) = false := decide_eq_false c19; clear c19
       by_cases c21 : 0 ≤ a0_2
       ·rw [if_pos c21] at H
        have c21b0 := eq_true c21; have c21b1 : decide (0 ≤ a0_2) = true := decide_eq_true c21; clear c21
        obtain ⟨ji22, hji22⟩ : ∃ j_ : Int, (shl .i64 1 a0_2) = j_ := ⟨_, rfl⟩
        replace H : (if a0_3 > (ji22) then (circuit_look.j1 kj1 true a0_0 a0_1 a0_2 a0_3 a0_4 l0_5) else (circuit_look.j1 kj1 (decide (a0_4 > (wrap64 ((ji22) - a0_3)))) a0_0 a0_1 a0_2 a0_3 a0_4 l0_5)) = some (r1, r2) := by first | (rw [hji22] at H; exact H) | (simp only [hji22] at H ⊢; exact H)
        have hji22_ : (IntKind.i64.wrap (1 * 2 ^ min a0_2.toNat 64)) = ji22 := hji22; have hji22z : a0_2 ≤ 64 → (IntKind.i64.wrap (1 * 2 ^ a0_2.toNat)) = ji22 := shl_small hji22
        have hji22u : (IntKind.i64.wrap (2 ^ min a0_2.toNat 64)) = ji22 := by have h_ := hji22_; rw [Int.one_mul] at h_; exact h_
        have hji22v : a0_2 ≤ 64 → (IntKind.i64.wrap (2 ^ a0_2.toNat)) = ji22 := fun hle_ => by have h_ := hji22z hle_; rw [Int.one_mul] at h_; exact h_
        have hji22y : (wrap64 (1 * 2 ^ min a0_2.toNat 64)) = ji22 := (i64_w _).symm.trans hji22_
        have hji22x : a0_2 ≤ 64 → (wrap64 (1 * 2 ^ a0_2.toNat)) = ji22 := fun h_ => (i64_w _).symm.trans (hji22z h_)
        by_cases c23 : a0_3 > (ji22)
        ·rw [if_pos c23] at H
         have c23b0 : decide ((ji22) < a0_3) = true := decide_eq_true c23; clear c23; have H' := Aside0.mk H; clear H
         have hcz24 := fun i => blk_cell BK146.out i
         have hfz24 := fun i => blk_frozen BK146.out i
         go_wp2
         repeat (go_quiet (fail); try go_wp2)
         go_meet
         case rel => exact ⟨_, (true), eqA, H', ⟨by have := HJ1.out; first | omega | exact Nat.le_refl _⟩, ⟨bkA BK146.out⟩, ⟨blA HB.out⟩⟩
        ·rw [if_neg c23] at H
         have c23b0 : decide ((ji22) < a0_3) = false := decide_eq_false c23; clear c23
         have c25b0 := eq_true (of_decide_eq_true (by first | (with_reducible assumption) | assumption) : 0 ≤ a0_2)
         have H' := Aside0.mk H; clear H
         have hcz26 := fun i => blk_cell BK146.out i
         have hfz26 := fun i => blk_frozen BK146.out i
         go_wp2
         repeat (go_quiet (fail); try go_wp2)
         go_meet
         case rel => exact ⟨_, (decide (a0_4 > (wrap64 ((ji22) - a0_3)))), (by first | rfl | (simp; done) | (simp only [← hji22] <;> (first | rfl | simp)) | (simp [*]; done)), H', ⟨by have := HJ1.out; first | omega | exact Nat.le_refl _⟩, ⟨bkA BK146.out⟩, ⟨blA HB.out⟩⟩
       ·rw [if_neg c21] at H
        exact absurd H (by simp)
    case rest =>
     clear HC16; (try clear c1); (try clear c2); (try clear p2); (try clear c4); (try clear c4b0); (try clear c6); (try clear c6b0); (try clear p6); (try clear c8); (try clear c8b0); (try clear c10); (try clear c10b0); (try clear c12); (try clear c12b0); (try clear c15); (try clear c17); (try clear c17b0); (try clear c19); (try clear c19b0); (try clear c21); (try clear c21b0); (try clear c21b1); (try clear c23); (try clear c23b0); (try clear c25); (try clear c25b0); (try clear hcz11); (try clear hcz13); (try clear hcz14); (try clear hcz18); (try clear hcz20); (try clear hcz24); (try clear hcz26); (try clear hcz5); (try clear hcz7); (try clear hcz9); (try clear hfz11); (try clear hfz13); (try clear hfz14); (try clear hfz18); (try clear hfz20); (try clear hfz24); (try clear hfz26); (try clear hfz5); (try clear hfz7); (try clear hfz9); (try clear p2); obtain ⟨kq, x38_15, rfl, HA, HJ15, BK146, HB⟩ := hcut
     cases kq with
     | zero => exact absurd HA.out (by simp [circuit_look.j1])
     | succ kj15 =>
      have H := HA.out; clear HA
      simp only [circuit_look.j1] at H
      by_cases c27 : x38_15 = true
      ·subst c27
       have H1 : (some (0, 1)) = some (r1, r2) := by rw [if_pos rfl] at H; exact H
       clear H; have H := H1; clear H1
       simp only [Option.some.injEq, Prod.mk.injEq] at H
       obtain ⟨rfl, rfl⟩ := H
       go_wp2
       repeat (go_quiet (fail); try go_wp2)
       go_ret2
       exact ⟨by first | rfl | (simp [errW_none, errW_some] <;> rfl) | (simp [*, errW_none, errW_some] <;> rfl), blA HB.out⟩
      ·replace c27 := Bool.eq_false_iff.mpr c27; subst c27
       have H1 : (if (l0_5.length : Int) > 30 then (some (0, 2)) else (circuit_look.l0 kj15 (wrap64 (a0_3 + a0_4)) l0_5 (l0_5.length : Int) 0 a0_0 a0_1 a0_2 a0_3 a0_4 l0_5)) = some (r1, r2) := by rw [if_neg (show ¬ (false = true) by decide)] at H; exact H
       clear H; have H := H1; clear H1
       by_cases c28 : (l0_5.length : Int) > 30
       ·rw [if_pos c28] at H
        have c28b0 : decide (30 < (l0_5.length : Int)) = true := decide_eq_true c28
        have c28b1 : decide (30 < l0_5.length) = true := decide_eq_true (by omega)
        clear c28
        simp only [Option.some.injEq, Prod.mk.injEq] at H
        obtain ⟨rfl, rfl⟩ := H
        have hcz29 := fun i => blk_cell BK146.out i
        have hfz29 := fun i => blk_frozen BK146.out i
        go_wp2
        repeat (go_quiet (fail); try go_wp2)
        go_ret2
        exact ⟨by first | rfl | (simp [errW_none, errW_some] <;> rfl) | (simp [*, errW_none, errW_some] <;> rfl), blA HB.out⟩
       ·rw [if_neg c28] at H
        have c28b0 : decide (30 < (l0_5.length : Int)) = false := decide_eq_false c28
        have c28b1 : decide (30 < l0_5.length) = false := decide_eq_false (by omega)
        clear c28; have H' := Aside0.mk H; clear H
        have hcz30 := fun i => blk_cell BK146.out i
        have hfz30 := fun i => blk_frozen BK146.out i
        go_wp2
        repeat (go_quiet (fail); try go_wp2)
        go_loopg [4, 79] kj15 (fun kq v4 v79 w' => ∃ (x4_3 : Int) (x79_3 : Int), v4 = .int .i64 x4_3 ∧ v79 = .int .i64 x79_3 ∧ Aside0 (circuit_look.l0 kq x4_3 l0_5 (l0_5.length : Int) x79_3 a0_0 a0_1 a0_2 a0_3 a0_4 l0_5 = some (r1, r2)) ∧ Aside0 (kq ≤ kj15) ∧ Aside0 (w'.heap[gb146]? = some (.cells #[.int .i64 a0_0, .int .i64 a0_1, .int .i64 a0_2, .int .i64 a0_3, .int .i64 a0_4, (.slice A0_5 l0_5.length c0_5)] 24 (0, 0))) ∧ Aside0 (Below w.heap.size w w'))
        case atStart => exact ⟨(wrap64 (a0_3 + a0_4)), (0), eqA, eqA, H', ⟨Nat.le_refl _⟩, ⟨bkA BK146.out⟩, ⟨blA HB.out⟩⟩
        case round =>
         clear H'; (try clear c1); (try clear c2); (try clear p2); (try clear c4); (try clear c4b0); (try clear c6); (try clear c6b0); (try clear p6); (try clear c8); (try clear c8b0); (try clear c10); (try clear c10b0); (try clear c12); (try clear c12b0); (try clear c15); (try clear c17); (try clear c17b0); (try clear c19); (try clear c19b0); (try clear c21); (try clear c21b0); (try clear c21b1); (try clear c23); (try clear c23b0); (try clear c25); (try clear c25b0); (try clear c27); (try clear c28); (try clear c28b0); (try clear c28b1); (try clear hcz11); (try clear hcz13); (try clear hcz14); (try clear hcz18); (try clear hcz20); (try clear hcz24); (try clear hcz26); (try clear hcz29); (try clear hcz30); (try clear hcz5); (try clear hcz7); (try clear hcz9); (try clear hfz11); (try clear hfz13); (try clear hfz14); (try clear hfz18); (try clear hfz20); (try clear hfz24); (try clear hfz26); (try clear hfz29); (try clear hfz30); (try clear hfz5); (try clear hfz7); (try clear hfz9); (try clear p2); (try clear p6); obtain ⟨x4_3, x79_3, rfl, rfl, HA, HK3, BK146, HB⟩ := hrel
         cases gk with
         | zero => exact absurd HA.out (by simp [circuit_look.l0])
         | succ k3 =>
          have H := HA.out; clear HA
          simp only [circuit_look.l0] at H
          by_cases c31 : x79_3 < (l0_5.length : Int)
          ·rw [if_pos c31] at H
           have c31b0 : decide (x79_3 < (l0_5.length : Int)) = true := decide_eq_true c31; clear c31
           by_cases c32 : 0 ≤ x79_3
           ·rw [if_pos c32] at H
            have c32b0 : decide (0 ≤ x79_3) = true := decide_eq_true c32; clear c32
            by_cases c33 : x79_3 < (l0_5.length : Int)
            ·rw [if_pos c33] at H
             have c33b0 : decide (x79_3 < (l0_5.length : Int)) = true := decide_eq_true c33; clear c33; replace H := Option.bind_eq_some_iff.mp H
             obtain ⟨⟨t149, t150⟩, A340, H⟩ := H
             replace H : (if t150 = 0 then (circuit_look.l0 k3 t149 l0_5 (l0_5.length : Int) (wrap64 (x79_3 + 1)) a0_0 a0_1 a0_2 a0_3 a0_4 l0_5) else (some (0, t150))) = some (r1, r2) := H
             have A34 := Aside0.mk A340; clear A340
             by_cases c35 : t150 = 0
             ·rw [if_pos c35] at H
              have c35b0 : (t150 == 0) = true := beq_iff_eq.mpr c35; have c35b1 : (t150 != 0) = false := bne_eq_false_iff_eq.mpr c35; clear c35; have H' := Aside0.mk H; clear H
              have p147 : 0 ≤ (x79_3 : Int) := of_decide_eq_true (by first | (with_reducible assumption) | assumption)
              have q147 : x79_3 < (l0_5.length : Int) := of_decide_eq_true (by first | (with_reducible assumption) | assumption)
              obtain ⟨ad147, e147, hx147_0, hx147_1, hx147_2, hx147_3, hx147_4⟩ := at_T105 HR0_5.out x79_3 p147 q147
              cases e147
              replace hx147_0 := (HB.out.cell (World.block_lt_of_cell? w _ hx147_0)).trans hx147_0; replace hx147_1 := (HB.out.cell (World.block_lt_of_cell? w _ hx147_1)).trans hx147_1; replace hx147_2 := (HB.out.cell (World.block_lt_of_cell? w _ hx147_2)).trans hx147_2; replace hx147_3 := (HB.out.cell (World.block_lt_of_cell? w _ hx147_3)).trans hx147_3; replace hx147_4 := (HB.out.cell (World.block_lt_of_cell? w _ hx147_4)).trans hx147_4; replace p147 := eq_true p147; replace q147 := eq_true q147
              go_wp2_with (first | ((with_reducible refine gate_dst (N := 6) rfl ?_); refine box_event ?hg (N := 6) ?hd (cs := #[.int .i64 0, .int .i64 0, .int .i64 0, .int .i64 0, .int .i64 0]) (t := 105) ?hr ?_; (case hd => rfl); (case hg => rfl); (case hr => first | (go_simp; done) | (go_simp; rfl)); intro gb148 hg w36 hbox hb; have n0_ := Aside0.mk (blk_below (bkA BK146.out) hb); have n1_ := Aside0.mk (below_step (blA HB.out) hb); have n2_ := Aside0.mk (hbox); have n3_ := Aside0.mk ((by rw [hg]; exact (below_size (blA HB.out)) : w.heap.size ≤ gb148)); have n4_ := Aside0.mk ((by rw [hg]; exact (below_size (blA HB.out)) : w.heap.size ≤ gb148)); have n5_ := Aside0.mk ((by rw [hg]; exact Nat.ne_of_lt (blk_lt (bkA BK146.out)) : gb146 ≠ gb148)); have n6_ := Aside0.mk ((by rw [hg]; exact Nat.ne_of_gt (blk_lt (bkA BK146.out)) : gb148 ≠ gb146)); clear BK146; clear HB; have BK146 := n0_; have HB := n1_; have BK148 := n2_; have GW148 := n3_; have GE148 := n4_; have NB146_148 := n5_; have NB148_146 := n6_; clear n0_ n1_ n2_ n3_ n4_ n5_ n6_; clear hb hbox hg; have hnb37 := NB148_146.out; have hnc37 := NB146_148.out; have hcz38 := fun i => blk_cell BK148.out i; have hfz38 := fun i => blk_frozen BK148.out i; have hcz39 := fun i => blk_cell BK146.out i; have hfz39 := fun i => blk_frozen BK146.out i; ) | (go_at_call 94; (with_reducible refine (circuit_gate.calls k3 a0_0 a0_1 a0_2 a0_3 a0_4 _ _ l0_5 ((rd_T105 l0_5 x79_3).f0) ((rd_T105 l0_5 x79_3).f1) ((rd_T105 l0_5 x79_3).f2) ((rd_T105 l0_5 x79_3).f3) ((rd_T105 l0_5 x79_3).f4) x4_3 t149 t150 _ ?side1 ?side2 A34.out).mono ?_); (case side1 => exact Kd.C_below HR0_5.out (blA HB.out)); (case side2 => exact HC0_5.out); rintro e w40 ⟨rfl, hb⟩; have n0_ := Aside0.mk (blk_below (g := gb146) (o := .cells #[.int .i64 a0_0, .int .i64 a0_1, .int .i64 a0_2, .int .i64 a0_3, .int .i64 a0_4, .slice (some ad147) l0_5.length c0_5] 24 (0, 0)) (by refine bkA ?_; refine blk_far ?_ NB146_148.out _; refine bkA ?_; refine blk_far ?_ NB146_148.out _; refine bkA ?_; refine blk_far ?_ NB146_148.out _; refine bkA ?_; refine blk_far ?_ NB146_148.out _; refine bkA ?_; refine blk_far ?_ NB146_148.out _; refine bkA ?_; exact BK146.out) hb); have n1_ := Aside0.mk (blk_below (g := gb148) (o := .cells #[.int .i64 ((rd_T105 l0_5 x79_3).f0), .int .i64 ((rd_T105 l0_5 x79_3).f1), .int .i64 ((rd_T105 l0_5 x79_3).f2), .int .i64 ((rd_T105 l0_5 x79_3).f3), .int .i64 ((rd_T105 l0_5 x79_3).f4)] 105 (0, 0)) (by refine bkA ?_; refine blk_put (cs := #[.int .i64 ((rd_T105 l0_5 x79_3).f0), .int .i64 ((rd_T105 l0_5 x79_3).f1), .int .i64 ((rd_T105 l0_5 x79_3).f2), .int .i64 ((rd_T105 l0_5 x79_3).f3), .int .i64 0]) ?_ 4 _ rfl; refine bkA ?_; refine blk_put (cs := #[.int .i64 ((rd_T105 l0_5 x79_3).f0), .int .i64 ((rd_T105 l0_5 x79_3).f1), .int .i64 ((rd_T105 l0_5 x79_3).f2), .int .i64 0, .int .i64 0]) ?_ 3 _ rfl; refine bkA ?_; refine blk_put (cs := #[.int .i64 ((rd_T105 l0_5 x79_3).f0), .int .i64 ((rd_T105 l0_5 x79_3).f1), .int .i64 0, .int .i64 0, .int .i64 0]) ?_ 2 _ rfl; refine bkA ?_; refine blk_put (cs := #[.int .i64 ((rd_T105 l0_5 x79_3).f0), .int .i64 0, .int .i64 0, .int .i64 0, .int .i64 0]) ?_ 1 _ rfl; refine bkA ?_; refine blk_put (cs := #[.int .i64 0, .int .i64 0, .int .i64 0, .int .i64 0, .int .i64 0]) ?_ 0 _ rfl; refine bkA ?_; exact BK148.out) hb); have n2_ := Aside0.mk (below_step (blA HB.out) hb); clear BK146; clear BK148; clear HB; have BK146 := n0_; have BK148 := n1_; have HB := n2_; clear n0_ n1_ n2_; (try clear hb)))
              repeat (go_quiet (first | ((with_reducible refine gate_dst (N := 6) rfl ?_); refine box_event ?hg (N := 6) ?hd (cs := #[.int .i64 0, .int .i64 0, .int .i64 0, .int .i64 0, .int .i64 0]) (t := 105) ?hr ?_; (case hd => rfl); (case hg => rfl); (case hr => first | (go_simp; done) | (go_simp; rfl)); intro gb148 hg w36 hbox hb; have n0_ := Aside0.mk (blk_below (bkA BK146.out) hb); have n1_ := Aside0.mk (below_step (blA HB.out) hb); have n2_ := Aside0.mk (hbox); have n3_ := Aside0.mk ((by rw [hg]; exact (below_size (blA HB.out)) : w.heap.size ≤ gb148)); have n4_ := Aside0.mk ((by rw [hg]; exact (below_size (blA HB.out)) : w.heap.size ≤ gb148)); have n5_ := Aside0.mk ((by rw [hg]; exact Nat.ne_of_lt (blk_lt (bkA BK146.out)) : gb146 ≠ gb148)); have n6_ := Aside0.mk ((by rw [hg]; exact Nat.ne_of_gt (blk_lt (bkA BK146.out)) : gb148 ≠ gb146)); clear BK146; clear HB; have BK146 := n0_; have HB := n1_; have BK148 := n2_; have GW148 := n3_; have GE148 := n4_; have NB146_148 := n5_; have NB148_146 := n6_; clear n0_ n1_ n2_ n3_ n4_ n5_ n6_; clear hb hbox hg; have hnb37 := NB148_146.out; have hnc37 := NB146_148.out; have hcz38 := fun i => blk_cell BK148.out i; have hfz38 := fun i => blk_frozen BK148.out i; have hcz39 := fun i => blk_cell BK146.out i; have hfz39 := fun i => blk_frozen BK146.out i; ) | (go_at_call 94; (with_reducible refine (circuit_gate.calls k3 a0_0 a0_1 a0_2 a0_3 a0_4 _ _ l0_5 ((rd_T105 l0_5 x79_3).f0) ((rd_T105 l0_5 x79_3).f1) ((rd_T105 l0_5 x79_3).f2) ((rd_T105 l0_5 x79_3).f3) ((rd_T105 l0_5 x79_3).f4) x4_3 t149 t150 _ ?side1 ?side2 A34.out).mono ?_); (case side1 => exact Kd.C_below HR0_5.out (blA HB.out)); (case side2 => exact HC0_5.out); rintro e w40 ⟨rfl, hb⟩; have n0_ := Aside0.mk (blk_below (g := gb146) (o := .cells #[.int .i64 a0_0, .int .i64 a0_1, .int .i64 a0_2, .int .i64 a0_3, .int .i64 a0_4, .slice (some ad147) l0_5.length c0_5] 24 (0, 0)) (by refine bkA ?_; refine blk_far ?_ NB146_148.out _; refine bkA ?_; refine blk_far ?_ NB146_148.out _; refine bkA ?_; refine blk_far ?_ NB146_148.out _; refine bkA ?_; refine blk_far ?_ NB146_148.out _; refine bkA ?_; refine blk_far ?_ NB146_148.out _; refine bkA ?_; exact BK146.out) hb); have n1_ := Aside0.mk (blk_below (g := gb148) (o := .cells #[.int .i64 ((rd_T105 l0_5 x79_3).f0), .int .i64 ((rd_T105 l0_5 x79_3).f1), .int .i64 ((rd_T105 l0_5 x79_3).f2), .int .i64 ((rd_T105 l0_5 x79_3).f3), .int .i64 ((rd_T105 l0_5 x79_3).f4)] 105 (0, 0)) (by refine bkA ?_; refine blk_put (cs := #[.int .i64 ((rd_T105 l0_5 x79_3).f0), .int .i64 ((rd_T105 l0_5 x79_3).f1), .int .i64 ((rd_T105 l0_5 x79_3).f2), .int .i64 ((rd_T105 l0_5 x79_3).f3), .int .i64 0]) ?_ 4 _ rfl; refine bkA ?_; refine blk_put (cs := #[.int .i64 ((rd_T105 l0_5 x79_3).f0), .int .i64 ((rd_T105 l0_5 x79_3).f1), .int .i64 ((rd_T105 l0_5 x79_3).f2), .int .i64 0, .int .i64 0]) ?_ 3 _ rfl; refine bkA ?_; refine blk_put (cs := #[.int .i64 ((rd_T105 l0_5 x79_3).f0), .int .i64 ((rd_T105 l0_5 x79_3).f1), .int .i64 0, .int .i64 0, .int .i64 0]) ?_ 2 _ rfl; refine bkA ?_; refine blk_put (cs := #[.int .i64 ((rd_T105 l0_5 x79_3).f0), .int .i64 0, .int .i64 0, .int .i64 0, .int .i64 0]) ?_ 1 _ rfl; refine bkA ?_; refine blk_put (cs := #[.int .i64 0, .int .i64 0, .int .i64 0, .int .i64 0, .int .i64 0]) ?_ 0 _ rfl; refine bkA ?_; exact BK148.out) hb); have n2_ := Aside0.mk (below_step (blA HB.out) hb); clear BK146; clear BK148; clear HB; have BK146 := n0_; have BK148 := n1_; have HB := n2_; clear n0_ n1_ n2_; (try clear hb))); try go_wp2_with (first | ((with_reducible refine gate_dst (N := 6) rfl ?_); refine box_event ?hg (N := 6) ?hd (cs := #[.int .i64 0, .int .i64 0, .int .i64 0, .int .i64 0, .int .i64 0]) (t := 105) ?hr ?_; (case hd => rfl); (case hg => rfl); (case hr => first | (go_simp; done) | (go_simp; rfl)); intro gb148 hg w36 hbox hb; have n0_ := Aside0.mk (blk_below (bkA BK146.out) hb); have n1_ := Aside0.mk (below_step (blA HB.out) hb); have n2_ := Aside0.mk (hbox); have n3_ := Aside0.mk ((by rw [hg]; exact (below_size (blA HB.out)) : w.heap.size ≤ gb148)); have n4_ := Aside0.mk ((by rw [hg]; exact (below_size (blA HB.out)) : w.heap.size ≤ gb148)); have n5_ := Aside0.mk ((by rw [hg]; exact Nat.ne_of_lt (blk_lt (bkA BK146.out)) : gb146 ≠ gb148)); have n6_ := Aside0.mk ((by rw [hg]; exact Nat.ne_of_gt (blk_lt (bkA BK146.out)) : gb148 ≠ gb146)); clear BK146; clear HB; have BK146 := n0_; have HB := n1_; have BK148 := n2_; have GW148 := n3_; have GE148 := n4_; have NB146_148 := n5_; have NB148_146 := n6_; clear n0_ n1_ n2_ n3_ n4_ n5_ n6_; clear hb hbox hg; have hnb37 := NB148_146.out; have hnc37 := NB146_148.out; have hcz38 := fun i => blk_cell BK148.out i; have hfz38 := fun i => blk_frozen BK148.out i; have hcz39 := fun i => blk_cell BK146.out i; have hfz39 := fun i => blk_frozen BK146.out i; ) | (go_at_call 94; (with_reducible refine (circuit_gate.calls k3 a0_0 a0_1 a0_2 a0_3 a0_4 _ _ l0_5 ((rd_T105 l0_5 x79_3).f0) ((rd_T105 l0_5 x79_3).f1) ((rd_T105 l0_5 x79_3).f2) ((rd_T105 l0_5 x79_3).f3) ((rd_T105 l0_5 x79_3).f4) x4_3 t149 t150 _ ?side1 ?side2 A34.out).mono ?_); (case side1 => exact Kd.C_below HR0_5.out (blA HB.out)); (case side2 => exact HC0_5.out); rintro e w40 ⟨rfl, hb⟩; have n0_ := Aside0.mk (blk_below (g := gb146) (o := .cells #[.int .i64 a0_0, .int .i64 a0_1, .int .i64 a0_2, .int .i64 a0_3, .int .i64 a0_4, .slice (some ad147) l0_5.length c0_5] 24 (0, 0)) (by refine bkA ?_; refine blk_far ?_ NB146_148.out _; refine bkA ?_; refine blk_far ?_ NB146_148.out _; refine bkA ?_; refine blk_far ?_ NB146_148.out _; refine bkA ?_; refine blk_far ?_ NB146_148.out _; refine bkA ?_; refine blk_far ?_ NB146_148.out _; refine bkA ?_; exact BK146.out) hb); have n1_ := Aside0.mk (blk_below (g := gb148) (o := .cells #[.int .i64 ((rd_T105 l0_5 x79_3).f0), .int .i64 ((rd_T105 l0_5 x79_3).f1), .int .i64 ((rd_T105 l0_5 x79_3).f2), .int .i64 ((rd_T105 l0_5 x79_3).f3), .int .i64 ((rd_T105 l0_5 x79_3).f4)] 105 (0, 0)) (by refine bkA ?_; refine blk_put (cs := #[.int .i64 ((rd_T105 l0_5 x79_3).f0), .int .i64 ((rd_T105 l0_5 x79_3).f1), .int .i64 ((rd_T105 l0_5 x79_3).f2), .int .i64 ((rd_T105 l0_5 x79_3).f3), .int .i64 0]) ?_ 4 _ rfl; refine bkA ?_; refine blk_put (cs := #[.int .i64 ((rd_T105 l0_5 x79_3).f0), .int .i64 ((rd_T105 l0_5 x79_3).f1), .int .i64 ((rd_T105 l0_5 x79_3).f2), .int .i64 0, .int .i64 0]) ?_ 3 _ rfl; refine bkA ?_; refine blk_put (cs := #[.int .i64 ((rd_T105 l0_5 x79_3).f0), .int .i64 ((rd_T105 l0_5 x79_3).f1), .int .i64 0, .int .i64 0, .int .i64 0]) ?_ 2 _ rfl; refine bkA ?_; refine blk_put (cs := #[.int .i64 ((rd_T105 l0_5 x79_3).f0), .int .i64 0, .int .i64 0, .int .i64 0, .int .i64 0]) ?_ 1 _ rfl; refine bkA ?_; refine blk_put (cs := #[.int .i64 0, .int .i64 0, .int .i64 0, .int .i64 0, .int .i64 0]) ?_ 0 _ rfl; refine bkA ?_; exact BK148.out) hb); have n2_ := Aside0.mk (below_step (blA HB.out) hb); clear BK146; clear BK148; clear HB; have BK146 := n0_; have BK148 := n1_; have HB := n2_; clear n0_ n1_ n2_; (try clear hb))))
              go_roundg k3
              case measure => have := HJ1.out; have := HJ15.out; have := HK3.out; omega
              case rel => exact ⟨(t149), (wrap64 (x79_3 + 1)), eqA, eqA, H', ⟨by have := HJ1.out; have := HJ15.out; have := HK3.out; omega⟩, ⟨bkA BK146.out⟩, ⟨blA HB.out⟩⟩
             ·rw [if_neg c35] at H
              have c35b0 : (t150 == 0) = false := beq_eq_false_iff_ne.mpr c35; have c35b1 : (t150 != 0) = true := bne_iff_ne.mpr c35
              simp only [Option.some.injEq, Prod.mk.injEq] at H
              obtain ⟨rfl, rfl⟩ := H
              have p147 : 0 ≤ (x79_3 : Int) := of_decide_eq_true (by first | (with_reducible assumption) | assumption)
              have q147 : x79_3 < (l0_5.length : Int) := of_decide_eq_true (by first | (with_reducible assumption) | assumption)
              obtain ⟨ad147, e147, hx147_0, hx147_1, hx147_2, hx147_3, hx147_4⟩ := at_T105 HR0_5.out x79_3 p147 q147
              cases e147
              replace hx147_0 := (HB.out.cell (World.block_lt_of_cell? w _ hx147_0)).trans hx147_0; replace hx147_1 := (HB.out.cell (World.block_lt_of_cell? w _ hx147_1)).trans hx147_1; replace hx147_2 := (HB.out.cell (World.block_lt_of_cell? w _ hx147_2)).trans hx147_2; replace hx147_3 := (HB.out.cell (World.block_lt_of_cell? w _ hx147_3)).trans hx147_3; replace hx147_4 := (HB.out.cell (World.block_lt_of_cell? w _ hx147_4)).trans hx147_4; replace p147 := eq_true p147; replace q147 := eq_true q147
              go_wp2_with (first | ((with_reducible refine gate_dst (N := 6) rfl ?_); refine box_event ?hg (N := 6) ?hd (cs := #[.int .i64 0, .int .i64 0, .int .i64 0, .int .i64 0, .int .i64 0]) (t := 105) ?hr ?_; (case hd => rfl); (case hg => rfl); (case hr => first | (go_simp; done) | (go_simp; rfl)); intro gb148 hg w41 hbox hb; have n0_ := Aside0.mk (blk_below (bkA BK146.out) hb); have n1_ := Aside0.mk (below_step (blA HB.out) hb); have n2_ := Aside0.mk (hbox); have n3_ := Aside0.mk ((by rw [hg]; exact (below_size (blA HB.out)) : w.heap.size ≤ gb148)); have n4_ := Aside0.mk ((by rw [hg]; exact (below_size (blA HB.out)) : w.heap.size ≤ gb148)); have n5_ := Aside0.mk ((by rw [hg]; exact Nat.ne_of_lt (blk_lt (bkA BK146.out)) : gb146 ≠ gb148)); have n6_ := Aside0.mk ((by rw [hg]; exact Nat.ne_of_gt (blk_lt (bkA BK146.out)) : gb148 ≠ gb146)); clear BK146; clear HB; have BK146 := n0_; have HB := n1_; have BK148 := n2_; have GW148 := n3_; have GE148 := n4_; have NB146_148 := n5_; have NB148_146 := n6_; clear n0_ n1_ n2_ n3_ n4_ n5_ n6_; clear hb hbox hg; have hnb42 := NB148_146.out; have hnc42 := NB146_148.out; have hcz43 := fun i => blk_cell BK148.out i; have hfz43 := fun i => blk_frozen BK148.out i; have hcz44 := fun i => blk_cell BK146.out i; have hfz44 := fun i => blk_frozen BK146.out i; ) | (go_at_call 94; (with_reducible refine (circuit_gate.calls k3 a0_0 a0_1 a0_2 a0_3 a0_4 _ _ l0_5 ((rd_T105 l0_5 x79_3).f0) ((rd_T105 l0_5 x79_3).f1) ((rd_T105 l0_5 x79_3).f2) ((rd_T105 l0_5 x79_3).f3) ((rd_T105 l0_5 x79_3).f4) x4_3 t149 t150 _ ?side1 ?side2 A34.out).mono ?_); (case side1 => exact Kd.C_below HR0_5.out (blA HB.out)); (case side2 => exact HC0_5.out); rintro e w45 ⟨rfl, hb⟩; have n0_ := Aside0.mk (blk_below (g := gb146) (o := .cells #[.int .i64 a0_0, .int .i64 a0_1, .int .i64 a0_2, .int .i64 a0_3, .int .i64 a0_4, .slice (some ad147) l0_5.length c0_5] 24 (0, 0)) (by refine bkA ?_; refine blk_far ?_ NB146_148.out _; refine bkA ?_; refine blk_far ?_ NB146_148.out _; refine bkA ?_; refine blk_far ?_ NB146_148.out _; refine bkA ?_; refine blk_far ?_ NB146_148.out _; refine bkA ?_; refine blk_far ?_ NB146_148.out _; refine bkA ?_; exact BK146.out) hb); have n1_ := Aside0.mk (blk_below (g := gb148) (o := .cells #[.int .i64 ((rd_T105 l0_5 x79_3).f0), .int .i64 ((rd_T105 l0_5 x79_3).f1), .int .i64 ((rd_T105 l0_5 x79_3).f2), .int .i64 ((rd_T105 l0_5 x79_3).f3), .int .i64 ((rd_T105 l0_5 x79_3).f4)] 105 (0, 0)) (by refine bkA ?_; refine blk_put (cs := #[.int .i64 ((rd_T105 l0_5 x79_3).f0), .int .i64 ((rd_T105 l0_5 x79_3).f1), .int .i64 ((rd_T105 l0_5 x79_3).f2), .int .i64 ((rd_T105 l0_5 x79_3).f3), .int .i64 0]) ?_ 4 _ rfl; refine bkA ?_; refine blk_put (cs := #[.int .i64 ((rd_T105 l0_5 x79_3).f0), .int .i64 ((rd_T105 l0_5 x79_3).f1), .int .i64 ((rd_T105 l0_5 x79_3).f2), .int .i64 0, .int .i64 0]) ?_ 3 _ rfl; refine bkA ?_; refine blk_put (cs := #[.int .i64 ((rd_T105 l0_5 x79_3).f0), .int .i64 ((rd_T105 l0_5 x79_3).f1), .int .i64 0, .int .i64 0, .int .i64 0]) ?_ 2 _ rfl; refine bkA ?_; refine blk_put (cs := #[.int .i64 ((rd_T105 l0_5 x79_3).f0), .int .i64 0, .int .i64 0, .int .i64 0, .int .i64 0]) ?_ 1 _ rfl; refine bkA ?_; refine blk_put (cs := #[.int .i64 0, .int .i64 0, .int .i64 0, .int .i64 0, .int .i64 0]) ?_ 0 _ rfl; refine bkA ?_; exact BK148.out) hb); have n2_ := Aside0.mk (below_step (blA HB.out) hb); clear BK146; clear BK148; clear HB; have BK146 := n0_; have BK148 := n1_; have HB := n2_; clear n0_ n1_ n2_; (try clear hb)))
              repeat (go_quiet (first | ((with_reducible refine gate_dst (N := 6) rfl ?_); refine box_event ?hg (N := 6) ?hd (cs := #[.int .i64 0, .int .i64 0, .int .i64 0, .int .i64 0, .int .i64 0]) (t := 105) ?hr ?_; (case hd => rfl); (case hg => rfl); (case hr => first | (go_simp; done) | (go_simp; rfl)); intro gb148 hg w41 hbox hb; have n0_ := Aside0.mk (blk_below (bkA BK146.out) hb); have n1_ := Aside0.mk (below_step (blA HB.out) hb); have n2_ := Aside0.mk (hbox); have n3_ := Aside0.mk ((by rw [hg]; exact (below_size (blA HB.out)) : w.heap.size ≤ gb148)); have n4_ := Aside0.mk ((by rw [hg]; exact (below_size (blA HB.out)) : w.heap.size ≤ gb148)); have n5_ := Aside0.mk ((by rw [hg]; exact Nat.ne_of_lt (blk_lt (bkA BK146.out)) : gb146 ≠ gb148)); have n6_ := Aside0.mk ((by rw [hg]; exact Nat.ne_of_gt (blk_lt (bkA BK146.out)) : gb148 ≠ gb146)); clear BK146; clear HB; have BK146 := n0_; have HB := n1_; have BK148 := n2_; have GW148 := n3_; have GE148 := n4_; have NB146_148 := n5_; have NB148_146 := n6_; clear n0_ n1_ n2_ n3_ n4_ n5_ n6_; clear hb hbox hg; have hnb42 := NB148_146.out; have hnc42 := NB146_148.out; have hcz43 := fun i => blk_cell BK148.out i; have hfz43 := fun i => blk_frozen BK148.out i; have hcz44 := fun i => blk_cell BK146.out i; have hfz44 := fun i => blk_frozen BK146.out i; ) | (go_at_call 94; (with_reducible refine (circuit_gate.calls k3 a0_0 a0_1 a0_2 a0_3 a0_4 _ _ l0_5 ((rd_T105 l0_5 x79_3).f0) ((rd_T105 l0_5 x79_3).f1) ((rd_T105 l0_5 x79_3).f2) ((rd_T105 l0_5 x79_3).f3) ((rd_T105 l0_5 x79_3).f4) x4_3 t149 t150 _ ?side1 ?side2 A34.out).mono ?_); (case side1 => exact Kd.C_below HR0_5.out (blA HB.out)); (case side2 => exact HC0_5.out); rintro e w45 ⟨rfl, hb⟩; have n0_ := Aside0.mk (blk_below (g := gb146) (o := .cells #[.int .i64 a0_0, .int .i64 a0_1, .int .i64 a0_2, .int .i64 a0_3, .int .i64 a0_4, .slice (some ad147) l0_5.length c0_5] 24 (0, 0)) (by refine bkA ?_; refine blk_far ?_ NB146_148.out _; refine bkA ?_; refine blk_far ?_ NB146_148.out _; refine bkA ?_; refine blk_far ?_ NB146_148.out _; refine bkA ?_; refine blk_far ?_ NB146_148.out _; refine bkA ?_; refine blk_far ?_ NB146_148.out _; refine bkA ?_; exact BK146.out) hb); have n1_ := Aside0.mk (blk_below (g := gb148) (o := .cells #[.int .i64 ((rd_T105 l0_5 x79_3).f0), .int .i64 ((rd_T105 l0_5 x79_3).f1), .int .i64 ((rd_T105 l0_5 x79_3).f2), .int .i64 ((rd_T105 l0_5 x79_3).f3), .int .i64 ((rd_T105 l0_5 x79_3).f4)] 105 (0, 0)) (by refine bkA ?_; refine blk_put (cs := #[.int .i64 ((rd_T105 l0_5 x79_3).f0), .int .i64 ((rd_T105 l0_5 x79_3).f1), .int .i64 ((rd_T105 l0_5 x79_3).f2), .int .i64 ((rd_T105 l0_5 x79_3).f3), .int .i64 0]) ?_ 4 _ rfl; refine bkA ?_; refine blk_put (cs := #[.int .i64 ((rd_T105 l0_5 x79_3).f0), .int .i64 ((rd_T105 l0_5 x79_3).f1), .int .i64 ((rd_T105 l0_5 x79_3).f2), .int .i64 0, .int .i64 0]) ?_ 3 _ rfl; refine bkA ?_; refine blk_put (cs := #[.int .i64 ((rd_T105 l0_5 x79_3).f0), .int .i64 ((rd_T105 l0_5 x79_3).f1), .int .i64 0, .int .i64 0, .int .i64 0]) ?_ 2 _ rfl; refine bkA ?_; refine blk_put (cs := #[.int .i64 ((rd_T105 l0_5 x79_3).f0), .int .i64 0, .int .i64 0, .int .i64 0, .int .i64 0]) ?_ 1 _ rfl; refine bkA ?_; refine blk_put (cs := #[.int .i64 0, .int .i64 0, .int .i64 0, .int .i64 0, .int .i64 0]) ?_ 0 _ rfl; refine bkA ?_; exact BK148.out) hb); have n2_ := Aside0.mk (below_step (blA HB.out) hb); clear BK146; clear BK148; clear HB; have BK146 := n0_; have BK148 := n1_; have HB := n2_; clear n0_ n1_ n2_; (try clear hb))); try go_wp2_with (first | ((with_reducible refine gate_dst (N := 6) rfl ?_); refine box_event ?hg (N := 6) ?hd (cs := #[.int .i64 0, .int .i64 0, .int .i64 0, .int .i64 0, .int .i64 0]) (t := 105) ?hr ?_; (case hd => rfl); (case hg => rfl); (case hr => first | (go_simp; done) | (go_simp; rfl)); intro gb148 hg w41 hbox hb; have n0_ := Aside0.mk (blk_below (bkA BK146.out) hb); have n1_ := Aside0.mk (below_step (blA HB.out) hb); have n2_ := Aside0.mk (hbox); have n3_ := Aside0.mk ((by rw [hg]; exact (below_size (blA HB.out)) : w.heap.size ≤ gb148)); have n4_ := Aside0.mk ((by rw [hg]; exact (below_size (blA HB.out)) : w.heap.size ≤ gb148)); have n5_ := Aside0.mk ((by rw [hg]; exact Nat.ne_of_lt (blk_lt (bkA BK146.out)) : gb146 ≠ gb148)); have n6_ := Aside0.mk ((by rw [hg]; exact Nat.ne_of_gt (blk_lt (bkA BK146.out)) : gb148 ≠ gb146)); clear BK146; clear HB; have BK146 := n0_; have HB := n1_; have BK148 := n2_; have GW148 := n3_; have GE148 := n4_; have NB146_148 := n5_; have NB148_146 := n6_; clear n0_ n1_ n2_ n3_ n4_ n5_ n6_; clear hb hbox hg; have hnb42 := NB148_146.out; have hnc42 := NB146_148.out; have hcz43 := fun i => blk_cell BK148.out i; have hfz43 := fun i => blk_frozen BK148.out i; have hcz44 := fun i => blk_cell BK146.out i; have hfz44 := fun i => blk_frozen BK146.out i; ) | (go_at_call 94; (with_reducible refine (circuit_gate.calls k3 a0_0 a0_1 a0_2 a0_3 a0_4 _ _ l0_5 ((rd_T105 l0_5 x79_3).f0) ((rd_T105 l0_5 x79_3).f1) ((rd_T105 l0_5 x79_3).f2) ((rd_T105 l0_5 x79_3).f3) ((rd_T105 l0_5 x79_3).f4) x4_3 t149 t150 _ ?side1 ?side2 A34.out).mono ?_); (case side1 => exact Kd.C_below HR0_5.out (blA HB.out)); (case side2 => exact HC0_5.out); rintro e w45 ⟨rfl, hb⟩; have n0_ := Aside0.mk (blk_below (g := gb146) (o := .cells #[.int .i64 a0_0, .int .i64 a0_1, .int .i64 a0_2, .int .i64 a0_3, .int .i64 a0_4, .slice (some ad147) l0_5.length c0_5] 24 (0, 0)) (by refine bkA ?_; refine blk_far ?_ NB146_148.out _; refine bkA ?_; refine blk_far ?_ NB146_148.out _; refine bkA ?_; refine blk_far ?_ NB146_148.out _; refine bkA ?_; refine blk_far ?_ NB146_148.out _; refine bkA ?_; refine blk_far ?_ NB146_148.out _; refine bkA ?_; exact BK146.out) hb); have n1_ := Aside0.mk (blk_below (g := gb148) (o := .cells #[.int .i64 ((rd_T105 l0_5 x79_3).f0), .int .i64 ((rd_T105 l0_5 x79_3).f1), .int .i64 ((rd_T105 l0_5 x79_3).f2), .int .i64 ((rd_T105 l0_5 x79_3).f3), .int .i64 ((rd_T105 l0_5 x79_3).f4)] 105 (0, 0)) (by refine bkA ?_; refine blk_put (cs := #[.int .i64 ((rd_T105 l0_5 x79_3).f0), .int .i64 ((rd_T105 l0_5 x79_3).f1), .int .i64 ((rd_T105 l0_5 x79_3).f2), .int .i64 ((rd_T105 l0_5 x79_3).f3), .int .i64 0]) ?_ 4 _ rfl; refine bkA ?_; refine blk_put (cs := #[.int .i64 ((rd_T105 l0_5 x79_3).f0), .int .i64 ((rd_T105 l0_5 x79_3).f1), .int .i64 ((rd_T105 l0_5 x79_3).f2), .int .i64 0, .int .i64 0]) ?_ 3 _ rfl; refine bkA ?_; refine blk_put (cs := #[.int .i64 ((rd_T105 l0_5 x79_3).f0), .int .i64 ((rd_T105 l0_5 x79_3).f1), .int .i64 0, .int .i64 0, .int .i64 0]) ?_ 2 _ rfl; refine bkA ?_; refine blk_put (cs := #[.int .i64 ((rd_T105 l0_5 x79_3).f0), .int .i64 0, .int .i64 0, .int .i64 0, .int .i64 0]) ?_ 1 _ rfl; refine bkA ?_; refine blk_put (cs := #[.int .i64 0, .int .i64 0, .int .i64 0, .int .i64 0, .int .i64 0]) ?_ 0 _ rfl; refine bkA ?_; exact BK148.out) hb); have n2_ := Aside0.mk (below_step (blA HB.out) hb); clear BK146; clear BK148; clear HB; have BK146 := n0_; have BK148 := n1_; have HB := n2_; clear n0_ n1_ n2_; (try clear hb))))
              go_ret2
              exact ⟨by first | rfl | (simp [errW_none, errW_some] <;> rfl) | (simp [*, errW_none, errW_some] <;> rfl), blA HB.out⟩
            ·rw [if_neg c33] at H
             exact absurd H (by simp)
           ·rw [if_neg c32] at H
            exact absurd H (by simp)
          ·rw [if_neg c31] at H
           have c31b0 : decide (x79_3 < (l0_5.length : Int)) = false := decide_eq_false c31; clear c31
           simp only [Option.some.injEq, Prod.mk.injEq] at H
           obtain ⟨rfl, rfl⟩ := H
           go_wp2
           repeat (go_quiet (fail); try go_wp2)
           go_ret2
           exact ⟨by first | rfl | (simp [errW_none, errW_some] <;> rfl) | (simp [*, errW_none, errW_some] <;> rfl), blA HB.out⟩
end Go.Proofs.Ythiiodgpdoljoaa.PLw
namespace Go.Proofs.Ythiiodgpdoljoaa.PLw
open Go.RowKit Go.Proofs.YthiiodgpdoljoaaW.PrintWords Go.Proofs.YthiiodgpdoljoaaW.PrintLast Go.Proofs.YthiiodgpdoljoaaW.PrintMore
attribute [local go_sem] max2_int min2_int max_two min_two max_three min_three max_four min_four   -- for this text's walks alone
set_option linter.unusedVariables false
set_option linter.unusedSimpArgs false
/-! ### steepleref25_shifts: function 90 -/
def steepleref25_shifts.f (a0 : Int) : Option (Bool) := if a0 ≥ 4 then (some (decide (a0 ≤ 6))) else (some false)
set_option maxHeartbeats 8000000 in
set_option maxRecDepth 100000 in
theorem steepleref25_shifts.calls (a0 : Int) (r : Bool) (w : World) (h : steepleref25_shifts.f a0 = some r) :
  Calls Try.prog 90 #[.int .i64 a0] w fun e w' => e = .returned (.bool r) ∧ Drawn0 w w' := by
 have H : (if a0 ≥ 4 then (some (decide (a0 ≤ 6))) else (some false)) = some r := h
 clear h
 by_cases c2 : a0 ≥ 4
 ·rw [if_pos c2] at H
  have c2b0 : decide (4 ≤ a0) = true := decide_eq_true c2; clear c2; obtain rfl := Option.some.inj H
  go_enter Try.func90, Try.ntmps90
  go_wp2
  go_ret
  exact ⟨eqA, dwA⟩
 ·rw [if_neg c2] at H
  have c2b0 : decide (4 ≤ a0) = false := decide_eq_false c2; clear c2; obtain rfl := Option.some.inj H
  go_enter Try.func90, Try.ntmps90
  go_wp2
  go_ret
  exact ⟨eqA, dwA⟩
end Go.Proofs.Ythiiodgpdoljoaa.PLw
namespace Go.Proofs.Ythiiodgpdoljoaa.PLw
open Go.RowKit Go.Proofs.YthiiodgpdoljoaaW.PrintWords Go.Proofs.YthiiodgpdoljoaaW.PrintLast Go.Proofs.YthiiodgpdoljoaaW.PrintMore
attribute [local go_sem] max2_int min2_int max_two min_two max_three min_three max_four min_four   -- for this text's walks alone
set_option linter.unusedVariables false
set_option linter.unusedSimpArgs false
/-! ### steepleref25_System_Gate: function 59 -/
mutual
def steepleref25_System_Gate.j0 : Nat → Int → Bool → Int → Int → Int → Int → Int → List (S106) → Int → Int → Int → Int → Int → Option (Int)
 | 0, _, _, _, _, _, _, _, _, _, _, _, _, _ => none
 | k + 1, x2, x14, x111000, x111001, x111002, x111003, x111004, x111005, x112000, x112001, x112002, x112003, x112004 => if x14 = true then (some 3) else ((steepleref25_two.f x112000).bind fun t112 => (if t112 = true then (if x112000 = 8 then (if x112001 = 0 then ((steepleref25_shifts.f x112000).bind fun t113 => (if t113 = true then (steepleref25_System_Gate.j1 k x2 false x111000 x111001 x111002 x111003 x111004 x111005 x112000 x112001 x112002 x112003 x112004) else (if x112000 = 7 then (steepleref25_System_Gate.j1 k x2 false x111000 x111001 x111002 x111003 x111004 x111005 x112000 x112001 x112002 x112003 x112004) else (steepleref25_System_Gate.j1 k x2 (x112004 != 0) x111000 x111001 x111002 x111003 x111004 x111005 x112000 x112001 x112002 x112003 x112004)))) else (steepleref25_System_Gate.j1 k x2 true x111000 x111001 x111002 x111003 x111004 x111005 x112000 x112001 x112002 x112003 x112004)) else ((steepleref25_shifts.f x112000).bind fun t114 => (if t114 = true then (steepleref25_System_Gate.j1 k x2 false x111000 x111001 x111002 x111003 x111004 x111005 x112000 x112001 x112002 x112003 x112004) else (if x112000 = 7 then (steepleref25_System_Gate.j1 k x2 false x111000 x111001 x111002 x111003 x111004 x111005 x112000 x112001 x112002 x112003 x112004) else (steepleref25_System_Gate.j1 k x2 (x112004 != 0) x111000 x111001 x111002 x111003 x111004 x111005 x112000 x112001 x112002 x112003 x112004))))) else (if x112003 = 0 then (if x112000 = 8 then (if x112001 = 0 then ((steepleref25_shifts.f x112000).bind fun t115 => (if t115 = true then (steepleref25_System_Gate.j1 k x2 false x111000 x111001 x111002 x111003 x111004 x111005 x112000 x112001 x112002 x112003 x112004) else (if x112000 = 7 then (steepleref25_System_Gate.j1 k x2 false x111000 x111001 x111002 x111003 x111004 x111005 x112000 x112001 x112002 x112003 x112004) else (steepleref25_System_Gate.j1 k x2 (x112004 != 0) x111000 x111001 x111002 x111003 x111004 x111005 x112000 x112001 x112002 x112003 x112004)))) else (steepleref25_System_Gate.j1 k x2 true x111000 x111001 x111002 x111003 x111004 x111005 x112000 x112001 x112002 x112003 x112004)) else ((steepleref25_shifts.f x112000).bind fun t116 => (if t116 = true then (steepleref25_System_Gate.j1 k x2 false x111000 x111001 x111002 x111003 x111004 x111005 x112000 x112001 x112002 x112003 x112004) else (if x112000 = 7 then (steepleref25_System_Gate.j1 k x2 false x111000 x111001 x111002 x111003 x111004 x111005 x112000 x112001 x112002 x112003 x112004) else (steepleref25_System_Gate.j1 k x2 (x112004 != 0) x111000 x111001 x111002 x111003 x111004 x111005 x112000 x112001 x112002 x112003 x112004))))) else (steepleref25_System_Gate.j1 k x2 true x111000 x111001 x111002 x111003 x111004 x111005 x112000 x112001 x112002 x112003 x112004))))
def steepleref25_System_Gate.j1 : Nat → Int → Bool → Int → Int → Int → Int → Int → List (S106) → Int → Int → Int → Int → Int → Option (Int)
 | 0, _, _, _, _, _, _, _, _, _, _, _, _, _ => none
 | k + 1, x2, x49, x111000, x111001, x111002, x111003, x111004, x111005, x112000, x112001, x112002, x112003, x112004 => if x49 = true then (some 3) else (if x112002 < 0 then (steepleref25_System_Gate.j2 k x2 true x111000 x111001 x111002 x111003 x111004 x111005 x112000 x112001 x112002 x112003 x112004) else (if x112002 ≥ x2 then (steepleref25_System_Gate.j2 k x2 true x111000 x111001 x111002 x111003 x111004 x111005 x112000 x112001 x112002 x112003 x112004) else ((steepleref25_two.f x112000).bind fun t117 => (if t117 = true then (if x112003 < 0 then (steepleref25_System_Gate.j2 k x2 true x111000 x111001 x111002 x111003 x111004 x111005 x112000 x112001 x112002 x112003 x112004) else (steepleref25_System_Gate.j2 k x2 (decide (x112003 ≥ x2)) x111000 x111001 x111002 x111003 x111004 x111005 x112000 x112001 x112002 x112003 x112004)) else (steepleref25_System_Gate.j2 k x2 false x111000 x111001 x111002 x111003 x111004 x111005 x112000 x112001 x112002 x112003 x112004)))))
def steepleref25_System_Gate.j2 : Nat → Int → Bool → Int → Int → Int → Int → Int → List (S106) → Int → Int → Int → Int → Int → Option (Int)
 | 0, _, _, _, _, _, _, _, _, _, _, _, _, _ => none
 | k + 1, x2, x74, x111000, x111001, x111002, x111003, x111004, x111005, x112000, x112001, x112002, x112003, x112004 => if x74 = true then (some 4) else ((steepleref25_shifts.f x112000).bind fun t118 => (if t118 = true then ((steepleref18_Fits.f k (wrap64 (x112000 - 3)) x111000 x112004).bind fun t119 => (steepleref25_System_Gate.j3 k x2 (!t119) x111000 x111001 x111002 x111003 x111004 x111005 x112000 x112001 x112002 x112003 x112004)) else (steepleref25_System_Gate.j3 k x2 false x111000 x111001 x111002 x111003 x111004 x111005 x112000 x112001 x112002 x112003 x112004)))
def steepleref25_System_Gate.j3 : Nat → Int → Bool → Int → Int → Int → Int → Int → List (S106) → Int → Int → Int → Int → Int → Option (Int)
 | 0, _, _, _, _, _, _, _, _, _, _, _, _, _ => none
 | k + 1, x2, x88, x111000, x111001, x111002, x111003, x111004, x111005, x112000, x112001, x112002, x112003, x112004 => if x88 = true then (some 1) else (if x112000 = 8 then (if x112000 = 7 then (steepleref25_System_Gate.j4 k x2 (x112004 != (wrap64 (x2 + 1))) x111000 x111001 x111002 x111003 x111004 x111005 x112000 x112001 x112002 x112003 x112004) else (steepleref25_System_Gate.j4 k x2 false x111000 x111001 x111002 x111003 x111004 x111005 x112000 x112001 x112002 x112003 x112004)) else (if x112001 = x2 then (if x112000 = 7 then (steepleref25_System_Gate.j4 k x2 (x112004 != (wrap64 (x2 + 1))) x111000 x111001 x111002 x111003 x111004 x111005 x112000 x112001 x112002 x112003 x112004) else (steepleref25_System_Gate.j4 k x2 false x111000 x111001 x111002 x111003 x111004 x111005 x112000 x112001 x112002 x112003 x112004)) else (steepleref25_System_Gate.j4 k x2 true x111000 x111001 x111002 x111003 x111004 x111005 x112000 x112001 x112002 x112003 x112004)))
def steepleref25_System_Gate.j4 : Nat → Int → Bool → Int → Int → Int → Int → Int → List (S106) → Int → Int → Int → Int → Int → Option (Int)
 | 0, _, _, _, _, _, _, _, _, _, _, _, _, _ => none
 | k + 1, x2, x109, x111000, x111001, x111002, x111003, x111004, x111005, x112000, x112001, x112002, x112003, x112004 => if x109 = true then (some 3) else ((steepleref25_Makes.f x112000 x112001 x112002 x112003 x112004).bind fun t120 => ((steepleref15_Two.f k x111002).bind fun t121 => (if (wrap64 (x2 + t120)) > t121 then (some 2) else (some 0))))
end
def steepleref25_System_Gate.f (k : Nat) (a0_0 : Int) (a0_1 : Int) (a0_2 : Int) (a0_3 : Int) (a0_4 : Int) (l0_5 : List (S106)) (a1_0 : Int) (a1_1 : Int) (a1_2 : Int) (a1_3 : Int) (a1_4 : Int) (a2 : Int) : Option (Int) := if a1_0 < 1 then (steepleref25_System_Gate.j0 k a2 true a0_0 a0_1 a0_2 a0_3 a0_4 l0_5 a1_0 a1_1 a1_2 a1_3 a1_4) else (steepleref25_System_Gate.j0 k a2 (decide (a1_0 > 8)) a0_0 a0_1 a0_2 a0_3 a0_4 l0_5 a1_0 a1_1 a1_2 a1_3 a1_4)
theorem steepleref25_System_Gate.mono_l : ∀ k, (∀ y0 y1 y2 y3 y4 y5 y6 y7 y8 y9 y10 y11 y12, LeO (steepleref25_System_Gate.j0 k y0 y1 y2 y3 y4 y5 y6 y7 y8 y9 y10 y11 y12) (steepleref25_System_Gate.j0 (k + 1) y0 y1 y2 y3 y4 y5 y6 y7 y8 y9 y10 y11 y12)) ∧ (∀ y0 y1 y2 y3 y4 y5 y6 y7 y8 y9 y10 y11 y12, LeO (steepleref25_System_Gate.j1 k y0 y1 y2 y3 y4 y5 y6 y7 y8 y9 y10 y11 y12) (steepleref25_System_Gate.j1 (k + 1) y0 y1 y2 y3 y4 y5 y6 y7 y8 y9 y10 y11 y12)) ∧ (∀ y0 y1 y2 y3 y4 y5 y6 y7 y8 y9 y10 y11 y12, LeO (steepleref25_System_Gate.j2 k y0 y1 y2 y3 y4 y5 y6 y7 y8 y9 y10 y11 y12) (steepleref25_System_Gate.j2 (k + 1) y0 y1 y2 y3 y4 y5 y6 y7 y8 y9 y10 y11 y12)) ∧ (∀ y0 y1 y2 y3 y4 y5 y6 y7 y8 y9 y10 y11 y12, LeO (steepleref25_System_Gate.j3 k y0 y1 y2 y3 y4 y5 y6 y7 y8 y9 y10 y11 y12) (steepleref25_System_Gate.j3 (k + 1) y0 y1 y2 y3 y4 y5 y6 y7 y8 y9 y10 y11 y12)) ∧ (∀ y0 y1 y2 y3 y4 y5 y6 y7 y8 y9 y10 y11 y12, LeO (steepleref25_System_Gate.j4 k y0 y1 y2 y3 y4 y5 y6 y7 y8 y9 y10 y11 y12) (steepleref25_System_Gate.j4 (k + 1) y0 y1 y2 y3 y4 y5 y6 y7 y8 y9 y10 y11 y12))
 | 0 => ⟨fun _ _ _ _ _ _ _ _ _ _ _ _ _ r h => by simp [steepleref25_System_Gate.j0] at h, fun _ _ _ _ _ _ _ _ _ _ _ _ _ r h => by simp [steepleref25_System_Gate.j1] at h, fun _ _ _ _ _ _ _ _ _ _ _ _ _ r h => by simp [steepleref25_System_Gate.j2] at h, fun _ _ _ _ _ _ _ _ _ _ _ _ _ r h => by simp [steepleref25_System_Gate.j3] at h, fun _ _ _ _ _ _ _ _ _ _ _ _ _ r h => by simp [steepleref25_System_Gate.j4] at h⟩
 | k + 1 => by
  obtain ⟨ih0, ih1, ih2, ih3, ih4⟩ := steepleref25_System_Gate.mono_l k
  refine ⟨?_, ?_, ?_, ?_, ?_⟩
  ·intro y0 y1 y2 y3 y4 y5 y6 y7 y8 y9 y10 y11 y12
   unfold steepleref25_System_Gate.j0
   repeat' first
   | (with_reducible exact ih0 _ _ _ _ _ _ _ _ _ _ _ _ _)
   | (with_reducible exact ih1 _ _ _ _ _ _ _ _ _ _ _ _ _)
   | (with_reducible exact ih2 _ _ _ _ _ _ _ _ _ _ _ _ _)
   | (with_reducible exact ih3 _ _ _ _ _ _ _ _ _ _ _ _ _)
   | (with_reducible exact ih4 _ _ _ _ _ _ _ _ _ _ _ _ _)
   | (with_reducible exact steepleref15_Two.mono _ _)
   | (with_reducible exact steepleref18_Fits.mono _ _ _ _)
   | (with_reducible exact LeO.refl _)
   | (with_reducible exact LeO.none _)
   | (with_reducible refine LeO.ite ?_ ?_)
   | (with_reducible refine LeO.bind ?_ (fun _ => ?_))
   | exact ih0 _ _ _ _ _ _ _ _ _ _ _ _ _
   | exact ih1 _ _ _ _ _ _ _ _ _ _ _ _ _
   | exact ih2 _ _ _ _ _ _ _ _ _ _ _ _ _
   | exact ih3 _ _ _ _ _ _ _ _ _ _ _ _ _
   | exact ih4 _ _ _ _ _ _ _ _ _ _ _ _ _
   | exact steepleref15_Two.mono _ _
   | exact steepleref18_Fits.mono _ _ _ _
   | exact LeO.none _
   | refine LeO.ite ?_ ?_
   | refine LeO.bind ?_ (fun _ => ?_)
  ·intro y0 y1 y2 y3 y4 y5 y6 y7 y8 y9 y10 y11 y12
   unfold steepleref25_System_Gate.j1
   repeat' first
   | (with_reducible exact ih0 _ _ _ _ _ _ _ _ _ _ _ _ _)
   | (with_reducible exact ih1 _ _ _ _ _ _ _ _ _ _ _ _ _)
   | (with_reducible exact ih2 _ _ _ _ _ _ _ _ _ _ _ _ _)
   | (with_reducible exact ih3 _ _ _ _ _ _ _ _ _ _ _ _ _)
   | (with_reducible exact ih4 _ _ _ _ _ _ _ _ _ _ _ _ _)
   | (with_reducible exact steepleref15_Two.mono _ _)
   | (with_reducible exact steepleref18_Fits.mono _ _ _ _)
   | (with_reducible exact LeO.refl _)
   | (with_reducible exact LeO.none _)
   | (with_reducible refine LeO.ite ?_ ?_)
   | (with_reducible refine LeO.bind ?_ (fun _ => ?_))
   | exact ih0 _ _ _ _ _ _ _ _ _ _ _ _ _
   | exact ih1 _ _ _ _ _ _ _ _ _ _ _ _ _
   | exact ih2 _ _ _ _ _ _ _ _ _ _ _ _ _
   | exact ih3 _ _ _ _ _ _ _ _ _ _ _ _ _
   | exact ih4 _ _ _ _ _ _ _ _ _ _ _ _ _
   | exact steepleref15_Two.mono _ _
   | exact steepleref18_Fits.mono _ _ _ _
   | exact LeO.none _
   | refine LeO.ite ?_ ?_
   | refine LeO.bind ?_ (fun _ => ?_)
  ·intro y0 y1 y2 y3 y4 y5 y6 y7 y8 y9 y10 y11 y12
   unfold steepleref25_System_Gate.j2
   repeat' first
   | (with_reducible exact ih0 _ _ _ _ _ _ _ _ _ _ _ _ _)
   | (with_reducible exact ih1 _ _ _ _ _ _ _ _ _ _ _ _ _)
   | (with_reducible exact ih2 _ _ _ _ _ _ _ _ _ _ _ _ _)
   | (with_reducible exact ih3 _ _ _ _ _ _ _ _ _ _ _ _ _)
   | (with_reducible exact ih4 _ _ _ _ _ _ _ _ _ _ _ _ _)
   | (with_reducible exact steepleref15_Two.mono _ _)
   | (with_reducible exact steepleref18_Fits.mono _ _ _ _)
   | (with_reducible exact LeO.refl _)
   | (with_reducible exact LeO.none _)
   | (with_reducible refine LeO.ite ?_ ?_)
   | (with_reducible refine LeO.bind ?_ (fun _ => ?_))
   | exact ih0 _ _ _ _ _ _ _ _ _ _ _ _ _
   | exact ih1 _ _ _ _ _ _ _ _ _ _ _ _ _
   | exact ih2 _ _ _ _ _ _ _ _ _ _ _ _ _
   | exact ih3 _ _ _ _ _ _ _ _ _ _ _ _ _
   | exact ih4 _ _ _ _ _ _ _ _ _ _ _ _ _
   | exact steepleref15_Two.mono _ _
   | exact steepleref18_Fits.mono _ _ _ _
   | exact LeO.none _
   | refine LeO.ite ?_ ?_
   | refine LeO.bind ?_ (fun _ => ?_)
  ·intro y0 y1 y2 y3 y4 y5 y6 y7 y8 y9 y10 y11 y12
   unfold steepleref25_System_Gate.j3
   repeat' first
   | (with_reducible exact ih0 _ _ _ _ _ _ _ _ _ _ _ _ _)
   | (with_reducible exact ih1 _ _ _ _ _ _ _ _ _ _ _ _ _)
   | (with_reducible exact ih2 _ _ _ _ _ _ _ _ _ _ _ _ _)
   | (with_reducible exact ih3 _ _ _ _ _ _ _ _ _ _ _ _ _)
   | (with_reducible exact ih4 _ _ _ _ _ _ _ _ _ _ _ _ _)
   | (with_reducible exact steepleref15_Two.mono _ _)
   | (with_reducible exact steepleref18_Fits.mono _ _ _ _)
   | (with_reducible exact LeO.refl _)
   | (with_reducible exact LeO.none _)
   | (with_reducible refine LeO.ite ?_ ?_)
   | (with_reducible refine LeO.bind ?_ (fun _ => ?_))
   | exact ih0 _ _ _ _ _ _ _ _ _ _ _ _ _
   | exact ih1 _ _ _ _ _ _ _ _ _ _ _ _ _
   | exact ih2 _ _ _ _ _ _ _ _ _ _ _ _ _
   | exact ih3 _ _ _ _ _ _ _ _ _ _ _ _ _
   | exact ih4 _ _ _ _ _ _ _ _ _ _ _ _ _
   | exact steepleref15_Two.mono _ _
   | exact steepleref18_Fits.mono _ _ _ _
   | exact LeO.none _
   | refine LeO.ite ?_ ?_
   | refine LeO.bind ?_ (fun _ => ?_)
  ·intro y0 y1 y2 y3 y4 y5 y6 y7 y8 y9 y10 y11 y12
   unfold steepleref25_System_Gate.j4
   repeat' first
   | (with_reducible exact ih0 _ _ _ _ _ _ _ _ _ _ _ _ _)
   | (with_reducible exact ih1 _ _ _ _ _ _ _ _ _ _ _ _ _)
   | (with_reducible exact ih2 _ _ _ _ _ _ _ _ _ _ _ _ _)
   | (with_reducible exact ih3 _ _ _ _ _ _ _ _ _ _ _ _ _)
   | (with_reducible exact ih4 _ _ _ _ _ _ _ _ _ _ _ _ _)
   | (with_reducible exact steepleref15_Two.mono _ _)
   | (with_reducible exact steepleref18_Fits.mono _ _ _ _)
   | (with_reducible exact LeO.refl _)
   | (with_reducible exact LeO.none _)
   | (with_reducible refine LeO.ite ?_ ?_)
   | (with_reducible refine LeO.bind ?_ (fun _ => ?_))
   | exact ih0 _ _ _ _ _ _ _ _ _ _ _ _ _
   | exact ih1 _ _ _ _ _ _ _ _ _ _ _ _ _
   | exact ih2 _ _ _ _ _ _ _ _ _ _ _ _ _
   | exact ih3 _ _ _ _ _ _ _ _ _ _ _ _ _
   | exact ih4 _ _ _ _ _ _ _ _ _ _ _ _ _
   | exact steepleref15_Two.mono _ _
   | exact steepleref18_Fits.mono _ _ _ _
   | exact LeO.none _
   | refine LeO.ite ?_ ?_
   | refine LeO.bind ?_ (fun _ => ?_)
theorem steepleref25_System_Gate.mono : ∀ a0 a1 a2 a3 a4 a5 a6 a7 a8 a9 a10 a11 k, LeO (steepleref25_System_Gate.f k a0 a1 a2 a3 a4 a5 a6 a7 a8 a9 a10 a11) (steepleref25_System_Gate.f (k + 1) a0 a1 a2 a3 a4 a5 a6 a7 a8 a9 a10 a11) := by
 intro a0 a1 a2 a3 a4 a5 a6 a7 a8 a9 a10 a11 k
 obtain ⟨ih0, ih1, ih2, ih3, ih4⟩ := steepleref25_System_Gate.mono_l k
 unfold steepleref25_System_Gate.f
 repeat' first
   | (with_reducible exact ih0 _ _ _ _ _ _ _ _ _ _ _ _ _)
   | (with_reducible exact ih1 _ _ _ _ _ _ _ _ _ _ _ _ _)
   | (with_reducible exact ih2 _ _ _ _ _ _ _ _ _ _ _ _ _)
   | (with_reducible exact ih3 _ _ _ _ _ _ _ _ _ _ _ _ _)
   | (with_reducible exact ih4 _ _ _ _ _ _ _ _ _ _ _ _ _)
   | (with_reducible exact steepleref15_Two.mono _ _)
   | (with_reducible exact steepleref18_Fits.mono _ _ _ _)
   | (with_reducible exact LeO.refl _)
   | (with_reducible exact LeO.none _)
   | (with_reducible refine LeO.ite ?_ ?_)
   | (with_reducible refine LeO.bind ?_ (fun _ => ?_))
   | exact ih0 _ _ _ _ _ _ _ _ _ _ _ _ _
   | exact ih1 _ _ _ _ _ _ _ _ _ _ _ _ _
   | exact ih2 _ _ _ _ _ _ _ _ _ _ _ _ _
   | exact ih3 _ _ _ _ _ _ _ _ _ _ _ _ _
   | exact ih4 _ _ _ _ _ _ _ _ _ _ _ _ _
   | exact steepleref15_Two.mono _ _
   | exact steepleref18_Fits.mono _ _ _ _
   | exact LeO.none _
   | refine LeO.ite ?_ ?_
   | refine LeO.bind ?_ (fun _ => ?_)
def steepleref25_System_Gate.T11 : Bool × List (List Nat × List Nat) := (true, [([], []), ([], []), ([1], [1]), ([0, 2], [0, 2]), ([], []), ([4], [4]), ([5, 2], [5]), ([3, 6], [3, 6])])
def steepleref25_System_Gate.B11 : List Nat := [0, 0, 2, 7, 0, 16, 54, 127]
theorem steepleref25_System_Gate.tab11 : rtab .any (opsOf Try.f59 11) = steepleref25_System_Gate.T11 := by kernel_rfl
theorem steepleref25_System_Gate.bits11 : waitsOk steepleref25_System_Gate.T11.2 steepleref25_System_Gate.B11 = true := by kernel_rfl
set_option maxHeartbeats 8000000 in
set_option maxRecDepth 100000 in
theorem steepleref25_System_Gate.calls (k : Nat) (a0_0 : Int) (a0_1 : Int) (a0_2 : Int) (a0_3 : Int) (a0_4 : Int) (A0_5 : Option Addr) (c0_5 : Nat) (l0_5 : List (S106)) (a1_0 : Int) (a1_1 : Int) (a1_2 : Int) (a1_3 : Int) (a1_4 : Int) (a2 : Int) (r : Int) (w : World) (hr0_5 : Kd.C k106 w A0_5 l0_5.length l0_5) (hc0_5 : l0_5.length ≤ c0_5) (h : steepleref25_System_Gate.f k a0_0 a0_1 a0_2 a0_3 a0_4 l0_5 a1_0 a1_1 a1_2 a1_3 a1_4 a2 = some r) :
  Calls Try.prog 59 #[.agg #[.int .i64 a0_0, .int .i64 a0_1, .int .i64 a0_2, .int .i64 a0_3, .int .i64 a0_4, .slice A0_5 l0_5.length c0_5], .agg #[.int .i64 a1_0, .int .i64 a1_1, .int .i64 a1_2, .int .i64 a1_3, .int .i64 a1_4], .int .i64 a2] w fun e w' => e = .returned (.int .i64 r) ∧ Below w.heap.size w w' := by
 have hu28 := Try.underlying28; have hu106 := Try.underlying106; have HR0_5 := Aside0.mk hr0_5; have HC0_5 := Aside0.mk hc0_5; clear hr0_5 hc0_5; have HB := Aside0.mk (Below.refl w.heap.size w)
 have H : (if a1_0 < 1 then (steepleref25_System_Gate.j0 k a2 true a0_0 a0_1 a0_2 a0_3 a0_4 l0_5 a1_0 a1_1 a1_2 a1_3 a1_4) else (steepleref25_System_Gate.j0 k a2 (decide (a1_0 > 8)) a0_0 a0_1 a0_2 a0_3 a0_4 l0_5 a1_0 a1_1 a1_2 a1_3 a1_4)) = some r := h
 clear h; have HC4 := Aside0.mk H; clear H
 go_enter Try.func59, Try.ntmps59
 go_upto_region 1 with (first | ((with_reducible refine gate_dst (N := 3) rfl ?_); refine box_event ?hg (N := 3) ?hd (cs := #[.int .i64 a0_0, .int .i64 a0_1, .int .i64 a0_2, .int .i64 a0_3, .int .i64 a0_4, .slice A0_5 l0_5.length c0_5]) (t := 28) ?hr ?_; (case hd => rfl); (case hg => rfl); (case hr => first | (go_simp; done) | (go_simp; rfl)); intro gb110 hg w5 hbox hb; have n0_ := Aside0.mk (below_step (blA HB.out) hb); have n1_ := Aside0.mk (hbox); have n2_ := Aside0.mk ((by rw [hg]; exact (below_size (blA HB.out)) : w.heap.size ≤ gb110)); have n3_ := Aside0.mk ((by rw [hg]; exact (below_size (blA HB.out)) : w.heap.size ≤ gb110)); clear HB; have HB := n0_; have BK110 := n1_; have GW110 := n2_; have GE110 := n3_; clear n0_ n1_ n2_ n3_; clear hb hbox hg) | ((with_reducible refine gate_dst (N := 4) rfl ?_); refine box_event ?hg (N := 4) ?hd (cs := #[.int .i64 a1_0, .int .i64 a1_1, .int .i64 a1_2, .int .i64 a1_3, .int .i64 a1_4]) (t := 106) ?hr ?_; (case hd => rfl); (case hg => rfl); (case hr => first | (go_simp; done) | (go_simp; rfl)); intro gb111 hg w6 hbox hb; have n0_ := Aside0.mk (blk_below (bkA BK110.out) hb); have n1_ := Aside0.mk (below_step (blA HB.out) hb); have n2_ := Aside0.mk (hbox); have n3_ := Aside0.mk ((by rw [hg]; exact (below_size (blA HB.out)) : w.heap.size ≤ gb111)); have n4_ := Aside0.mk ((by rw [hg]; exact (below_size (blA HB.out)) : w.heap.size ≤ gb111)); have n5_ := Aside0.mk ((by rw [hg]; exact Nat.ne_of_lt (blk_lt (bkA BK110.out)) : gb110 ≠ gb111)); have n6_ := Aside0.mk ((by rw [hg]; exact Nat.ne_of_gt (blk_lt (bkA BK110.out)) : gb111 ≠ gb110)); clear BK110; clear HB; have BK110 := n0_; have HB := n1_; have BK111 := n2_; have GW111 := n3_; have GE111 := n4_; have NB110_111 := n5_; have NB111_110 := n6_; clear n0_ n1_ n2_ n3_ n4_ n5_ n6_; clear hb hbox hg))
 (try simp only [Act.put, List.setIfInBounds_toArray, List.set_cons_zero, List.set_cons_succ])
 go_cut [14] (fun v14 wc => ∃ (kq : Nat) (x14_3 : Bool), v14 = .bool x14_3 ∧ Aside0 (steepleref25_System_Gate.j0 kq a2 x14_3 a0_0 a0_1 a0_2 a0_3 a0_4 l0_5 a1_0 a1_1 a1_2 a1_3 a1_4 = some r) ∧ Aside0 (kq ≤ k) ∧ Aside0 (wc.heap[gb110]? = some (.cells #[.int .i64 a0_0, .int .i64 a0_1, .int .i64 a0_2, .int .i64 a0_3, .int .i64 a0_4, (.slice A0_5 l0_5.length c0_5)] 28 (0, 0))) ∧ Aside0 (wc.heap[gb111]? = some (.cells #[.int .i64 a1_0, .int .i64 a1_1, .int .i64 a1_2, .int .i64 a1_3, .int .i64 a1_4] 106 (0, 0))) ∧ Aside0 (Below w.heap.size w wc))
 case first =>
  have H := HC4.out; clear HC4
  by_cases c7 : a1_0 < 1
  ·rw [if_pos c7] at H
   have c7b0 : decide (a1_0 < 1) = true := decide_eq_true c7; clear c7
   (first | rw [c7b0] | (simp only [i64_w, i32_w]; rw [c7b0]) | skip)
   have H' := Aside0.mk H; clear H; have hnb8 := NB111_110.out; have hnc8 := NB110_111.out
   have hcz9 := fun i => blk_cell BK111.out i
   have hfz9 := fun i => blk_frozen BK111.out i
   go_wp2
   go_meet
   case rel => exact ⟨_, (true), eqA, H', ⟨omA⟩, ⟨bkA BK110.out⟩, ⟨bkA BK111.out⟩, ⟨blA HB.out⟩⟩
  ·rw [if_neg c7] at H
   have c7b0 : decide (a1_0 < 1) = false := decide_eq_false c7; clear c7
   (first | rw [c7b0] | (simp only [i64_w, i32_w]; rw [c7b0]) | skip)
   have H' := Aside0.mk H; clear H; have hnb10 := NB111_110.out; have hnc10 := NB110_111.out
   have hcz11 := fun i => blk_cell BK111.out i
   have hfz11 := fun i => blk_frozen BK111.out i
   go_wp2
   go_meet
   case rel => exact ⟨_, (decide (a1_0 > 8)), eqA, H', ⟨omA⟩, ⟨bkA BK110.out⟩, ⟨bkA BK111.out⟩, ⟨blA HB.out⟩⟩
 case rest =>
  clear HC4; (try clear c1); (try clear p2); (try clear c5); (try clear c7); (try clear c7b0); (try clear c8); (try clear c10); (try clear hcz11); (try clear hcz9); (try clear hfz11); (try clear hfz9); obtain ⟨kq, x14_3, rfl, HA, HJ3, BK110, BK111, HB⟩ := hcut
  cases kq with
  | zero => exact absurd HA.out (by simp [steepleref25_System_Gate.j0])
  | succ kj3 =>
   have H := HA.out; clear HA
   simp only [steepleref25_System_Gate.j0] at H
   by_cases c12 : x14_3 = true
   ·subst c12
    have H1 : (some 3) = some r := by rw [if_pos rfl] at H; exact H
    clear H; have H := H1; clear H1; obtain rfl := Option.some.inj H
    go_wp2
    go_ret
    exact ⟨by first | rfl | (simp [errW_none, errW_some] <;> rfl) | (simp [*, errW_none, errW_some] <;> rfl), blA HB.out⟩
   ·replace c12 := Bool.eq_false_iff.mpr c12; subst c12
    have H1 : ((steepleref25_two.f a1_0).bind fun t112 => (if t112 = true then (if a1_0 = 8 then (if a1_1 = 0 then ((steepleref25_shifts.f a1_0).bind fun t113 => (if t113 = true then (steepleref25_System_Gate.j1 kj3 a2 false a0_0 a0_1 a0_2 a0_3 a0_4 l0_5 a1_0 a1_1 a1_2 a1_3 a1_4) else (if a1_0 = 7 then (steepleref25_System_Gate.j1 kj3 a2 false a0_0 a0_1 a0_2 a0_3 a0_4 l0_5 a1_0 a1_1 a1_2 a1_3 a1_4) else (steepleref25_System_Gate.j1 kj3 a2 (a1_4 != 0) a0_0 a0_1 a0_2 a0_3 a0_4 l0_5 a1_0 a1_1 a1_2 a1_3 a1_4)))) else (steepleref25_System_Gate.j1 kj3 a2 true a0_0 a0_1 a0_2 a0_3 a0_4 l0_5 a1_0 a1_1 a1_2 a1_3 a1_4)) else ((steepleref25_shifts.f a1_0).bind fun t114 => (if t114 = true then (steepleref25_System_Gate.j1 kj3 a2 false a0_0 a0_1 a0_2 a0_3 a0_4 l0_5 a1_0 a1_1 a1_2 a1_3 a1_4) else (if a1_0 = 7 then (steepleref25_System_Gate.j1 kj3 a2 false a0_0 a0_1 a0_2 a0_3 a0_4 l0_5 a1_0 a1_1 a1_2 a1_3 a1_4) else (steepleref25_System_Gate.j1 kj3 a2 (a1_4 != 0) a0_0 a0_1 a0_2 a0_3 a0_4 l0_5 a1_0 a1_1 a1_2 a1_3 a1_4))))) else (if a1_3 = 0 then (if a1_0 = 8 then (if a1_1 = 0 then ((steepleref25_shifts.f a1_0).bind fun t115 => (if t115 = true then (steepleref25_System_Gate.j1 kj3 a2 false a0_0 a0_1 a0_2 a0_3 a0_4 l0_5 a1_0 a1_1 a1_2 a1_3 a1_4) else (if a1_0 = 7 then (steepleref25_System_Gate.j1 kj3 a2 false a0_0 a0_1 a0_2 a0_3 a0_4 l0_5 a1_0 a1_1 a1_2 a1_3 a1_4) else (steepleref25_System_Gate.j1 kj3 a2 (a1_4 != 0) a0_0 a0_1 a0_2 a0_3 a0_4 l0_5 a1_0 a1_1 a1_2 a1_3 a1_4)))) else (steepleref25_System_Gate.j1 kj3 a2 true a0_0 a0_1 a0_2 a0_3 a0_4 l0_5 a1_0 a1_1 a1_2 a1_3 a1_4)) else ((steepleref25_shifts.f a1_0).bind fun t116 => (if t116 = true then (steepleref25_System_Gate.j1 kj3 a2 false a0_0 a0_1 a0_2 a0_3 a0_4 l0_5 a1_0 a1_1 a1_2 a1_3 a1_4) else (if a1_0 = 7 then (steepleref25_System_Gate.j1 kj3 a2 false a0_0 a0_1 a0_2 a0_3 a0_4 l0_5 a1_0 a1_1 a1_2 a1_3 a1_4) else (steepleref25_System_Gate.j1 kj3 a2 (a1_4 != 0) a0_0 a0_1 a0_2 a0_3 a0_4 l0_5 a1_0 a1_1 a1_2 a1_3 a1_4))))) else (steepleref25_System_Gate.j1 kj3 a2 true a0_0 a0_1 a0_2 a0_3 a0_4 l0_5 a1_0 a1_1 a1_2 a1_3 a1_4)))) = some r := by rw [if_neg (show ¬ (false = true) by decide)] at H; exact H
    clear H; have H := H1; clear H1; have HC13 := Aside0.mk H; clear H
    go_upto_region 3 with (fail)
    go_cut [49] (fun v49 wc => ∃ (kq : Nat) (x49_12 : Bool), v49 = .bool x49_12 ∧ Aside0 (steepleref25_System_Gate.j1 kq a2 x49_12 a0_0 a0_1 a0_2 a0_3 a0_4 l0_5 a1_0 a1_1 a1_2 a1_3 a1_4 = some r) ∧ Aside0 (kq ≤ kj3) ∧ Aside0 (wc.heap[gb110]? = some (.cells #[.int .i64 a0_0, .int .i64 a0_1, .int .i64 a0_2, .int .i64 a0_3, .int .i64 a0_4, (.slice A0_5 l0_5.length c0_5)] 28 (0, 0))) ∧ Aside0 (wc.heap[gb111]? = some (.cells #[.int .i64 a1_0, .int .i64 a1_1, .int .i64 a1_2, .int .i64 a1_3, .int .i64 a1_4] 106 (0, 0))) ∧ Aside0 (Below w.heap.size w wc))
    case first =>
     have H := HC13.out; clear HC13; replace H := Option.bind_eq_some_iff.mp H; obtain ⟨t112, A140, H⟩ := H
     (try dsimp only at H)
     have A14 := Aside0.mk A140; clear A140
     by_cases c15 : t112 = true
     ·subst c15
      have H1 : (if a1_0 = 8 then (if a1_1 = 0 then ((steepleref25_shifts.f a1_0).bind fun t113 => (if t113 = true then (steepleref25_System_Gate.j1 kj3 a2 false a0_0 a0_1 a0_2 a0_3 a0_4 l0_5 a1_0 a1_1 a1_2 a1_3 a1_4) else (if a1_0 = 7 then (steepleref25_System_Gate.j1 kj3 a2 false a0_0 a0_1 a0_2 a0_3 a0_4 l0_5 a1_0 a1_1 a1_2 a1_3 a1_4) else (steepleref25_System_Gate.j1 kj3 a2 (a1_4 != 0) a0_0 a0_1 a0_2 a0_3 a0_4 l0_5 a1_0 a1_1 a1_2 a1_3 a1_4)))) else (steepleref25_System_Gate.j1 kj3 a2 true a0_0 a0_1 a0_2 a0_3 a0_4 l0_5 a1_0 a1_1 a1_2 a1_3 a1_4)) else ((steepleref25_shifts.f a1_0).bind fun t114 => (if t114 = true then (steepleref25_System_Gate.j1 kj3 a2 false a0_0 a0_1 a0_2 a0_3 a0_4 l0_5 a1_0 a1_1 a1_2 a1_3 a1_4) else (if a1_0 = 7 then (steepleref25_System_Gate.j1 kj3 a2 false a0_0 a0_1 a0_2 a0_3 a0_4 l0_5 a1_0 a1_1 a1_2 a1_3 a1_4) else (steepleref25_System_Gate.j1 kj3 a2 (a1_4 != 0) a0_0 a0_1 a0_2 a0_3 a0_4 l0_5 a1_0 a1_1 a1_2 a1_3 a1_4))))) = some r := by rw [if_pos rfl] at H; exact H
      clear H; have H := H1; clear H1
      by_cases c16 : a1_0 = 8
      ·rw [if_pos c16] at H
       have c16b0 : (a1_0 == 8) = true := beq_iff_eq.mpr c16; have c16b1 : (a1_0 != 8) = false := bne_eq_false_iff_eq.mpr c16; clear c16
       (first | rw [c16b0] | (simp only [i64_w, i32_w]; rw [c16b0]) | skip)
       by_cases c17 : a1_1 = 0
       ·rw [if_pos c17] at H
        have c17b0 : (a1_1 == 0) = true := beq_iff_eq.mpr c17; have c17b1 : (a1_1 != 0) = false := bne_eq_false_iff_eq.mpr c17; clear c17; replace H := Option.bind_eq_some_iff.mp H; obtain ⟨t113, A180, H⟩ := H
        (try dsimp only at H)
        have A18 := Aside0.mk A180; clear A180
        by_cases c19 : t113 = true
        ·subst c19
         have H1 : (steepleref25_System_Gate.j1 kj3 a2 false a0_0 a0_1 a0_2 a0_3 a0_4 l0_5 a1_0 a1_1 a1_2 a1_3 a1_4) = some r := by rw [if_pos rfl] at H; exact H
         clear H; have H := H1; clear H1; have H' := Aside0.mk H; clear H; have hnb20 := NB111_110.out; have hnc20 := NB110_111.out
         have hcz21 := fun i => blk_cell BK111.out i
         have hfz21 := fun i => blk_frozen BK111.out i
         go_wp2_with (first | ((with_reducible refine gate_callee (f := 89) rfl ?_); refine goesL_ (some 17) rfl rfl Try.func89 (by kernel_rfl) rfl #[.int .i64 a1_0] rfl gsA ?_; (with_reducible refine (steepleref25_two.calls a1_0 true _ A14.out).mono ?_); rintro e w' ⟨rfl, ⟨nd, rfl⟩⟩; refine ⟨_, rfl, ?_⟩) | (go_at_call 90; (with_reducible refine (steepleref25_shifts.calls a1_0 true _ A18.out).mono ?_); rintro e w' ⟨rfl, ⟨nd, rfl⟩⟩))
         go_meet
         case rel => exact ⟨_, (false), eqA, H', ⟨by have := HJ3.out; first | omega | exact Nat.le_refl _⟩, ⟨bkA BK110.out⟩, ⟨bkA BK111.out⟩, ⟨blA HB.out⟩⟩
        ·replace c19 := Bool.eq_false_iff.mpr c19; subst c19
         have H1 : (if a1_0 = 7 then (steepleref25_System_Gate.j1 kj3 a2 false a0_0 a0_1 a0_2 a0_3 a0_4 l0_5 a1_0 a1_1 a1_2 a1_3 a1_4) else (steepleref25_System_Gate.j1 kj3 a2 (a1_4 != 0) a0_0 a0_1 a0_2 a0_3 a0_4 l0_5 a1_0 a1_1 a1_2 a1_3 a1_4)) = some r := by rw [if_neg (show ¬ (false = true) by decide)] at H; exact H
         clear H; have H := H1; clear H1
         by_cases c22 : a1_0 = 7
         ·rw [if_pos c22] at H
          have c22b0 : (a1_0 == 7) = true := beq_iff_eq.mpr c22; have c22b1 : (a1_0 != 7) = false := bne_eq_false_iff_eq.mpr c22; clear c22; have H' := Aside0.mk H; clear H; have hnb23 := NB111_110.out; have hnc23 := NB110_111.out
          have hcz24 := fun i => blk_cell BK111.out i
          have hfz24 := fun i => blk_frozen BK111.out i
          go_wp2_with (first | ((with_reducible refine gate_callee (f := 89) rfl ?_); refine goesL_ (some 17) rfl rfl Try.func89 (by kernel_rfl) rfl #[.int .i64 a1_0] rfl gsA ?_; (with_reducible refine (steepleref25_two.calls a1_0 true _ A14.out).mono ?_); rintro e w' ⟨rfl, ⟨nd, rfl⟩⟩; refine ⟨_, rfl, ?_⟩) | (go_at_call 90; (with_reducible refine (steepleref25_shifts.calls a1_0 false _ A18.out).mono ?_); rintro e w' ⟨rfl, ⟨nd, rfl⟩⟩))
          go_meet
          case rel => exact ⟨_, (false), eqA, H', ⟨by have := HJ3.out; first | omega | exact Nat.le_refl _⟩, ⟨bkA BK110.out⟩, ⟨bkA BK111.out⟩, ⟨blA HB.out⟩⟩
         ·rw [if_neg c22] at H
          have c22b0 : (a1_0 == 7) = false := beq_eq_false_iff_ne.mpr c22; have c22b1 : (a1_0 != 7) = true := bne_iff_ne.mpr c22; have H' := Aside0.mk H; clear H; have hnb25 := NB111_110.out; have hnc25 := NB110_111.out
          have hcz26 := fun i => blk_cell BK111.out i
          have hfz26 := fun i => blk_frozen BK111.out i
          go_wp2_with (first | ((with_reducible refine gate_callee (f := 89) rfl ?_); refine goesL_ (some 17) rfl rfl Try.func89 (by kernel_rfl) rfl #[.int .i64 a1_0] rfl gsA ?_; (with_reducible refine (steepleref25_two.calls a1_0 true _ A14.out).mono ?_); rintro e w' ⟨rfl, ⟨nd, rfl⟩⟩; refine ⟨_, rfl, ?_⟩) | (go_at_call 90; (with_reducible refine (steepleref25_shifts.calls a1_0 false _ A18.out).mono ?_); rintro e w' ⟨rfl, ⟨nd, rfl⟩⟩))
          go_meet
          case rel => exact ⟨_, ((a1_4 != 0)), eqA, H', ⟨by have := HJ3.out; first | omega | exact Nat.le_refl _⟩, ⟨bkA BK110.out⟩, ⟨bkA BK111.out⟩, ⟨blA HB.out⟩⟩
       ·rw [if_neg c17] at H
        have c17b0 : (a1_1 == 0) = false := beq_eq_false_iff_ne.mpr c17; have c17b1 : (a1_1 != 0) = true := bne_iff_ne.mpr c17; have H' := Aside0.mk H; clear H; have hnb27 := NB111_110.out; have hnc27 := NB110_111.out
        have hcz28 := fun i => blk_cell BK111.out i
        have hfz28 := fun i => blk_frozen BK111.out i
        go_wp2_with (first | ((with_reducible refine gate_callee (f := 89) rfl ?_); refine goesL_ (some 17) rfl rfl Try.func89 (by kernel_rfl) rfl #[.int .i64 a1_0] rfl gsA ?_; (with_reducible refine (steepleref25_two.calls a1_0 true _ A14.out).mono ?_); rintro e w' ⟨rfl, ⟨nd, rfl⟩⟩; refine ⟨_, rfl, ?_⟩))
        go_meet
        case rel => exact ⟨_, (true), eqA, H', ⟨by have := HJ3.out; first | omega | exact Nat.le_refl _⟩, ⟨bkA BK110.out⟩, ⟨bkA BK111.out⟩, ⟨blA HB.out⟩⟩
      ·rw [if_neg c16] at H
       have c16b0 : (a1_0 == 8) = false := beq_eq_false_iff_ne.mpr c16; have c16b1 : (a1_0 != 8) = true := bne_iff_ne.mpr c16
       (first | rw [c16b0] | (simp only [i64_w, i32_w]; rw [c16b0]) | skip)
       replace H := Option.bind_eq_some_iff.mp H; obtain ⟨t114, A290, H⟩ := H
       (try dsimp only at H)
       have A29 := Aside0.mk A290; clear A290
       by_cases c30 : t114 = true
       ·subst c30
        have H1 : (steepleref25_System_Gate.j1 kj3 a2 false a0_0 a0_1 a0_2 a0_3 a0_4 l0_5 a1_0 a1_1 a1_2 a1_3 a1_4) = some r := by rw [if_pos rfl] at H; exact H
        clear H; have H := H1; clear H1; have H' := Aside0.mk H; clear H; have hnb31 := NB111_110.out; have hnc31 := NB110_111.out
        have hcz32 := fun i => blk_cell BK111.out i
        have hfz32 := fun i => blk_frozen BK111.out i
        go_wp2_with (first | ((with_reducible refine gate_callee (f := 89) rfl ?_); refine goesL_ (some 17) rfl rfl Try.func89 (by kernel_rfl) rfl #[.int .i64 a1_0] rfl gsA ?_; (with_reducible refine (steepleref25_two.calls a1_0 true _ A14.out).mono ?_); rintro e w' ⟨rfl, ⟨nd, rfl⟩⟩; refine ⟨_, rfl, ?_⟩) | (go_at_call 90; (with_reducible refine (steepleref25_shifts.calls a1_0 true _ A29.out).mono ?_); rintro e w' ⟨rfl, ⟨nd, rfl⟩⟩))
        go_meet
        case rel => exact ⟨_, (false), eqA, H', ⟨by have := HJ3.out; first | omega | exact Nat.le_refl _⟩, ⟨bkA BK110.out⟩, ⟨bkA BK111.out⟩, ⟨blA HB.out⟩⟩
       ·replace c30 := Bool.eq_false_iff.mpr c30; subst c30
        have H1 : (if a1_0 = 7 then (steepleref25_System_Gate.j1 kj3 a2 false a0_0 a0_1 a0_2 a0_3 a0_4 l0_5 a1_0 a1_1 a1_2 a1_3 a1_4) else (steepleref25_System_Gate.j1 kj3 a2 (a1_4 != 0) a0_0 a0_1 a0_2 a0_3 a0_4 l0_5 a1_0 a1_1 a1_2 a1_3 a1_4)) = some r := by rw [if_neg (show ¬ (false = true) by decide)] at H; exact H
        clear H; have H := H1; clear H1
        by_cases c33 : a1_0 = 7
        ·rw [if_pos c33] at H
         have c33b0 : (a1_0 == 7) = true := beq_iff_eq.mpr c33; have c33b1 : (a1_0 != 7) = false := bne_eq_false_iff_eq.mpr c33; clear c33; have H' := Aside0.mk H; clear H; have hnb34 := NB111_110.out; have hnc34 := NB110_111.out
         have hcz35 := fun i => blk_cell BK111.out i
         have hfz35 := fun i => blk_frozen BK111.out i
         go_wp2_with (first | ((with_reducible refine gate_callee (f := 89) rfl ?_); refine goesL_ (some 17) rfl rfl Try.func89 (by kernel_rfl) rfl #[.int .i64 a1_0] rfl gsA ?_; (with_reducible refine (steepleref25_two.calls a1_0 true _ A14.out).mono ?_); rintro e w' ⟨rfl, ⟨nd, rfl⟩⟩; refine ⟨_, rfl, ?_⟩) | (go_at_call 90; (with_reducible refine (steepleref25_shifts.calls a1_0 false _ A29.out).mono ?_); rintro e w' ⟨rfl, ⟨nd, rfl⟩⟩))
         go_meet
         case rel => exact ⟨_, (false), eqA, H', ⟨by have := HJ3.out; first | omega | exact Nat.le_refl _⟩, ⟨bkA BK110.out⟩, ⟨bkA BK111.out⟩, ⟨blA HB.out⟩⟩
        ·rw [if_neg c33] at H
         have c33b0 : (a1_0 == 7) = false := beq_eq_false_iff_ne.mpr c33; have c33b1 : (a1_0 != 7) = true := bne_iff_ne.mpr c33; have H' := Aside0.mk H; clear H; have hnb36 := NB111_110.out; have hnc36 := NB110_111.out
         have hcz37 := fun i => blk_cell BK111.out i
         have hfz37 := fun i => blk_frozen BK111.out i
         go_wp2_with (first | ((with_reducible refine gate_callee (f := 89) rfl ?_); refine goesL_ (some 17) rfl rfl Try.func89 (by kernel_rfl) rfl #[.int .i64 a1_0] rfl gsA ?_; (with_reducible refine (steepleref25_two.calls a1_0 true _ A14.out).mono ?_); rintro e w' ⟨rfl, ⟨nd, rfl⟩⟩; refine ⟨_, rfl, ?_⟩) | (go_at_call 90; (with_reducible refine (steepleref25_shifts.calls a1_0 false _ A29.out).mono ?_); rintro e w' ⟨rfl, ⟨nd, rfl⟩⟩))
         go_meet
         case rel => exact ⟨_, ((a1_4 != 0)), eqA, H', ⟨by have := HJ3.out; first | omega | exact Nat.le_refl _⟩, ⟨bkA BK110.out⟩, ⟨bkA BK111.out⟩, ⟨blA HB.out⟩⟩
     ·replace c15 := Bool.eq_false_iff.mpr c15; subst c15
      have H1 : (if a1_3 = 0 then (if a1_0 = 8 then (if a1_1 = 0 then ((steepleref25_shifts.f a1_0).bind fun t115 => (if t115 = true then (steepleref25_System_Gate.j1 kj3 a2 false a0_0 a0_1 a0_2 a0_3 a0_4 l0_5 a1_0 a1_1 a1_2 a1_3 a1_4) else (if a1_0 = 7 then (steepleref25_System_Gate.j1 kj3 a2 false a0_0 a0_1 a0_2 a0_3 a0_4 l0_5 a1_0 a1_1 a1_2 a1_3 a1_4) else (steepleref25_System_Gate.j1 kj3 a2 (a1_4 != 0) a0_0 a0_1 a0_2 a0_3 a0_4 l0_5 a1_0 a1_1 a1_2 a1_3 a1_4)))) else (steepleref25_System_Gate.j1 kj3 a2 true a0_0 a0_1 a0_2 a0_3 a0_4 l0_5 a1_0 a1_1 a1_2 a1_3 a1_4)) else ((steepleref25_shifts.f a1_0).bind fun t116 => (if t116 = true then (steepleref25_System_Gate.j1 kj3 a2 false a0_0 a0_1 a0_2 a0_3 a0_4 l0_5 a1_0 a1_1 a1_2 a1_3 a1_4) else (if a1_0 = 7 then (steepleref25_System_Gate.j1 kj3 a2 false a0_0 a0_1 a0_2 a0_3 a0_4 l0_5 a1_0 a1_1 a1_2 a1_3 a1_4) else (steepleref25_System_Gate.j1 kj3 a2 (a1_4 != 0) a0_0 a0_1 a0_2 a0_3 a0_4 l0_5 a1_0 a1_1 a1_2 a1_3 a1_4))))) else (steepleref25_System_Gate.j1 kj3 a2 true a0_0 a0_1 a0_2 a0_3 a0_4 l0_5 a1_0 a1_1 a1_2 a1_3 a1_4)) = some r := by rw [if_neg (show ¬ (false = true) by decide)] at H; exact H
      clear H; have H := H1; clear H1
      by_cases c38 : a1_3 = 0
      ·rw [if_pos c38] at H
       have c38b0 : (a1_3 == 0) = true := beq_iff_eq.mpr c38; have c38b1 : (a1_3 != 0) = false := bne_eq_false_iff_eq.mpr c38; clear c38
       by_cases c39 : a1_0 = 8
       ·rw [if_pos c39] at H
        have c39b0 : (a1_0 == 8) = true := beq_iff_eq.mpr c39; have c39b1 : (a1_0 != 8) = false := bne_eq_false_iff_eq.mpr c39; clear c39
        by_cases c40 : a1_1 = 0
        ·rw [if_pos c40] at H
         have c40b0 : (a1_1 == 0) = true := beq_iff_eq.mpr c40; have c40b1 : (a1_1 != 0) = false := bne_eq_false_iff_eq.mpr c40; clear c40; replace H := Option.bind_eq_some_iff.mp H; obtain ⟨t115, A410, H⟩ := H
         (try dsimp only at H)
         have A41 := Aside0.mk A410; clear A410
         by_cases c42 : t115 = true
         ·subst c42
          have H1 : (steepleref25_System_Gate.j1 kj3 a2 false a0_0 a0_1 a0_2 a0_3 a0_4 l0_5 a1_0 a1_1 a1_2 a1_3 a1_4) = some r := by rw [if_pos rfl] at H; exact H
          clear H; have H := H1; clear H1; have H' := Aside0.mk H; clear H; have hnb43 := NB111_110.out; have hnc43 := NB110_111.out
          have hcz44 := fun i => blk_cell BK111.out i
          have hfz44 := fun i => blk_frozen BK111.out i
          go_wp2_with (first | ((with_reducible refine gate_callee (f := 89) rfl ?_); refine goesL_ (some 17) rfl rfl Try.func89 (by kernel_rfl) rfl #[.int .i64 a1_0] rfl gsA ?_; (with_reducible refine (steepleref25_two.calls a1_0 false _ A14.out).mono ?_); rintro e w' ⟨rfl, ⟨nd, rfl⟩⟩; refine ⟨_, rfl, ?_⟩) | (go_at_call 90; (with_reducible refine (steepleref25_shifts.calls a1_0 true _ A41.out).mono ?_); rintro e w' ⟨rfl, ⟨nd, rfl⟩⟩))
          go_meet
          case rel => exact ⟨_, (false), eqA, H', ⟨by have := HJ3.out; first | omega | exact Nat.le_refl _⟩, ⟨bkA BK110.out⟩, ⟨bkA BK111.out⟩, ⟨blA HB.out⟩⟩
         ·replace c42 := Bool.eq_false_iff.mpr c42; subst c42
          have H1 : (if a1_0 = 7 then (steepleref25_System_Gate.j1 kj3 a2 false a0_0 a0_1 a0_2 a0_3 a0_4 l0_5 a1_0 a1_1 a1_2 a1_3 a1_4) else (steepleref25_System_Gate.j1 kj3 a2 (a1_4 != 0) a0_0 a0_1 a0_2 a0_3 a0_4 l0_5 a1_0 a1_1 a1_2 a1_3 a1_4)) = some r := by rw [if_neg (show ¬ (false = true) by decide)] at H; exact H
          clear H; have H := H1; clear H1
          by_cases c45 : a1_0 = 7
          ·rw [if_pos c45] at H
           have c45b0 : (a1_0 == 7) = true := beq_iff_eq.mpr c45; have c45b1 : (a1_0 != 7) = false := bne_eq_false_iff_eq.mpr c45; clear c45; have H' := Aside0.mk H; clear H; have hnb46 := NB111_110.out; have hnc46 := NB110_111.out
           have hcz47 := fun i => blk_cell BK111.out i
           have hfz47 := fun i => blk_frozen BK111.out i
           go_wp2_with (first | ((with_reducible refine gate_callee (f := 89) rfl ?_); refine goesL_ (some 17) rfl rfl Try.func89 (by kernel_rfl) rfl #[.int .i64 a1_0] rfl gsA ?_; (with_reducible refine (steepleref25_two.calls a1_0 false _ A14.out).mono ?_); rintro e w' ⟨rfl, ⟨nd, rfl⟩⟩; refine ⟨_, rfl, ?_⟩) | (go_at_call 90; (with_reducible refine (steepleref25_shifts.calls a1_0 false _ A41.out).mono ?_); rintro e w' ⟨rfl, ⟨nd, rfl⟩⟩))
           go_meet
           case rel => exact ⟨_, (false), eqA, H', ⟨by have := HJ3.out; first | omega | exact Nat.le_refl _⟩, ⟨bkA BK110.out⟩, ⟨bkA BK111.out⟩, ⟨blA HB.out⟩⟩
          ·rw [if_neg c45] at H
           have c45b0 : (a1_0 == 7) = false := beq_eq_false_iff_ne.mpr c45; have c45b1 : (a1_0 != 7) = true := bne_iff_ne.mpr c45; have H' := Aside0.mk H; clear H; have hnb48 := NB111_110.out; have hnc48 := NB110_111.out
           have hcz49 := fun i => blk_cell BK111.out i
           have hfz49 := fun i => blk_frozen BK111.out i
           go_wp2_with (first | ((with_reducible refine gate_callee (f := 89) rfl ?_); refine goesL_ (some 17) rfl rfl Try.func89 (by kernel_rfl) rfl #[.int .i64 a1_0] rfl gsA ?_; (with_reducible refine (steepleref25_two.calls a1_0 false _ A14.out).mono ?_); rintro e w' ⟨rfl, ⟨nd, rfl⟩⟩; refine ⟨_, rfl, ?_⟩) | (go_at_call 90; (with_reducible refine (steepleref25_shifts.calls a1_0 false _ A41.out).mono ?_); rintro e w' ⟨rfl, ⟨nd, rfl⟩⟩))
           go_meet
           case rel => exact ⟨_, ((a1_4 != 0)), eqA, H', ⟨by have := HJ3.out; first | omega | exact Nat.le_refl _⟩, ⟨bkA BK110.out⟩, ⟨bkA BK111.out⟩, ⟨blA HB.out⟩⟩
        ·rw [if_neg c40] at H
         have c40b0 : (a1_1 == 0) = false := beq_eq_false_iff_ne.mpr c40; have c40b1 : (a1_1 != 0) = true := bne_iff_ne.mpr c40; have H' := Aside0.mk H; clear H; have hnb50 := NB111_110.out; have hnc50 := NB110_111.out
         have hcz51 := fun i => blk_cell BK111.out i
         have hfz51 := fun i => blk_frozen BK111.out i
         go_wp2_with (first | ((with_reducible refine gate_callee (f := 89) rfl ?_); refine goesL_ (some 17) rfl rfl Try.func89 (by kernel_rfl) rfl #[.int .i64 a1_0] rfl gsA ?_; (with_reducible refine (steepleref25_two.calls a1_0 false _ A14.out).mono ?_); rintro e w' ⟨rfl, ⟨nd, rfl⟩⟩; refine ⟨_, rfl, ?_⟩))
         go_meet
         case rel => exact ⟨_, (true), eqA, H', ⟨by have := HJ3.out; first | omega | exact Nat.le_refl _⟩, ⟨bkA BK110.out⟩, ⟨bkA BK111.out⟩, ⟨blA HB.out⟩⟩
       ·rw [if_neg c39] at H
        have c39b0 : (a1_0 == 8) = false := beq_eq_false_iff_ne.mpr c39; have c39b1 : (a1_0 != 8) = true := bne_iff_ne.mpr c39; replace H := Option.bind_eq_some_iff.mp H; obtain ⟨t116, A520, H⟩ := H
        (try dsimp only at H)
        have A52 := Aside0.mk A520; clear A520
        by_cases c53 : t116 = true
        ·subst c53
         have H1 : (steepleref25_System_Gate.j1 kj3 a2 false a0_0 a0_1 a0_2 a0_3 a0_4 l0_5 a1_0 a1_1 a1_2 a1_3 a1_4) = some r := by rw [if_pos rfl] at H; exact H
         clear H; have H := H1; clear H1; have H' := Aside0.mk H; clear H; have hnb54 := NB111_110.out; have hnc54 := NB110_111.out
         have hcz55 := fun i => blk_cell BK111.out i
         have hfz55 := fun i => blk_frozen BK111.out i
         go_wp2_with (first | ((with_reducible refine gate_callee (f := 89) rfl ?_); refine goesL_ (some 17) rfl rfl Try.func89 (by kernel_rfl) rfl #[.int .i64 a1_0] rfl gsA ?_; (with_reducible refine (steepleref25_two.calls a1_0 false _ A14.out).mono ?_); rintro e w' ⟨rfl, ⟨nd, rfl⟩⟩; refine ⟨_, rfl, ?_⟩) | (go_at_call 90; (with_reducible refine (steepleref25_shifts.calls a1_0 true _ A52.out).mono ?_); rintro e w' ⟨rfl, ⟨nd, rfl⟩⟩))
         go_meet
         case rel => exact ⟨_, (false), eqA, H', ⟨by have := HJ3.out; first | omega | exact Nat.le_refl _⟩, ⟨bkA BK110.out⟩, ⟨bkA BK111.out⟩, ⟨blA HB.out⟩⟩
        ·replace c53 := Bool.eq_false_iff.mpr c53; subst c53
         have H1 : (if a1_0 = 7 then (steepleref25_System_Gate.j1 kj3 a2 false a0_0 a0_1 a0_2 a0_3 a0_4 l0_5 a1_0 a1_1 a1_2 a1_3 a1_4) else (steepleref25_System_Gate.j1 kj3 a2 (a1_4 != 0) a0_0 a0_1 a0_2 a0_3 a0_4 l0_5 a1_0 a1_1 a1_2 a1_3 a1_4)) = some r := by rw [if_neg (show ¬ (false = true) by decide)] at H; exact H
         clear H; have H := H1; clear H1
         by_cases c56 : a1_0 = 7
         ·rw [if_pos c56] at H
          have c56b0 : (a1_0 == 7) = true := beq_iff_eq.mpr c56; have c56b1 : (a1_0 != 7) = false := bne_eq_false_iff_eq.mpr c56; clear c56; have H' := Aside0.mk H; clear H; have hnb57 := NB111_110.out; have hnc57 := NB110_111.out
          have hcz58 := fun i => blk_cell BK111.out i
          have hfz58 := fun i => blk_frozen BK111.out i
          go_wp2_with (first | ((with_reducible refine gate_callee (f := 89) rfl ?_); refine goesL_ (some 17) rfl rfl Try.func89 (by kernel_rfl) rfl #[.int .i64 a1_0] rfl gsA ?_; (with_reducible refine (steepleref25_two.calls a1_0 false _ A14.out).mono ?_); rintro e w' ⟨rfl, ⟨nd, rfl⟩⟩; refine ⟨_, rfl, ?_⟩) | (go_at_call 90; (with_reducible refine (steepleref25_shifts.calls a1_0 false _ A52.out).mono ?_); rintro e w' ⟨rfl, ⟨nd, rfl⟩⟩))
          go_meet
          case rel => exact ⟨_, (false), eqA, H', ⟨by have := HJ3.out; first | omega | exact Nat.le_refl _⟩, ⟨bkA BK110.out⟩, ⟨bkA BK111.out⟩, ⟨blA HB.out⟩⟩
         ·rw [if_neg c56] at H
          have c56b0 : (a1_0 == 7) = false := beq_eq_false_iff_ne.mpr c56; have c56b1 : (a1_0 != 7) = true := bne_iff_ne.mpr c56; have H' := Aside0.mk H; clear H; have hnb59 := NB111_110.out; have hnc59 := NB110_111.out
          have hcz60 := fun i => blk_cell BK111.out i
          have hfz60 := fun i => blk_frozen BK111.out i
          go_wp2_with (first | ((with_reducible refine gate_callee (f := 89) rfl ?_); refine goesL_ (some 17) rfl rfl Try.func89 (by kernel_rfl) rfl #[.int .i64 a1_0] rfl gsA ?_; (with_reducible refine (steepleref25_two.calls a1_0 false _ A14.out).mono ?_); rintro e w' ⟨rfl, ⟨nd, rfl⟩⟩; refine ⟨_, rfl, ?_⟩) | (go_at_call 90; (with_reducible refine (steepleref25_shifts.calls a1_0 false _ A52.out).mono ?_); rintro e w' ⟨rfl, ⟨nd, rfl⟩⟩))
          go_meet
          case rel => exact ⟨_, ((a1_4 != 0)), eqA, H', ⟨by have := HJ3.out; first | omega | exact Nat.le_refl _⟩, ⟨bkA BK110.out⟩, ⟨bkA BK111.out⟩, ⟨blA HB.out⟩⟩
      ·rw [if_neg c38] at H
       have c38b0 : (a1_3 == 0) = false := beq_eq_false_iff_ne.mpr c38; have c38b1 : (a1_3 != 0) = true := bne_iff_ne.mpr c38; have H' := Aside0.mk H; clear H; have hnb61 := NB111_110.out; have hnc61 := NB110_111.out
       have hcz62 := fun i => blk_cell BK111.out i
       have hfz62 := fun i => blk_frozen BK111.out i
       go_wp2_with (first | ((with_reducible refine gate_callee (f := 89) rfl ?_); refine goesL_ (some 17) rfl rfl Try.func89 (by kernel_rfl) rfl #[.int .i64 a1_0] rfl gsA ?_; (with_reducible refine (steepleref25_two.calls a1_0 false _ A14.out).mono ?_); rintro e w' ⟨rfl, ⟨nd, rfl⟩⟩; refine ⟨_, rfl, ?_⟩))
       go_meet
       case rel => exact ⟨_, (true), eqA, H', ⟨by have := HJ3.out; first | omega | exact Nat.le_refl _⟩, ⟨bkA BK110.out⟩, ⟨bkA BK111.out⟩, ⟨blA HB.out⟩⟩
    case rest =>
     clear HC13; (try clear c1); (try clear c2); (try clear p2); (try clear c3); (try clear c4); (try clear c5); (try clear c6); (try clear c7); (try clear c7b0); (try clear c8); (try clear c10); (try clear c12); (try clear c15); (try clear c16); (try clear c16b0); (try clear c16b1); (try clear c17); (try clear c17b0); (try clear c17b1); (try clear c19); (try clear c20); (try clear c22); (try clear c22b0); (try clear c22b1); (try clear c23); (try clear c25); (try clear c27); (try clear c30); (try clear c31); (try clear c33); (try clear c33b0); (try clear c33b1); (try clear c34); (try clear c36); (try clear c38); (try clear c38b0); (try clear c38b1); (try clear c39); (try clear c39b0); (try clear c39b1); (try clear c40); (try clear c40b0); (try clear c40b1); (try clear c42); (try clear c43); (try clear c45); (try clear c45b0); (try clear c45b1); (try clear c46); (try clear c48); (try clear c50); (try clear c53); (try clear c54); (try clear c56); (try clear c56b0); (try clear c56b1); (try clear c57); (try clear c59); (try clear c61); (try clear hcz11); (try clear hcz21); (try clear hcz24); (try clear hcz26); (try clear hcz28); (try clear hcz32); (try clear hcz35); (try clear hcz37); (try clear hcz44); (try clear hcz47); (try clear hcz49); (try clear hcz51); (try clear hcz55); (try clear hcz58); (try clear hcz60); (try clear hcz62); (try clear hcz9); (try clear hfz11); (try clear hfz21); (try clear hfz24); (try clear hfz26); (try clear hfz28); (try clear hfz32); (try clear hfz35); (try clear hfz37); (try clear hfz44); (try clear hfz47); (try clear hfz49); (try clear hfz51); (try clear hfz55); (try clear hfz58); (try clear hfz60); (try clear hfz62); (try clear hfz9); (try clear p2); obtain ⟨kq, x49_12, rfl, HA, HJ12, BK110, BK111, HB⟩ := hcut
     cases kq with
     | zero => exact absurd HA.out (by simp [steepleref25_System_Gate.j1])
     | succ kj12 =>
      have H := HA.out; clear HA
      simp only [steepleref25_System_Gate.j1] at H
      by_cases c63 : x49_12 = true
      ·subst c63
       have H1 : (some 3) = some r := by rw [if_pos rfl] at H; exact H
       clear H; have H := H1; clear H1; obtain rfl := Option.some.inj H
       go_wp2
       go_ret
       exact ⟨by first | rfl | (simp [errW_none, errW_some] <;> rfl) | (simp [*, errW_none, errW_some] <;> rfl), blA HB.out⟩
      ·replace c63 := Bool.eq_false_iff.mpr c63; subst c63
       have H1 : (if a1_2 < 0 then (steepleref25_System_Gate.j2 kj12 a2 true a0_0 a0_1 a0_2 a0_3 a0_4 l0_5 a1_0 a1_1 a1_2 a1_3 a1_4) else (if a1_2 ≥ a2 then (steepleref25_System_Gate.j2 kj12 a2 true a0_0 a0_1 a0_2 a0_3 a0_4 l0_5 a1_0 a1_1 a1_2 a1_3 a1_4) else ((steepleref25_two.f a1_0).bind fun t117 => (if t117 = true then (if a1_3 < 0 then (steepleref25_System_Gate.j2 kj12 a2 true a0_0 a0_1 a0_2 a0_3 a0_4 l0_5 a1_0 a1_1 a1_2 a1_3 a1_4) else (steepleref25_System_Gate.j2 kj12 a2 (decide (a1_3 ≥ a2)) a0_0 a0_1 a0_2 a0_3 a0_4 l0_5 a1_0 a1_1 a1_2 a1_3 a1_4)) else (steepleref25_System_Gate.j2 kj12 a2 false a0_0 a0_1 a0_2 a0_3 a0_4 l0_5 a1_0 a1_1 a1_2 a1_3 a1_4))))) = some r := by rw [if_neg (show ¬ (false = true) by decide)] at H; exact H
       clear H; have H := H1; clear H1; have HC64 := Aside0.mk H; clear H
       go_upto_region 5 with (fail)
       go_cut [74] (fun v74 wc => ∃ (kq : Nat) (x74_63 : Bool), v74 = .bool x74_63 ∧ Aside0 (steepleref25_System_Gate.j2 kq a2 x74_63 a0_0 a0_1 a0_2 a0_3 a0_4 l0_5 a1_0 a1_1 a1_2 a1_3 a1_4 = some r) ∧ Aside0 (kq ≤ kj12) ∧ Aside0 (wc.heap[gb110]? = some (.cells #[.int .i64 a0_0, .int .i64 a0_1, .int .i64 a0_2, .int .i64 a0_3, .int .i64 a0_4, (.slice A0_5 l0_5.length c0_5)] 28 (0, 0))) ∧ Aside0 (wc.heap[gb111]? = some (.cells #[.int .i64 a1_0, .int .i64 a1_1, .int .i64 a1_2, .int .i64 a1_3, .int .i64 a1_4] 106 (0, 0))) ∧ Aside0 (Below w.heap.size w wc))
       case first =>
        have H := HC64.out; clear HC64
        by_cases c65 : a1_2 < 0
        ·rw [if_pos c65] at H
         have c65b0 : decide (a1_2 < 0) = true := decide_eq_true c65; clear c65
         (first | rw [c65b0] | (simp only [i64_w, i32_w]; rw [c65b0]) | skip)
         have H' := Aside0.mk H; clear H; have hnb66 := NB111_110.out; have hnc66 := NB110_111.out
         have hcz67 := fun i => blk_cell BK111.out i
         have hfz67 := fun i => blk_frozen BK111.out i
         go_wp2
         go_meet
         case rel => exact ⟨_, (true), eqA, H', ⟨by have := HJ3.out; have := HJ12.out; first | omega | exact Nat.le_refl _⟩, ⟨bkA BK110.out⟩, ⟨bkA BK111.out⟩, ⟨blA HB.out⟩⟩
        ·rw [if_neg c65] at H
         have c65b0 : decide (a1_2 < 0) = false := decide_eq_false c65; clear c65
         (first | rw [c65b0] | (simp only [i64_w, i32_w]; rw [c65b0]) | skip)
         by_cases c68 : a1_2 ≥ a2
         ·rw [if_pos c68] at H
          have c68b0 : decide (a2 ≤ a1_2) = true := decide_eq_true c68; clear c68; have H' := Aside0.mk H; clear H; have hnb69 := NB111_110.out; have hnc69 := NB110_111.out
          have hcz70 := fun i => blk_cell BK111.out i
          have hfz70 := fun i => blk_frozen BK111.out i
          go_wp2
          go_meet
          case rel => exact ⟨_, (true), eqA, H', ⟨by have := HJ3.out; have := HJ12.out; first | omega | exact Nat.le_refl _⟩, ⟨bkA BK110.out⟩, ⟨bkA BK111.out⟩, ⟨blA HB.out⟩⟩
         ·rw [if_neg c68] at H
          have c68b0 : decide (a2 ≤ a1_2) = false := decide_eq_false c68; clear c68; replace H := Option.bind_eq_some_iff.mp H; obtain ⟨t117, A710, H⟩ := H
          (try dsimp only at H)
          have A71 := Aside0.mk A710; clear A710
          by_cases c72 : t117 = true
          ·subst c72
           have H1 : (if a1_3 < 0 then (steepleref25_System_Gate.j2 kj12 a2 true a0_0 a0_1 a0_2 a0_3 a0_4 l0_5 a1_0 a1_1 a1_2 a1_3 a1_4) else (steepleref25_System_Gate.j2 kj12 a2 (decide (a1_3 ≥ a2)) a0_0 a0_1 a0_2 a0_3 a0_4 l0_5 a1_0 a1_1 a1_2 a1_3 a1_4)) = some r := by rw [if_pos rfl] at H; exact H
           clear H; have H := H1; clear H1
           by_cases c73 : a1_3 < 0
           ·rw [if_pos c73] at H
            have c73b0 : decide (a1_3 < 0) = true := decide_eq_true c73; clear c73; have H' := Aside0.mk H; clear H; have hnb74 := NB111_110.out; have hnc74 := NB110_111.out
            have hcz75 := fun i => blk_cell BK111.out i
            have hfz75 := fun i => blk_frozen BK111.out i
            go_wp2_with (first | (go_at_call 89; (with_reducible refine (steepleref25_two.calls a1_0 true _ A71.out).mono ?_); rintro e w' ⟨rfl, ⟨nd, rfl⟩⟩))
            go_meet
            case rel => exact ⟨_, (true), eqA, H', ⟨by have := HJ3.out; have := HJ12.out; first | omega | exact Nat.le_refl _⟩, ⟨bkA BK110.out⟩, ⟨bkA BK111.out⟩, ⟨blA HB.out⟩⟩
           ·rw [if_neg c73] at H
            have c73b0 : decide (a1_3 < 0) = false := decide_eq_false c73; clear c73; have H' := Aside0.mk H; clear H; have hnb76 := NB111_110.out; have hnc76 := NB110_111.out
            have hcz77 := fun i => blk_cell BK111.out i
            have hfz77 := fun i => blk_frozen BK111.out i
            go_wp2_with (first | (go_at_call 89; (with_reducible refine (steepleref25_two.calls a1_0 true _ A71.out).mono ?_); rintro e w' ⟨rfl, ⟨nd, rfl⟩⟩))
            go_meet
            case rel => exact ⟨_, (decide (a1_3 ≥ a2)), eqA, H', ⟨by have := HJ3.out; have := HJ12.out; first | omega | exact Nat.le_refl _⟩, ⟨bkA BK110.out⟩, ⟨bkA BK111.out⟩, ⟨blA HB.out⟩⟩
          ·replace c72 := Bool.eq_false_iff.mpr c72; subst c72
           have H1 : (steepleref25_System_Gate.j2 kj12 a2 false a0_0 a0_1 a0_2 a0_3 a0_4 l0_5 a1_0 a1_1 a1_2 a1_3 a1_4) = some r := by rw [if_neg (show ¬ (false = true) by decide)] at H; exact H
           clear H; have H := H1; clear H1; have H' := Aside0.mk H; clear H; have hnb78 := NB111_110.out; have hnc78 := NB110_111.out
           have hcz79 := fun i => blk_cell BK111.out i
           have hfz79 := fun i => blk_frozen BK111.out i
           go_wp2_with (first | (go_at_call 89; (with_reducible refine (steepleref25_two.calls a1_0 false _ A71.out).mono ?_); rintro e w' ⟨rfl, ⟨nd, rfl⟩⟩))
           go_meet
           case rel => exact ⟨_, (false), eqA, H', ⟨by have := HJ3.out; have := HJ12.out; first | omega | exact Nat.le_refl _⟩, ⟨bkA BK110.out⟩, ⟨bkA BK111.out⟩, ⟨blA HB.out⟩⟩
       case rest =>
        clear HC64; (try clear c1); (try clear c2); (try clear p2); (try clear c3); (try clear c4); (try clear c5); (try clear c6); (try clear c7); (try clear c7b0); (try clear c8); (try clear c10); (try clear c12); (try clear c15); (try clear c16); (try clear c16b0); (try clear c16b1); (try clear c17); (try clear c17b0); (try clear c17b1); (try clear c19); (try clear c20); (try clear c22); (try clear c22b0); (try clear c22b1); (try clear c23); (try clear c25); (try clear c27); (try clear c30); (try clear c31); (try clear c33); (try clear c33b0); (try clear c33b1); (try clear c34); (try clear c36); (try clear c38); (try clear c38b0); (try clear c38b1); (try clear c39); (try clear c39b0); (try clear c39b1); (try clear c40); (try clear c40b0); (try clear c40b1); (try clear c42); (try clear c43); (try clear c45); (try clear c45b0); (try clear c45b1); (try clear c46); (try clear c48); (try clear c50); (try clear c53); (try clear c54); (try clear c56); (try clear c56b0); (try clear c56b1); (try clear c57); (try clear c59); (try clear c61); (try clear c63); (try clear c65); (try clear c65b0); (try clear c66); (try clear c68); (try clear c68b0); (try clear c69); (try clear c72); (try clear c73); (try clear c73b0); (try clear c74); (try clear c76); (try clear c78); (try clear hcz11); (try clear hcz21); (try clear hcz24); (try clear hcz26); (try clear hcz28); (try clear hcz32); (try clear hcz35); (try clear hcz37); (try clear hcz44); (try clear hcz47); (try clear hcz49); (try clear hcz51); (try clear hcz55); (try clear hcz58); (try clear hcz60); (try clear hcz62); (try clear hcz67); (try clear hcz70); (try clear hcz75); (try clear hcz77); (try clear hcz79); (try clear hcz9); (try clear hfz11); (try clear hfz21); (try clear hfz24); (try clear hfz26); (try clear hfz28); (try clear hfz32); (try clear hfz35); (try clear hfz37); (try clear hfz44); (try clear hfz47); (try clear hfz49); (try clear hfz51); (try clear hfz55); (try clear hfz58); (try clear hfz60); (try clear hfz62); (try clear hfz67); (try clear hfz70); (try clear hfz75); (try clear hfz77); (try clear hfz79); (try clear hfz9); (try clear p2); obtain ⟨kq, x74_63, rfl, HA, HJ63, BK110, BK111, HB⟩ := hcut
        cases kq with
        | zero => exact absurd HA.out (by simp [steepleref25_System_Gate.j2])
        | succ kj63 =>
         have H := HA.out; clear HA
         simp only [steepleref25_System_Gate.j2] at H
         by_cases c80 : x74_63 = true
         ·subst c80
          have H1 : (some 4) = some r := by rw [if_pos rfl] at H; exact H
          clear H; have H := H1; clear H1; obtain rfl := Option.some.inj H
          go_wp2
          go_ret
          exact ⟨by first | rfl | (simp [errW_none, errW_some] <;> rfl) | (simp [*, errW_none, errW_some] <;> rfl), blA HB.out⟩
         ·replace c80 := Bool.eq_false_iff.mpr c80; subst c80
          have H1 : ((steepleref25_shifts.f a1_0).bind fun t118 => (if t118 = true then ((steepleref18_Fits.f kj63 (wrap64 (a1_0 - 3)) a0_0 a1_4).bind fun t119 => (steepleref25_System_Gate.j3 kj63 a2 (!t119) a0_0 a0_1 a0_2 a0_3 a0_4 l0_5 a1_0 a1_1 a1_2 a1_3 a1_4)) else (steepleref25_System_Gate.j3 kj63 a2 false a0_0 a0_1 a0_2 a0_3 a0_4 l0_5 a1_0 a1_1 a1_2 a1_3 a1_4))) = some r := by rw [if_neg (show ¬ (false = true) by decide)] at H; exact H
          clear H; have H := H1; clear H1; have HC81 := Aside0.mk H; clear H
          go_upto_region 7 with (fail)
          go_cut [88] (fun v88 wc => ∃ (kq : Nat) (x88_80 : Bool), v88 = .bool x88_80 ∧ Aside0 (steepleref25_System_Gate.j3 kq a2 x88_80 a0_0 a0_1 a0_2 a0_3 a0_4 l0_5 a1_0 a1_1 a1_2 a1_3 a1_4 = some r) ∧ Aside0 (kq ≤ kj63) ∧ Aside0 (wc.heap[gb110]? = some (.cells #[.int .i64 a0_0, .int .i64 a0_1, .int .i64 a0_2, .int .i64 a0_3, .int .i64 a0_4, (.slice A0_5 l0_5.length c0_5)] 28 (0, 0))) ∧ Aside0 (wc.heap[gb111]? = some (.cells #[.int .i64 a1_0, .int .i64 a1_1, .int .i64 a1_2, .int .i64 a1_3, .int .i64 a1_4] 106 (0, 0))) ∧ Aside0 (Below w.heap.size w wc))
          case first =>
           have H := HC81.out; clear HC81; replace H := Option.bind_eq_some_iff.mp H; obtain ⟨t118, A820, H⟩ := H
           (try dsimp only at H)
           have A82 := Aside0.mk A820; clear A820
           by_cases c83 : t118 = true
           ·subst c83
            have H1 : ((steepleref18_Fits.f kj63 (wrap64 (a1_0 - 3)) a0_0 a1_4).bind fun t119 => (steepleref25_System_Gate.j3 kj63 a2 (!t119) a0_0 a0_1 a0_2 a0_3 a0_4 l0_5 a1_0 a1_1 a1_2 a1_3 a1_4)) = some r := by rw [if_pos rfl] at H; exact H
            clear H; have H := H1; clear H1; replace H := Option.bind_eq_some_iff.mp H; obtain ⟨t119, A840, H⟩ := H; replace H : (steepleref25_System_Gate.j3 kj63 a2 (!t119) a0_0 a0_1 a0_2 a0_3 a0_4 l0_5 a1_0 a1_1 a1_2 a1_3 a1_4) = some r := H; have A84 := Aside0.mk A840; clear A840; have H' := Aside0.mk H; clear H; have hnb85 := NB111_110.out; have hnc85 := NB110_111.out
            have hcz86 := fun i => blk_cell BK111.out i
            have hfz86 := fun i => blk_frozen BK111.out i
            go_wp2_with (first | ((with_reducible refine gate_callee (f := 90) rfl ?_); refine goesL_ (some 77) rfl rfl Try.func90 (by kernel_rfl) rfl #[.int .i64 a1_0] rfl gsA ?_; (with_reducible refine (steepleref25_shifts.calls a1_0 true _ A82.out).mono ?_); rintro e w' ⟨rfl, ⟨nd, rfl⟩⟩; refine ⟨_, rfl, ?_⟩; have hcz87 := fun i => blk_cell BK110.out i; have hfz87 := fun i => blk_frozen BK110.out i; ) | (go_at_call 56; (with_reducible refine (steepleref18_Fits.calls kj63 (wrap64 (a1_0 - 3)) a0_0 a1_4 t119 _ A84.out).mono ?_); rintro e w' ⟨rfl, ⟨nd, rfl⟩⟩))
            go_meet
            case rel => exact ⟨_, (!t119), eqA, H', ⟨by have := HJ3.out; have := HJ12.out; have := HJ63.out; first | omega | exact Nat.le_refl _⟩, ⟨bkA BK110.out⟩, ⟨bkA BK111.out⟩, ⟨blA HB.out⟩⟩
           ·replace c83 := Bool.eq_false_iff.mpr c83; subst c83
            have H1 : (steepleref25_System_Gate.j3 kj63 a2 false a0_0 a0_1 a0_2 a0_3 a0_4 l0_5 a1_0 a1_1 a1_2 a1_3 a1_4) = some r := by rw [if_neg (show ¬ (false = true) by decide)] at H; exact H
            clear H; have H := H1; clear H1; have H' := Aside0.mk H; clear H; have hnb88 := NB111_110.out; have hnc88 := NB110_111.out
            have hcz89 := fun i => blk_cell BK111.out i
            have hfz89 := fun i => blk_frozen BK111.out i
            go_wp2_with (first | ((with_reducible refine gate_callee (f := 90) rfl ?_); refine goesL_ (some 77) rfl rfl Try.func90 (by kernel_rfl) rfl #[.int .i64 a1_0] rfl gsA ?_; (with_reducible refine (steepleref25_shifts.calls a1_0 false _ A82.out).mono ?_); rintro e w' ⟨rfl, ⟨nd, rfl⟩⟩; refine ⟨_, rfl, ?_⟩))
            go_meet
            case rel => exact ⟨_, (false), eqA, H', ⟨by have := HJ3.out; have := HJ12.out; have := HJ63.out; first | omega | exact Nat.le_refl _⟩, ⟨bkA BK110.out⟩, ⟨bkA BK111.out⟩, ⟨blA HB.out⟩⟩
          case rest =>
           clear HC81; (try clear c1); (try clear c2); (try clear p2); (try clear c3); (try clear c4); (try clear c5); (try clear c6); (try clear p6); (try clear c7); (try clear c7b0); (try clear c8); (try clear c9); (try clear c10); (try clear c12); (try clear c15); (try clear c16); (try clear c16b0); (try clear c16b1); (try clear c17); (try clear c17b0); (try clear c17b1); (try clear c19); (try clear c20); (try clear c22); (try clear c22b0); (try clear c22b1); (try clear c23); (try clear c25); (try clear c27); (try clear c30); (try clear c31); (try clear c33); (try clear c33b0); (try clear c33b1); (try clear c34); (try clear c36); (try clear c38); (try clear c38b0); (try clear c38b1); (try clear c39); (try clear c39b0); (try clear c39b1); (try clear c40); (try clear c40b0); (try clear c40b1); (try clear c42); (try clear c43); (try clear c45); (try clear c45b0); (try clear c45b1); (try clear c46); (try clear c48); (try clear c50); (try clear c53); (try clear c54); (try clear c56); (try clear c56b0); (try clear c56b1); (try clear c57); (try clear c59); (try clear c61); (try clear c63); (try clear p64); (try clear c65); (try clear c65b0); (try clear c66); (try clear c68); (try clear c68b0); (try clear c69); (try clear c72); (try clear c73); (try clear c73b0); (try clear c74); (try clear c76); (try clear c78); (try clear c80); (try clear c83); (try clear c85); (try clear c88); (try clear hcz11); (try clear hcz21); (try clear hcz24); (try clear hcz26); (try clear hcz28); (try clear hcz32); (try clear hcz35); (try clear hcz37); (try clear hcz44); (try clear hcz47); (try clear hcz49); (try clear hcz51); (try clear hcz55); (try clear hcz58); (try clear hcz60); (try clear hcz62); (try clear hcz67); (try clear hcz70); (try clear hcz75); (try clear hcz77); (try clear hcz79); (try clear hcz86); (try clear hcz87); (try clear hcz89); (try clear hcz9); (try clear hfz11); (try clear hfz21); (try clear hfz24); (try clear hfz26); (try clear hfz28); (try clear hfz32); (try clear hfz35); (try clear hfz37); (try clear hfz44); (try clear hfz47); (try clear hfz49); (try clear hfz51); (try clear hfz55); (try clear hfz58); (try clear hfz60); (try clear hfz62); (try clear hfz67); (try clear hfz70); (try clear hfz75); (try clear hfz77); (try clear hfz79); (try clear hfz86); (try clear hfz87); (try clear hfz89); (try clear hfz9); (try clear p2); obtain ⟨kq, x88_80, rfl, HA, HJ80, BK110, BK111, HB⟩ := hcut
           cases kq with
           | zero => exact absurd HA.out (by simp [steepleref25_System_Gate.j3])
           | succ kj80 =>
            have H := HA.out; clear HA
            simp only [steepleref25_System_Gate.j3] at H
            by_cases c90 : x88_80 = true
            ·subst c90
             have H1 : (some 1) = some r := by rw [if_pos rfl] at H; exact H
             clear H; have H := H1; clear H1; obtain rfl := Option.some.inj H
             go_wp2
             go_ret
             exact ⟨by first | rfl | (simp [errW_none, errW_some] <;> rfl) | (simp [*, errW_none, errW_some] <;> rfl), blA HB.out⟩
            ·replace c90 := Bool.eq_false_iff.mpr c90; subst c90
             have H1 : (if a1_0 = 8 then (if a1_0 = 7 then (steepleref25_System_Gate.j4 kj80 a2 (a1_4 != (wrap64 (a2 + 1))) a0_0 a0_1 a0_2 a0_3 a0_4 l0_5 a1_0 a1_1 a1_2 a1_3 a1_4) else (steepleref25_System_Gate.j4 kj80 a2 false a0_0 a0_1 a0_2 a0_3 a0_4 l0_5 a1_0 a1_1 a1_2 a1_3 a1_4)) else (if a1_1 = a2 then (if a1_0 = 7 then (steepleref25_System_Gate.j4 kj80 a2 (a1_4 != (wrap64 (a2 + 1))) a0_0 a0_1 a0_2 a0_3 a0_4 l0_5 a1_0 a1_1 a1_2 a1_3 a1_4) else (steepleref25_System_Gate.j4 kj80 a2 false a0_0 a0_1 a0_2 a0_3 a0_4 l0_5 a1_0 a1_1 a1_2 a1_3 a1_4)) else (steepleref25_System_Gate.j4 kj80 a2 true a0_0 a0_1 a0_2 a0_3 a0_4 l0_5 a1_0 a1_1 a1_2 a1_3 a1_4))) = some r := by rw [if_neg (show ¬ (false = true) by decide)] at H; exact H
             clear H; have H := H1; clear H1; have HC91 := Aside0.mk H; clear H
             go_upto_region 9 with (fail)
             go_cut [109] (fun v109 wc => ∃ (kq : Nat) (x109_90 : Bool), v109 = .bool x109_90 ∧ Aside0 (steepleref25_System_Gate.j4 kq a2 x109_90 a0_0 a0_1 a0_2 a0_3 a0_4 l0_5 a1_0 a1_1 a1_2 a1_3 a1_4 = some r) ∧ Aside0 (kq ≤ kj80) ∧ Aside0 (wc.heap[gb110]? = some (.cells #[.int .i64 a0_0, .int .i64 a0_1, .int .i64 a0_2, .int .i64 a0_3, .int .i64 a0_4, (.slice A0_5 l0_5.length c0_5)] 28 (0, 0))) ∧ Aside0 (wc.heap[gb111]? = some (.cells #[.int .i64 a1_0, .int .i64 a1_1, .int .i64 a1_2, .int .i64 a1_3, .int .i64 a1_4] 106 (0, 0))) ∧ Aside0 (Below w.heap.size w wc))
             case first =>
              have H := HC91.out; clear HC91
              by_cases c92 : a1_0 = 8
              ·rw [if_pos c92] at H
               have c92b0 : (a1_0 == 8) = true := beq_iff_eq.mpr c92; have c92b1 : (a1_0 != 8) = false := bne_eq_false_iff_eq.mpr c92; clear c92
               (first | rw [c92b0] | (simp only [i64_w, i32_w]; rw [c92b0]) | skip)
               by_cases c93 : a1_0 = 7
               ·rw [if_pos c93] at H
                have c93b0 : (a1_0 == 7) = true := beq_iff_eq.mpr c93; have c93b1 : (a1_0 != 7) = false := bne_eq_false_iff_eq.mpr c93; clear c93; have H' := Aside0.mk H; clear H; have hnb94 := NB111_110.out; have hnc94 := NB110_111.out
                have hcz95 := fun i => blk_cell BK111.out i
                have hfz95 := fun i => blk_frozen BK111.out i
                go_wp2
                go_meet
                case rel => exact ⟨_, ((a1_4 != (wrap64 (a2 + 1)))), eqA, H', ⟨by have := HJ3.out; have := HJ12.out; have := HJ63.out; have := HJ80.out; first | omega | exact Nat.le_refl _⟩, ⟨bkA BK110.out⟩, ⟨bkA BK111.out⟩, ⟨blA HB.out⟩⟩
               ·rw [if_neg c93] at H
                have c93b0 : (a1_0 == 7) = false := beq_eq_false_iff_ne.mpr c93; have c93b1 : (a1_0 != 7) = true := bne_iff_ne.mpr c93; have H' := Aside0.mk H; clear H; have hnb96 := NB111_110.out; have hnc96 := NB110_111.out
                have hcz97 := fun i => blk_cell BK111.out i
                have hfz97 := fun i => blk_frozen BK111.out i
                go_wp2
                go_meet
                case rel => exact ⟨_, (false), eqA, H', ⟨by have := HJ3.out; have := HJ12.out; have := HJ63.out; have := HJ80.out; first | omega | exact Nat.le_refl _⟩, ⟨bkA BK110.out⟩, ⟨bkA BK111.out⟩, ⟨blA HB.out⟩⟩
              ·rw [if_neg c92] at H
               have c92b0 : (a1_0 == 8) = false := beq_eq_false_iff_ne.mpr c92; have c92b1 : (a1_0 != 8) = true := bne_iff_ne.mpr c92
               (first | rw [c92b0] | (simp only [i64_w, i32_w]; rw [c92b0]) | skip)
               by_cases c98 : a1_1 = a2
               ·rw [if_pos c98] at H
                have c98b0 : (a1_1 == a2) = true := beq_iff_eq.mpr c98; have c98b1 : (a1_1 != a2) = false := bne_eq_false_iff_eq.mpr c98; clear c98
                by_cases c99 : a1_0 = 7
                ·rw [if_pos c99] at H
                 have c99b0 : (a1_0 == 7) = true := beq_iff_eq.mpr c99; have c99b1 : (a1_0 != 7) = false := bne_eq_false_iff_eq.mpr c99; clear c99; have H' := Aside0.mk H; clear H; have hnb100 := NB111_110.out; have hnc100 := NB110_111.out
                 have hcz101 := fun i => blk_cell BK111.out i
                 have hfz101 := fun i => blk_frozen BK111.out i
                 go_wp2
                 go_meet
                 case rel => exact ⟨_, ((a1_4 != (wrap64 (a2 + 1)))), eqA, H', ⟨by have := HJ3.out; have := HJ12.out; have := HJ63.out; have := HJ80.out; first | omega | exact Nat.le_refl _⟩, ⟨bkA BK110.out⟩, ⟨bkA BK111.out⟩, ⟨blA HB.out⟩⟩
                ·rw [if_neg c99] at H
                 have c99b0 : (a1_0 == 7) = false := beq_eq_false_iff_ne.mpr c99; have c99b1 : (a1_0 != 7) = true := bne_iff_ne.mpr c99; have H' := Aside0.mk H; clear H; have hnb102 := NB111_110.out; have hnc102 := NB110_111.out
                 have hcz103 := fun i => blk_cell BK111.out i
                 have hfz103 := fun i => blk_frozen BK111.out i
                 go_wp2
                 go_meet
                 case rel => exact ⟨_, (false), eqA, H', ⟨by have := HJ3.out; have := HJ12.out; have := HJ63.out; have := HJ80.out; first | omega | exact Nat.le_refl _⟩, ⟨bkA BK110.out⟩, ⟨bkA BK111.out⟩, ⟨blA HB.out⟩⟩
               ·rw [if_neg c98] at H
                have c98b0 : (a1_1 == a2) = false := beq_eq_false_iff_ne.mpr c98; have c98b1 : (a1_1 != a2) = true := bne_iff_ne.mpr c98; have H' := Aside0.mk H; clear H; have hnb104 := NB111_110.out; have hnc104 := NB110_111.out
                have hcz105 := fun i => blk_cell BK111.out i
                have hfz105 := fun i => blk_frozen BK111.out i
                go_wp2
                go_meet
                case rel => exact ⟨_, (true), eqA, H', ⟨by have := HJ3.out; have := HJ12.out; have := HJ63.out; have := HJ80.out; first | omega | exact Nat.le_refl _⟩, ⟨bkA BK110.out⟩, ⟨bkA BK111.out⟩, ⟨blA HB.out⟩⟩
             case rest =>
              clear HC91; (try clear c1); (try clear c2); (try clear p2); (try clear c3); (try clear c4); (try clear c5); (try clear c6); (try clear p6); (try clear c7); (try clear c7b0); (try clear c8); (try clear c9); (try clear c10); (try clear c12); (try clear c15); (try clear c16); (try clear c16b0); (try clear c16b1); (try clear c17); (try clear c17b0); (try clear c17b1); (try clear c19); (try clear c20); (try clear c22); (try clear c22b0); (try clear c22b1); (try clear c23); (try clear c25); (try clear c27); (try clear c30); (try clear c31); (try clear c33); (try clear c33b0); (try clear c33b1); (try clear c34); (try clear c36); (try clear c38); (try clear c38b0); (try clear c38b1); (try clear c39); (try clear c39b0); (try clear c39b1); (try clear c40); (try clear c40b0); (try clear c40b1); (try clear c42); (try clear c43); (try clear c45); (try clear c45b0); (try clear c45b1); (try clear c46); (try clear c48); (try clear c50); (try clear c53); (try clear c54); (try clear c56); (try clear c56b0); (try clear c56b1); (try clear c57); (try clear c59); (try clear c61); (try clear c63); (try clear p64); (try clear c65); (try clear c65b0); (try clear c66); (try clear c68); (try clear c68b0); (try clear c69); (try clear c72); (try clear c73); (try clear c73b0); (try clear c74); (try clear c76); (try clear c78); (try clear c80); (try clear c83); (try clear c85); (try clear c88); (try clear c90); (try clear c92); (try clear c92b0); (try clear c92b1); (try clear c93); (try clear c93b0); (try clear c93b1); (try clear c94); (try clear c96); (try clear c98); (try clear c98b0); (try clear c98b1); (try clear c99); (try clear c99b0); (try clear c99b1); (try clear c100); (try clear c102); (try clear c104); (try clear hcz101); (try clear hcz103); (try clear hcz105); (try clear hcz11); (try clear hcz21); (try clear hcz24); (try clear hcz26); (try clear hcz28); (try clear hcz32); (try clear hcz35); (try clear hcz37); (try clear hcz44); (try clear hcz47); (try clear hcz49); (try clear hcz51); (try clear hcz55); (try clear hcz58); (try clear hcz60); (try clear hcz62); (try clear hcz67); (try clear hcz70); (try clear hcz75); (try clear hcz77); (try clear hcz79); (try clear hcz86); (try clear hcz87); (try clear hcz89); (try clear hcz95); (try clear hcz97); (try clear hcz9); (try clear hfz101); (try clear hfz103); (try clear hfz105); (try clear hfz11); (try clear hfz21); (try clear hfz24); (try clear hfz26); (try clear hfz28); (try clear hfz32); (try clear hfz35); (try clear hfz37); (try clear hfz44); (try clear hfz47); (try clear hfz49); (try clear hfz51); (try clear hfz55); (try clear hfz58); (try clear hfz60); (try clear hfz62); (try clear hfz67); (try clear hfz70); (try clear hfz75); (try clear hfz77); (try clear hfz79); (try clear hfz86); (try clear hfz87); (try clear hfz89); (try clear hfz95); (try clear hfz97); (try clear hfz9); (try clear p2); (try clear p6); (try clear p64); obtain ⟨kq, x109_90, rfl, HA, HJ90, BK110, BK111, HB⟩ := hcut
              cases kq with
              | zero => exact absurd HA.out (by simp [steepleref25_System_Gate.j4])
              | succ kj90 =>
               have H := HA.out; clear HA
               simp only [steepleref25_System_Gate.j4] at H
               by_cases c106 : x109_90 = true
               ·subst c106
                have H1 : (some 3) = some r := by rw [if_pos rfl] at H; exact H
                clear H; have H := H1; clear H1; obtain rfl := Option.some.inj H
                go_wp2
                go_ret
                exact ⟨by first | rfl | (simp [errW_none, errW_some] <;> rfl) | (simp [*, errW_none, errW_some] <;> rfl), blA HB.out⟩
               ·replace c106 := Bool.eq_false_iff.mpr c106; subst c106
                have H1 : ((steepleref25_Makes.f a1_0 a1_1 a1_2 a1_3 a1_4).bind fun t120 => ((steepleref15_Two.f kj90 a0_2).bind fun t121 => (if (wrap64 (a2 + t120)) > t121 then (some 2) else (some 0)))) = some r := by rw [if_neg (show ¬ (false = true) by decide)] at H; exact H
                clear H; have H := H1; clear H1; replace H := Option.bind_eq_some_iff.mp H; obtain ⟨t120, A1070, H⟩ := H
                (try dsimp only at H)
                have A107 := Aside0.mk A1070; clear A1070; replace H := Option.bind_eq_some_iff.mp H; obtain ⟨t121, A1080, H⟩ := H
                (try dsimp only at H)
                have A108 := Aside0.mk A1080; clear A1080
                by_cases c109 : (wrap64 (a2 + t120)) > t121
                ·rw [if_pos c109] at H
                 have c109b0 : decide (t121 < (wrap64 (a2 + t120))) = true := decide_eq_true c109; clear c109; obtain rfl := Option.some.inj H
                 try go_wp2
                 have n0_ := Aside0.mk (blk_drew BK110.out); have n1_ := Aside0.mk (blk_drew BK111.out); have n2_ := Aside0.mk (below_drew1 HB.out); clear BK110; clear BK111; clear HB; have BK110 := n0_; have BK111 := n1_; have HB := n2_; clear n0_ n1_ n2_
                 refine start_ (n := 8) (S := fun w' => w'.cell? ⟨gb111, 0, none⟩ = some (.int .i64 a1_0) ∧ w'.cell? ⟨gb111, 1, none⟩ = some (.int .i64 a1_1) ∧ w'.cell? ⟨gb111, 2, none⟩ = some (.int .i64 a1_2) ∧ w'.cell? ⟨gb111, 3, none⟩ = some (.int .i64 a1_3) ∧ w'.cell? ⟨gb111, 4, none⟩ = some (.int .i64 a1_4) ∧ w'.cell? ⟨gb110, 0, none⟩ = some (.int .i64 a0_0) ∧ w'.cell? ⟨gb110, 1, none⟩ = some (.int .i64 a0_1) ∧ w'.cell? ⟨gb110, 2, none⟩ = some (.int .i64 a0_2) ∧ w'.cell? ⟨gb110, 3, none⟩ = some (.int .i64 a0_3) ∧ w'.cell? ⟨gb110, 4, none⟩ = some (.int .i64 a0_4) ∧ w'.cell? ⟨gb110, 5, none⟩ = some (.slice A0_5 l0_5.length c0_5)) (ds := []) #[false, false, false, false, false, false, false, false] (by kernel_rfl) rfl rfl ⟨(blk_cell BK111.out 0).trans rfl, (blk_cell BK111.out 1).trans rfl, (blk_cell BK111.out 2).trans rfl, (blk_cell BK111.out 3).trans rfl, (blk_cell BK111.out 4).trans rfl, (blk_cell BK110.out 0).trans rfl, (blk_cell BK110.out 1).trans rfl, (blk_cell BK110.out 2).trans rfl, (blk_cell BK110.out 3).trans rfl, (blk_cell BK110.out 4).trans rfl, (blk_cell BK110.out 5).trans rfl⟩ (fun hHeld => ?_); refine with_tabW steepleref25_System_Gate.tab11 steepleref25_System_Gate.bits11 (fun HT_ HW_ => ?_)
                 generalize wc.drew = w110 at BK110 BK111 HB hHeld ⊢
                 refine pureA 0 (some 110) HT_.out ?_
                 refine pureA 4 (some 114) HT_.out ?_
                 refine takeA 1 (some 111) rfl HT_.out HW_.out hHeld (Or.inl ⟨by rfl, by rintro w' ⟨s0, s1, s2, s3, s4, s5, s6, s7, s8, s9, s10⟩; go_simp; with_reducible rfl⟩) ?_
                 refine takeA 5 (some 115) rfl HT_.out HW_.out hHeld (Or.inl ⟨by rfl, by rintro w' ⟨s0, s1, s2, s3, s4, s5, s6, s7, s8, s9, s10⟩; go_simp; with_reducible rfl⟩) ?_
                 refine one_ (i := 2) (N := some 112) #[true, true, true, false, true, true, false, false] rfl rfl (one_of HT_.out (by kernel_rfl)) (by decide) (fun K hK => ?_)
                 refine goes_ Try.func60 (by kernel_rfl) rfl #[.agg #[.int .i64 a1_0, .int .i64 a1_1, .int .i64 a1_2, .int .i64 a1_3, .int .i64 a1_4]] (by rfl) rfl rfl gsA ?_
                 with_reducible refine (steepleref25_Makes.calls a1_0 a1_1 a1_2 a1_3 a1_4 t120 _ A107.out).mono ?_
                 rintro e w111 ⟨rfl, hb⟩
                 refine ⟨_, rfl, ?_⟩
                 have n0_ := Aside0.mk (blk_below (bkA BK110.out) hb); have n1_ := Aside0.mk (blk_below (bkA BK111.out) hb); have n2_ := Aside0.mk (below_step (blA HB.out) hb); clear BK110; clear BK111; clear HB; have BK110 := n0_; have BK111 := n1_; have HB := n2_; clear n0_ n1_ n2_
                 (try clear hb)
                 refine hK.out _ _ ⟨(blk_cell BK111.out 0).trans rfl, (blk_cell BK111.out 1).trans rfl, (blk_cell BK111.out 2).trans rfl, (blk_cell BK111.out 3).trans rfl, (blk_cell BK111.out 4).trans rfl, (blk_cell BK110.out 0).trans rfl, (blk_cell BK110.out 1).trans rfl, (blk_cell BK110.out 2).trans rfl, (blk_cell BK110.out 3).trans rfl, (blk_cell BK110.out 4).trans rfl, (blk_cell BK110.out 5).trans rfl⟩ (fun hHeld => ?_)
                 clear hK K
                 refine normA ?_
                 refine pureA 3 (some 113) HT_.out ?_
                 refine one_ (i := 6) (N := some 116) #[true, true, true, true, true, true, true, false] rfl rfl (one_of HT_.out (by kernel_rfl)) (by decide) (fun K hK => ?_)
                 refine goes_ Try.func32 (by kernel_rfl) rfl #[.int .i64 a0_2] (by rfl) rfl rfl gsA ?_
                 with_reducible refine (steepleref15_Two.calls kj90 a0_2 t121 _ A108.out).mono ?_
                 rintro e w' ⟨rfl, ⟨nd, rfl⟩⟩
                 refine ⟨_, rfl, ?_⟩
                 refine hK.out _ _ ⟨(blk_cell BK111.out 0).trans rfl, (blk_cell BK111.out 1).trans rfl, (blk_cell BK111.out 2).trans rfl, (blk_cell BK111.out 3).trans rfl, (blk_cell BK111.out 4).trans rfl, (blk_cell BK110.out 0).trans rfl, (blk_cell BK110.out 1).trans rfl, (blk_cell BK110.out 2).trans rfl, (blk_cell BK110.out 3).trans rfl, (blk_cell BK110.out 4).trans rfl, (blk_cell BK110.out 5).trans rfl⟩ (fun hHeld => ?_)
                 clear hK K
                 refine normA ?_
                 refine pureA 7 (some 117) HT_.out ?_
                 refine done_ (done_of HT_.out (by kernel_rfl)) ?_
                 try go_wp2
                 go_ret
                 exact ⟨by first | rfl | (simp [errW_none, errW_some] <;> rfl) | (simp [*, errW_none, errW_some] <;> rfl), blA HB.out⟩
                ·rw [if_neg c109] at H
                 have c109b0 : decide (t121 < (wrap64 (a2 + t120))) = false := decide_eq_false c109; clear c109; obtain rfl := Option.some.inj H
                 try go_wp2
                 have n0_ := Aside0.mk (blk_drew BK110.out); have n1_ := Aside0.mk (blk_drew BK111.out); have n2_ := Aside0.mk (below_drew1 HB.out); clear BK110; clear BK111; clear HB; have BK110 := n0_; have BK111 := n1_; have HB := n2_; clear n0_ n1_ n2_
                 refine start_ (n := 8) (S := fun w' => w'.cell? ⟨gb111, 0, none⟩ = some (.int .i64 a1_0) ∧ w'.cell? ⟨gb111, 1, none⟩ = some (.int .i64 a1_1) ∧ w'.cell? ⟨gb111, 2, none⟩ = some (.int .i64 a1_2) ∧ w'.cell? ⟨gb111, 3, none⟩ = some (.int .i64 a1_3) ∧ w'.cell? ⟨gb111, 4, none⟩ = some (.int .i64 a1_4) ∧ w'.cell? ⟨gb110, 0, none⟩ = some (.int .i64 a0_0) ∧ w'.cell? ⟨gb110, 1, none⟩ = some (.int .i64 a0_1) ∧ w'.cell? ⟨gb110, 2, none⟩ = some (.int .i64 a0_2) ∧ w'.cell? ⟨gb110, 3, none⟩ = some (.int .i64 a0_3) ∧ w'.cell? ⟨gb110, 4, none⟩ = some (.int .i64 a0_4) ∧ w'.cell? ⟨gb110, 5, none⟩ = some (.slice A0_5 l0_5.length c0_5)) (ds := []) #[false, false, false, false, false, false, false, false] (by kernel_rfl) rfl rfl ⟨(blk_cell BK111.out 0).trans rfl, (blk_cell BK111.out 1).trans rfl, (blk_cell BK111.out 2).trans rfl, (blk_cell BK111.out 3).trans rfl, (blk_cell BK111.out 4).trans rfl, (blk_cell BK110.out 0).trans rfl, (blk_cell BK110.out 1).trans rfl, (blk_cell BK110.out 2).trans rfl, (blk_cell BK110.out 3).trans rfl, (blk_cell BK110.out 4).trans rfl, (blk_cell BK110.out 5).trans rfl⟩ (fun hHeld => ?_); refine with_tabW steepleref25_System_Gate.tab11 steepleref25_System_Gate.bits11 (fun HT_ HW_ => ?_)
                 generalize wc.drew = w112 at BK110 BK111 HB hHeld ⊢
                 refine pureA 0 (some 110) HT_.out ?_
                 refine pureA 4 (some 114) HT_.out ?_
                 refine takeA 1 (some 111) rfl HT_.out HW_.out hHeld (Or.inl ⟨by rfl, by rintro w' ⟨s0, s1, s2, s3, s4, s5, s6, s7, s8, s9, s10⟩; go_simp; with_reducible rfl⟩) ?_
                 refine takeA 5 (some 115) rfl HT_.out HW_.out hHeld (Or.inl ⟨by rfl, by rintro w' ⟨s0, s1, s2, s3, s4, s5, s6, s7, s8, s9, s10⟩; go_simp; with_reducible rfl⟩) ?_
                 refine one_ (i := 2) (N := some 112) #[true, true, true, false, true, true, false, false] rfl rfl (one_of HT_.out (by kernel_rfl)) (by decide) (fun K hK => ?_)
                 refine goes_ Try.func60 (by kernel_rfl) rfl #[.agg #[.int .i64 a1_0, .int .i64 a1_1, .int .i64 a1_2, .int .i64 a1_3, .int .i64 a1_4]] (by rfl) rfl rfl gsA ?_
                 with_reducible refine (steepleref25_Makes.calls a1_0 a1_1 a1_2 a1_3 a1_4 t120 _ A107.out).mono ?_
                 rintro e w113 ⟨rfl, hb⟩
                 refine ⟨_, rfl, ?_⟩
                 have n0_ := Aside0.mk (blk_below (bkA BK110.out) hb); have n1_ := Aside0.mk (blk_below (bkA BK111.out) hb); have n2_ := Aside0.mk (below_step (blA HB.out) hb); clear BK110; clear BK111; clear HB; have BK110 := n0_; have BK111 := n1_; have HB := n2_; clear n0_ n1_ n2_
                 (try clear hb)
                 refine hK.out _ _ ⟨(blk_cell BK111.out 0).trans rfl, (blk_cell BK111.out 1).trans rfl, (blk_cell BK111.out 2).trans rfl, (blk_cell BK111.out 3).trans rfl, (blk_cell BK111.out 4).trans rfl, (blk_cell BK110.out 0).trans rfl, (blk_cell BK110.out 1).trans rfl, (blk_cell BK110.out 2).trans rfl, (blk_cell BK110.out 3).trans rfl, (blk_cell BK110.out 4).trans rfl, (blk_cell BK110.out 5).trans rfl⟩ (fun hHeld => ?_)
                 clear hK K
                 refine normA ?_
                 refine pureA 3 (some 113) HT_.out ?_
                 refine one_ (i := 6) (N := some 116) #[true, true, true, true, true, true, true, false] rfl rfl (one_of HT_.out (by kernel_rfl)) (by decide) (fun K hK => ?_)
                 refine goes_ Try.func32 (by kernel_rfl) rfl #[.int .i64 a0_2] (by rfl) rfl rfl gsA ?_
                 with_reducible refine (steepleref15_Two.calls kj90 a0_2 t121 _ A108.out).mono ?_
                 rintro e w' ⟨rfl, ⟨nd, rfl⟩⟩
                 refine ⟨_, rfl, ?_⟩
                 refine hK.out _ _ ⟨(blk_cell BK111.out 0).trans rfl, (blk_cell BK111.out 1).trans rfl, (blk_cell BK111.out 2).trans rfl, (blk_cell BK111.out 3).trans rfl, (blk_cell BK111.out 4).trans rfl, (blk_cell BK110.out 0).trans rfl, (blk_cell BK110.out 1).trans rfl, (blk_cell BK110.out 2).trans rfl, (blk_cell BK110.out 3).trans rfl, (blk_cell BK110.out 4).trans rfl, (blk_cell BK110.out 5).trans rfl⟩ (fun hHeld => ?_)
                 clear hK K
                 refine normA ?_
                 refine pureA 7 (some 117) HT_.out ?_
                 refine done_ (done_of HT_.out (by kernel_rfl)) ?_
                 try go_wp2
                 go_ret
                 exact ⟨by first | rfl | (simp [errW_none, errW_some] <;> rfl) | (simp [*, errW_none, errW_some] <;> rfl), blA HB.out⟩
end Go.Proofs.Ythiiodgpdoljoaa.PLw
namespace Go.Proofs.Ythiiodgpdoljoaa.Bit
open Go.RowKit Go.Proofs.Ythiiodgpdoljoaa.PLw Go.Proofs.YthiiodgpdoljoaaW.PrintWords Go.Proofs.YthiiodgpdoljoaaW.PrintLast
set_option linter.unusedVariables false
set_option linter.unusedSimpArgs false
def p2 (n : Int) : Int := 2 ^ n.toNat
theorem p2_cases {n : Int} (h0 : 0 ≤ n) (h6 : n ≤ 6) : (n = 0 ∧ p2 n = 1) ∨ (n = 1 ∧ p2 n = 2) ∨ (n = 2 ∧ p2 n = 4) ∨ (n = 3 ∧ p2 n = 8) ∨ (n = 4 ∧ p2 n = 16) ∨ (n = 5 ∧ p2 n = 32) ∨ (n = 6 ∧ p2 n = 64) := by
  have : n = 0 ∨ n = 1 ∨ n = 2 ∨ n = 3 ∨ n = 4 ∨ n = 5 ∨ n = 6 := by omega
  rcases this with rfl | rfl | rfl | rfl | rfl | rfl | rfl <;> simp [p2]
theorem p2_bound {n : Int} (h0 : 0 ≤ n) (h6 : n ≤ 6) : 1 ≤ p2 n ∧ p2 n ≤ 64 := by
  rcases p2_cases h0 h6 with h | h | h | h | h | h | h <;> omega
theorem shl_p2 {n : Int} (h0 : 0 ≤ n) (h6 : n ≤ 6) : shl .i64 1 n = p2 n := by
  have : n = 0 ∨ n = 1 ∨ n = 2 ∨ n = 3 ∨ n = 4 ∨ n = 5 ∨ n = 6 := by omega
  rcases this with rfl | rfl | rfl | rfl | rfl | rfl | rfl <;> decide
def fits (kind w s : Int) : Bool := decide (0 ≤ kind ∧ kind ≤ 3 ∧ 0 ≤ w ∧ w ≤ 6 ∧ 0 ≤ s ∧ s < p2 w ∧ (kind = 0 → s = 0))
theorem turnFits (kind w s : Int) : turn_Fits.f kind w s = some (fits kind w s) := by
  unfold turn_Fits.f fits
  by_cases h1 : kind ≥ 0 <;> by_cases h2 : kind ≤ 3 <;> by_cases h3 : w ≥ 0 <;> by_cases h4 : w ≤ 6 <;> by_cases h5 : s ≥ 0 <;> simp [h1, h2, h3, h4, h5]
  rw [shl_p2 h3 h4]
  by_cases h6 : s < p2 w <;> by_cases h7 : kind = 0 <;> simp [h6, h7]
  rfl
def gErr (wide cols : Int) (g : S105) (n : Int) : Int :=
  if g.f0 < 1 ∨ 8 < g.f0 then 3
  else if (¬ (g.f0 = 1 ∨ g.f0 = 2 ∨ g.f0 = 7 ∨ g.f0 = 8) ∧ g.f3 ≠ 0) ∨ (g.f0 = 8 ∧ g.f1 ≠ 0) ∨ (¬ (4 ≤ g.f0 ∧ g.f0 ≤ 6) ∧ g.f0 ≠ 7 ∧ g.f4 ≠ 0) then 3
  else if g.f2 < 0 ∨ n ≤ g.f2 ∨ ((g.f0 = 1 ∨ g.f0 = 2 ∨ g.f0 = 7 ∨ g.f0 = 8) ∧ (g.f3 < 0 ∨ n ≤ g.f3)) then 4
  else if (4 ≤ g.f0 ∧ g.f0 ≤ 6) ∧ fits (g.f0 - 3) wide g.f4 = false then 1
  else if (g.f0 ≠ 8 ∧ g.f1 ≠ n) ∨ (g.f0 = 7 ∧ g.f4 ≠ n + 1) then 3
  else if n + (if g.f0 = 8 then 0 else if g.f0 = 7 then 2 else 1) > p2 cols then 2 else 0
def makes (k : Int) : Int := if k = 8 then 0 else if k = 7 then 2 else 1
theorem gateSpec (m : Nat) (wide rows cols pub priv : Int) (l : List S105) (g : S105) (n : Int) (hw : 0 ≤ wide) (hw5 : wide ≤ 5) (hc : 0 ≤ cols) (hc6 : cols ≤ 6) (hn : 0 ≤ n) (hn2 : n ≤ 64) :
    circuit_gate.f (m + 12) wide rows cols pub priv l g.f0 g.f1 g.f2 g.f3 g.f4 n = some (if gErr wide cols g n = 0 then (n + makes g.f0, 0) else (0, gErr wide cols g n)) := by
  obtain ⟨f0, f1, f2, f3, f4⟩ := g
  have hs := shl_p2 hc hc6
  have hb := p2_bound hc hc6
  have e1 := w64 (x := n + 1) (by omega) (by omega)
  have e2 := w64 (x := n + 1 + 1) (by omega) (by omega)
  have hf : f0 < 1 ∨ 8 < f0 ∨ f0 = 1 ∨ f0 = 2 ∨ f0 = 3 ∨ f0 = 4 ∨ f0 = 5 ∨ f0 = 6 ∨ f0 = 7 ∨ f0 = 8 := by omega
  rcases hf with h | h | rfl | rfl | rfl | rfl | rfl | rfl | rfl | rfl
  · have a1 : ¬ f0 = 7 := by omega
    have a2 : ¬ f0 = 1 := by omega
    have a3 : (f0 == 2) = false := by simp; omega
    have a4 : ¬ f0 = 8 := by omega
    have a5 : ¬ f0 = 4 := by omega
    have a6 : ¬ f0 = 5 := by omega
    have a7 : (f0 == 6) = false := by simp; omega
    have a8 : ¬ f0 = 3 := by omega
    have a9 : ¬ f0 = 6 := by omega
    simp [circuit_gate.f, circuit_needs.f, circuit_needs.j0, circuit_needs.j1, circuit_turned.f, circuit_gate.j0, gErr, a1, a2, a3, a4, a5, a6, a7, a8, a9, h]
  · have a1 : ¬ f0 = 7 := by omega
    have a2 : ¬ f0 = 1 := by omega
    have a3 : (f0 == 2) = false := by simp; omega
    have a4 : ¬ f0 = 8 := by omega
    have a5 : ¬ f0 = 4 := by omega
    have a6 : ¬ f0 = 5 := by omega
    have a7 : (f0 == 6) = false := by simp; omega
    have a8 : ¬ f0 = 3 := by omega
    have a9 : ¬ f0 = 6 := by omega
    have a0 : ¬ f0 < 1 := by omega
    simp [circuit_gate.f, circuit_needs.f, circuit_needs.j0, circuit_needs.j1, circuit_turned.f, circuit_gate.j0, gErr, a1, a2, a3, a4, a5, a6, a7, a8, a9, a0, h]
  all_goals simp [circuit_gate.f, circuit_needs.f, circuit_needs.j0, circuit_needs.j1, circuit_turned.f, circuit_gate.j0, circuit_gate.j1, circuit_gate.j2, circuit_gate.j3, circuit_gate.j4, turnFits, hs, e1, e2, gErr, makes, hc]
  all_goals clear hs
  all_goals grind
def walk (wide cols : Int) : List S105 → Int → Int × Int
  | [], n => (n, 0)
  | g :: gs, n => if gErr wide cols g n = 0 then walk wide cols gs (n + makes g.f0) else (0, gErr wide cols g n)
theorem gErr_ok {wide cols : Int} {g : S105} {n : Int} (h : gErr wide cols g n = 0) : 1 ≤ g.f0 ∧ g.f0 ≤ 8 ∧ n + makes g.f0 ≤ p2 cols := by
  unfold gErr makes at *
  grind
theorem makes_nonneg (k : Int) : 0 ≤ makes k ∧ makes k ≤ 2 := by unfold makes; grind
theorem rd105 (l : List S105) (i : Nat) (h : i < l.length) : rd_T105 l (i : Int) = l[i] := by simp [rd_T105, List.getD_eq_getElem?_getD, h]
theorem rd106 (l : List S106) (i : Nat) (h : i < l.length) : rd_T106 l (i : Int) = l[i] := by simp [rd_T106, List.getD_eq_getElem?_getD, h]
theorem lookLoop (wide rows cols pub priv : Int) (l : List S105) (hw : 0 ≤ wide) (hw5 : wide ≤ 5) (hc : 0 ≤ cols) (hc6 : cols ≤ 6) (hl : l.length ≤ 1000) (d : Nat) : ∀ (k i : Nat) (n : Int), l.length - i = d → i ≤ l.length → d + 20 < k → 0 ≤ n → n ≤ p2 cols →
    circuit_look.l0 k n l (l.length : Int) (i : Int) wide rows cols pub priv l = some (walk wide cols (l.drop i) n) := by
  have hb := p2_bound hc hc6
  induction d with
  | zero =>
    intro k i n hd hi hk hn hn2
    obtain ⟨k, rfl⟩ : ∃ m, k = m + 1 := ⟨k - 1, by omega⟩
    simp only [circuit_look.l0]
    rw [if_neg (by omega), List.drop_of_length_le (by omega)]
    rfl
  | succ d ih =>
    intro k i n hd hi hk hn hn2
    obtain ⟨k, rfl⟩ : ∃ m, k = m + 12 + 1 := ⟨k - 13, by omega⟩
    have hlt : i < l.length := by omega
    simp only [circuit_look.l0]
    rw [if_pos (by omega), if_pos (by omega), if_pos (by omega), rd105 l i hlt, gateSpec k wide rows cols pub priv l l[i] n hw hw5 hc hc6 hn (by omega)]
    rw [List.drop_eq_getElem_cons hlt]
    simp only [Option.bind_some, walk]
    by_cases he : gErr wide cols l[i] n = 0
    · have h3 := gErr_ok he
      have h4 := makes_nonneg l[i].f0
      simp only [he, if_true]
      rw [w64 (by omega) (by omega)]
      exact ih (k + 12) (i + 1) _ (by omega) (by omega) (by omega) (by omega) (by omega)
    · simp only [he, if_false]
def lookS (wide rows cols pub priv : Int) (l : List S105) : Int × Int :=
  if wide < 0 ∨ 5 < wide ∨ rows < 0 ∨ 4 < rows ∨ cols < 0 ∨ 6 < cols then (0, 1)
  else if pub < 0 ∨ priv < 0 ∨ p2 cols < pub ∨ p2 cols - pub < priv then (0, 1)
  else if 30 < l.length then (0, 2) else walk wide cols l (pub + priv)
theorem lookSpec (m : Nat) (wide rows cols pub priv : Int) (l : List S105) : circuit_look.f (m + 60) wide rows cols pub priv l = some (lookS wide rows cols pub priv l) := by
  unfold lookS
  by_cases h1 : wide < 0 ∨ 5 < wide ∨ rows < 0 ∨ 4 < rows ∨ cols < 0 ∨ 6 < cols
  · rw [if_pos h1]
    simp only [circuit_look.f, circuit_look.j0]
    grind
  · rw [if_neg h1]
    have hc : 0 ≤ cols := by omega
    have hc6 : cols ≤ 6 := by omega
    have hs := shl_p2 hc hc6
    have hb := p2_bound hc hc6
    have hj : circuit_look.f (m + 60) wide rows cols pub priv l = circuit_look.j0 (m + 60) false wide rows cols pub priv l := by
      simp only [circuit_look.f]
      rw [if_neg (by omega), if_neg (by omega), if_neg (by omega), if_neg (by omega), if_neg (by omega)]
      congr 1
      simp; omega
    rw [hj]
    simp only [circuit_look.j0, hs]
    by_cases h2 : pub < 0 ∨ priv < 0 ∨ p2 cols < pub ∨ p2 cols - pub < priv
    · rw [if_pos h2]
      simp only [circuit_look.j1]
      by_cases a1 : pub < 0
      · simp [a1]
      · by_cases a2 : priv < 0
        · simp [a1, a2]
        · by_cases a3 : p2 cols < pub
          · simp [a1, a2, a3, hc]
          · have : wrap64 (p2 cols - pub) = p2 cols - pub := w64 (by omega) (by omega)
            have a4 : p2 cols - pub < priv := by omega
            simp [a1, a2, a3, hc, this, a4]
    · rw [if_neg h2]
      have e1 : wrap64 (p2 cols - pub) = p2 cols - pub := w64 (by omega) (by omega)
      have e2 : wrap64 (pub + priv) = pub + priv := w64 (by omega) (by omega)
      have a1 : ¬ pub < 0 := by omega
      have a2 : ¬ priv < 0 := by omega
      have a3 : ¬ p2 cols < pub := by omega
      have a4 : ¬ p2 cols - pub < priv := by omega
      simp only [a1, a2, hc, if_false, if_true, gt_iff_lt, a3, e1, a4, decide_false, circuit_look.j1, Bool.false_eq_true, e2]
      by_cases h3 : 30 < l.length
      · rw [if_pos (by omega), if_pos h3]
      · rw [if_neg (by omega), if_neg h3]
        exact lookLoop wide rows cols pub priv l (by omega) (by omega) hc hc6 (by omega) l.length _ 0 (pub + priv) (by omega) (by omega) (by omega) (by omega) (by omega)
end Go.Proofs.Ythiiodgpdoljoaa.Bit
namespace Go.Proofs.Ythiiodgpdoljoaa.PLw
open Go.RowKit Go.Proofs.YthiiodgpdoljoaaW.PrintWords Go.Proofs.YthiiodgpdoljoaaW.PrintLast Go.Proofs.YthiiodgpdoljoaaW.PrintMore
attribute [local go_sem] max2_int min2_int max_two min_two max_three min_three max_four min_four   -- for this text's walks alone
set_option linter.unusedVariables false
set_option linter.unusedSimpArgs false
/-! ### steeplelaw25_Ref: function 13 -/
def steeplelaw25_Ref.l0 : Nat → Int → Int → Int → Int → Int → Int → List (S105) → Int → Int → Int → Int → Int → List (S106) → Option (Int × Int × Int × Int × Int × (List (S106)))
 | 0, _, _, _, _, _, _, _, _, _, _, _, _, _ => none
 | k + 1, x4, x102000, x102001, x102002, x102003, x102004, x102005, x104000, x104001, x104002, x104003, x104004, x104005 => if x4 < (x102005.length : Int) then (if 0 ≤ x4 then (if x104005.length < 3518437208883 then (steeplelaw25_Ref.l0 k (wrap64 (x4 + 1)) x102000 x102001 x102002 x102003 x102004 x102005 x104000 x104001 x104002 x104003 x104004 (x104005 ++ [(⟨(rd_T105 x102005 x4).f0, (rd_T105 x102005 x4).f1, (rd_T105 x102005 x4).f2, (rd_T105 x102005 x4).f3, (rd_T105 x102005 x4).f4⟩ : S106)])) else (none)) else (none)) else (some (x104000, x104001, x104002, x104003, x104004, x104005))
def steeplelaw25_Ref.f (k : Nat) (a0_0 : Int) (a0_1 : Int) (a0_2 : Int) (a0_3 : Int) (a0_4 : Int) (l0_5 : List (S105)) : Option (Int × Int × Int × Int × Int × (List (S106))) := steeplelaw25_Ref.l0 k 0 a0_0 a0_1 a0_2 a0_3 a0_4 l0_5 a0_0 a0_1 a0_2 a0_3 a0_4 ([] : List (S106))
theorem steeplelaw25_Ref.mono_l : ∀ k, (∀ y0 y1 y2 y3 y4 y5 y6 y7 y8 y9 y10 y11 y12, LeO (steeplelaw25_Ref.l0 k y0 y1 y2 y3 y4 y5 y6 y7 y8 y9 y10 y11 y12) (steeplelaw25_Ref.l0 (k + 1) y0 y1 y2 y3 y4 y5 y6 y7 y8 y9 y10 y11 y12))
 | 0 => fun _ _ _ _ _ _ _ _ _ _ _ _ _ r h => by simp [steeplelaw25_Ref.l0] at h
 | k + 1 => by
  have ih0 := steeplelaw25_Ref.mono_l k
  ·intro y0 y1 y2 y3 y4 y5 y6 y7 y8 y9 y10 y11 y12
   unfold steeplelaw25_Ref.l0
   repeat' first
   | (with_reducible exact ih0 _ _ _ _ _ _ _ _ _ _ _ _ _)
   | (with_reducible exact LeO.refl _)
   | (with_reducible exact LeO.none _)
   | (with_reducible refine LeO.ite ?_ ?_)
   | (with_reducible refine LeO.bind ?_ (fun _ => ?_))
   | exact ih0 _ _ _ _ _ _ _ _ _ _ _ _ _
   | exact LeO.none _
   | refine LeO.ite ?_ ?_
   | refine LeO.bind ?_ (fun _ => ?_)
theorem steeplelaw25_Ref.mono : ∀ a0 a1 a2 a3 a4 a5 k, LeO (steeplelaw25_Ref.f k a0 a1 a2 a3 a4 a5) (steeplelaw25_Ref.f (k + 1) a0 a1 a2 a3 a4 a5) := by
 intro a0 a1 a2 a3 a4 a5 k
 have ih0 := steeplelaw25_Ref.mono_l k
 unfold steeplelaw25_Ref.f
 repeat' first
   | (with_reducible exact ih0 _ _ _ _ _ _ _ _ _ _ _ _ _)
   | (with_reducible exact LeO.refl _)
   | (with_reducible exact LeO.none _)
   | (with_reducible refine LeO.ite ?_ ?_)
   | (with_reducible refine LeO.bind ?_ (fun _ => ?_))
   | exact ih0 _ _ _ _ _ _ _ _ _ _ _ _ _
   | exact LeO.none _
   | refine LeO.ite ?_ ?_
   | refine LeO.bind ?_ (fun _ => ?_)
def steeplelaw25_Ref.T5 : Bool × List (List Nat × List Nat) := (true, [([], []), ([0], [0]), ([], []), ([2], [2]), ([], []), ([3, 4], [3, 4]), ([5], [5]), ([6], [6]), ([1, 7], [1, 7]), ([0, 1, 2, 3, 4, 5, 6, 7, 8], []), ([9, 8, 8, 0, 1, 2, 3, 4, 5, 6, 7, 8], [8, 9])])
def steeplelaw25_Ref.B5 : List Nat := [0, 1, 0, 4, 0, 28, 60, 124, 255, 511, 1023]
theorem steeplelaw25_Ref.tab5 : rtab .any (opsOf Try.f13 5) = steeplelaw25_Ref.T5 := by kernel_rfl
theorem steeplelaw25_Ref.bits5 : waitsOk steeplelaw25_Ref.T5.2 steeplelaw25_Ref.B5 = true := by kernel_rfl
set_option maxHeartbeats 8000000 in
set_option maxRecDepth 100000 in
theorem steeplelaw25_Ref.calls (k : Nat) (a0_0 : Int) (a0_1 : Int) (a0_2 : Int) (a0_3 : Int) (a0_4 : Int) (A0_5 : Option Addr) (c0_5 : Nat) (l0_5 : List (S105)) (r1 : Int) (r2 : Int) (r3 : Int) (r4 : Int) (r5 : Int) (r6 : List (S106)) (w : World) (hr0_5 : Kd.C k105 w A0_5 l0_5.length l0_5) (hc0_5 : l0_5.length ≤ c0_5) (h : steeplelaw25_Ref.f k a0_0 a0_1 a0_2 a0_3 a0_4 l0_5 = some (r1, r2, r3, r4, r5, r6)) :
  Calls Try.prog 13 #[.agg #[.int .i64 a0_0, .int .i64 a0_1, .int .i64 a0_2, .int .i64 a0_3, .int .i64 a0_4, .slice A0_5 l0_5.length c0_5]] w fun e w' => ∃ v5_ : Value, e = .returned (.agg #[.int .i64 r1, .int .i64 r2, .int .i64 r3, .int .i64 r4, .int .i64 r5, v5_]) ∧ Kd.R k106 106 w' w.heap.size (fun _ => True) v5_ r6 ∧ Below w.heap.size w w' := by
 have hu24 := Try.underlying24; have hu28 := Try.underlying28; have hu105 := Try.underlying105; have HR0_5 := Aside0.mk hr0_5; have HC0_5 := Aside0.mk hc0_5; clear hr0_5 hc0_5; have HB := Aside0.mk (Below.refl w.heap.size w); have H : (steeplelaw25_Ref.l0 k 0 a0_0 a0_1 a0_2 a0_3 a0_4 l0_5 a0_0 a0_1 a0_2 a0_3 a0_4 ([] : List (S106))) = some (r1, r2, r3, r4, r5, r6) := h; clear h; have H' := Aside0.mk H; clear H
 go_enter Try.func13, Try.ntmps13
 go_wp2_with (first | ((with_reducible refine gate_dst (N := 1) rfl ?_); refine box_event ?hg (N := 1) ?hd (cs := #[.int .i64 a0_0, .int .i64 a0_1, .int .i64 a0_2, .int .i64 a0_3, .int .i64 a0_4, .slice A0_5 l0_5.length c0_5]) (t := 24) ?hr ?_; (case hd => rfl); (case hg => rfl); (case hr => first | (go_simp; done) | (go_simp; rfl)); intro gb101 hg w2 hbox hb; have n0_ := Aside0.mk (below_step (blA HB.out) hb); have n1_ := Aside0.mk (hbox); have n2_ := Aside0.mk ((by rw [hg]; exact (below_size (blA HB.out)) : w.heap.size ≤ gb101)); have n3_ := Aside0.mk ((by rw [hg]; exact (below_size (blA HB.out)) : w.heap.size ≤ gb101)); clear HB; have HB := n0_; have BK101 := n1_; have GW101 := n2_; have GE101 := n3_; clear n0_ n1_ n2_ n3_; clear hb hbox hg) | ((with_reducible refine gate_dst (N := 2) rfl ?_); refine box_event ?hg (N := 2) ?hd (cs := #[.int .i64 0, .int .i64 0, .int .i64 0, .int .i64 0, .int .i64 0, .slice none 0 0]) (t := 28) ?hr ?_; (case hd => rfl); (case hg => rfl); (case hr => first | (go_simp; done) | (go_simp; rfl)); intro gb102 hg w3 hbox hb; have n0_ := Aside0.mk (blk_below (bkA BK101.out) hb); have n1_ := Aside0.mk (below_step (blA HB.out) hb); have n2_ := Aside0.mk (hbox); have n3_ := Aside0.mk ((by rw [hg]; exact (below_size (blA HB.out)) : w.heap.size ≤ gb102)); have n4_ := Aside0.mk ((by rw [hg]; exact (below_size (blA HB.out)) : w.heap.size ≤ gb102)); have n5_ := Aside0.mk ((by rw [hg]; exact Nat.ne_of_lt (blk_lt (bkA BK101.out)) : gb101 ≠ gb102)); have n6_ := Aside0.mk ((by rw [hg]; exact Nat.ne_of_gt (blk_lt (bkA BK101.out)) : gb102 ≠ gb101)); clear BK101; clear HB; have BK101 := n0_; have HB := n1_; have BK102 := n2_; have GW102 := n3_; have GE102 := n4_; have NB101_102 := n5_; have NB102_101 := n6_; clear n0_ n1_ n2_ n3_ n4_ n5_ n6_; clear hb hbox hg; have hnb4 := NB101_102.out; have hnc4 := NB102_101.out; have hcz5 := fun i => blk_cell BK101.out i; have hfz5 := fun i => blk_frozen BK101.out i; ) | ((with_reducible refine gate_dst (N := 3) rfl ?_); refine box_event ?hg (N := 3) ?hd (cs := #[.int .i64 0, .int .i64 0, .int .i64 0, .int .i64 0, .int .i64 0, .slice none 0 0]) (t := 28) ?hr ?_; (case hd => rfl); (case hg => rfl); (case hr => first | (go_simp; done) | (go_simp; rfl)); intro gb103 hg w6 hbox hb; have n0_ := Aside0.mk (blk_below (bkA BK101.out) hb); have n1_ := Aside0.mk (blk_below (bkA BK102.out) hb); have n2_ := Aside0.mk (below_step (blA HB.out) hb); have n3_ := Aside0.mk (hbox); have n4_ := Aside0.mk ((by rw [hg]; exact (below_size (blA HB.out)) : w.heap.size ≤ gb103)); have n5_ := Aside0.mk ((by rw [hg]; exact (below_size (blA HB.out)) : w.heap.size ≤ gb103)); have n6_ := Aside0.mk ((by rw [hg]; exact Nat.ne_of_lt (blk_lt (bkA BK101.out)) : gb101 ≠ gb103)); have n7_ := Aside0.mk ((by rw [hg]; exact Nat.ne_of_gt (blk_lt (bkA BK101.out)) : gb103 ≠ gb101)); have n8_ := Aside0.mk ((by rw [hg]; exact Nat.ne_of_lt (blk_lt (bkA BK102.out)) : gb102 ≠ gb103)); have n9_ := Aside0.mk ((by rw [hg]; exact Nat.ne_of_gt (blk_lt (bkA BK102.out)) : gb103 ≠ gb102)); clear BK101; clear BK102; clear HB; have BK101 := n0_; have BK102 := n1_; have HB := n2_; have BK103 := n3_; have GW103 := n4_; have GE103 := n5_; have NB101_103 := n6_; have NB103_101 := n7_; have NB102_103 := n8_; have NB103_102 := n9_; clear n0_ n1_ n2_ n3_ n4_ n5_ n6_ n7_ n8_ n9_; clear hb hbox hg; have hnb7 := NB103_101.out; have hnc7 := NB101_103.out; have hnb8 := NB103_102.out; have hnc8 := NB102_103.out; have hcz9 := fun i => blk_cell BK103.out i; have hfz9 := fun i => blk_frozen BK103.out i; ))
 go_loopg [4] k (fun kq v4 w' => ∃ (x4_1 : Int) (x104005_1 : List (S106)) (u104005 : Value), v4 = .int .i64 x4_1 ∧ Aside0 (steeplelaw25_Ref.l0 kq x4_1 a0_0 a0_1 a0_2 a0_3 a0_4 l0_5 a0_0 a0_1 a0_2 a0_3 a0_4 x104005_1 = some (r1, r2, r3, r4, r5, r6)) ∧ Aside0 (kq ≤ k) ∧ Aside0 (Kd.R k106 106 w' w.heap.size (fun _ => True) u104005 x104005_1) ∧ Aside0 (w'.heap[gb101]? = some (.cells #[.int .i64 a0_0, .int .i64 a0_1, .int .i64 a0_2, .int .i64 a0_3, .int .i64 a0_4, (.slice A0_5 l0_5.length c0_5)] 24 (0, 0))) ∧ Aside0 (w'.heap[gb102]? = some (.cells #[.int .i64 0, .int .i64 0, .int .i64 0, .int .i64 0, .int .i64 0, (.slice none 0 0)] 28 (0, 0))) ∧ Aside0 (w'.heap[gb103]? = some (.cells #[.int .i64 a0_0, .int .i64 a0_1, .int .i64 a0_2, .int .i64 a0_3, .int .i64 a0_4, u104005] 28 (0, 0))) ∧ Aside0 (Below w.heap.size w w'))
 case atStart => exact ⟨(0), (([] : List (S106))), (.slice none 0 0), eqA, H', ⟨Nat.le_refl _⟩, ⟨by first | exact Kd.R_nil _ _ _ _ _ | exact Kd.N_nil _ _ _ _ _ | exact Kd.V_nil _ _ _ _ _ | exact Kd.Q_nil _ _ _ _ _ | exact Kd.S_nil _ _ _ _ _⟩, ⟨by refine bkA ?_; refine blk_far ?_ NB101_103.out _; refine bkA ?_; refine blk_far ?_ NB101_103.out _; refine bkA ?_; refine blk_far ?_ NB101_103.out _; refine bkA ?_; refine blk_far ?_ NB101_103.out _; refine bkA ?_; refine blk_far ?_ NB101_103.out _; refine bkA ?_; refine blk_far ?_ NB101_103.out _; refine bkA ?_; exact BK101.out⟩, ⟨by refine bkA ?_; refine blk_far ?_ NB102_103.out _; refine bkA ?_; refine blk_far ?_ NB102_103.out _; refine bkA ?_; refine blk_far ?_ NB102_103.out _; refine bkA ?_; refine blk_far ?_ NB102_103.out _; refine bkA ?_; refine blk_far ?_ NB102_103.out _; refine bkA ?_; refine blk_far ?_ NB102_103.out _; refine bkA ?_; exact BK102.out⟩, ⟨by refine bkA ?_; refine blk_put (cs := #[.int .i64 a0_0, .int .i64 a0_1, .int .i64 a0_2, .int .i64 a0_3, .int .i64 a0_4, .slice none 0 0]) ?_ 5 _ rfl; refine bkA ?_; refine blk_put (cs := #[.int .i64 a0_0, .int .i64 a0_1, .int .i64 a0_2, .int .i64 a0_3, .int .i64 0, .slice none 0 0]) ?_ 4 _ rfl; refine bkA ?_; refine blk_put (cs := #[.int .i64 a0_0, .int .i64 a0_1, .int .i64 a0_2, .int .i64 0, .int .i64 0, .slice none 0 0]) ?_ 3 _ rfl; refine bkA ?_; refine blk_put (cs := #[.int .i64 a0_0, .int .i64 a0_1, .int .i64 0, .int .i64 0, .int .i64 0, .slice none 0 0]) ?_ 2 _ rfl; refine bkA ?_; refine blk_put (cs := #[.int .i64 a0_0, .int .i64 0, .int .i64 0, .int .i64 0, .int .i64 0, .slice none 0 0]) ?_ 1 _ rfl; refine bkA ?_; refine blk_put (cs := #[.int .i64 0, .int .i64 0, .int .i64 0, .int .i64 0, .int .i64 0, .slice none 0 0]) ?_ 0 _ rfl; refine bkA ?_; exact BK103.out⟩, ⟨blA HB.out⟩⟩
 case round =>
  clear H'; (try clear c1); (try clear p2); (try clear c4); (try clear c7); (try clear c8); (try clear hcz5); (try clear hcz9); (try clear hfz5); (try clear hfz9); obtain ⟨x4_1, x104005_1, u104005, rfl, HA, HK1, HO_104005, BK101, BK102, BK103, HB⟩ := hrel
  cases gk with
  | zero => exact absurd HA.out (by simp [steeplelaw25_Ref.l0])
  | succ k1 =>
   have H := HA.out; clear HA
   simp only [steeplelaw25_Ref.l0] at H
   by_cases c10 : x4_1 < (l0_5.length : Int)
   ·rw [if_pos c10] at H
    have c10b0 : decide (x4_1 < (l0_5.length : Int)) = true := decide_eq_true c10; clear c10
    by_cases c11 : 0 ≤ x4_1
    ·rw [if_pos c11] at H
     have c11b0 : decide (0 ≤ x4_1) = true := decide_eq_true c11; clear c11
     by_cases c12 : x104005_1.length < 3518437208883
     ·rw [if_pos c12] at H
      have LMc12 := Aside0.mk c12; clear c12
      obtain ⟨y105, hy105⟩ : ∃ y_ : List (S106), y_ = (x104005_1 ++ [(⟨(rd_T105 l0_5 x4_1).f0, (rd_T105 l0_5 x4_1).f1, (rd_T105 l0_5 x4_1).f2, (rd_T105 l0_5 x4_1).f3, (rd_T105 l0_5 x4_1).f4⟩ : S106)]) := ⟨_, rfl⟩
      replace H : (steeplelaw25_Ref.l0 k1 (wrap64 (x4_1 + 1)) a0_0 a0_1 a0_2 a0_3 a0_4 l0_5 a0_0 a0_1 a0_2 a0_3 a0_4 y105) = some (r1, r2, r3, r4, r5, r6) := by first | (rw [hy105]; with_reducible exact H) | (have H2_ := (Option.bind_some _ _).symm.trans H; rw [hy105]; with_reducible exact H2_) | (have H2_ := (Option.bind_some _ _).symm.trans H; with_reducible exact H2_) | with_reducible exact H | (rw [hy105]; exact H) | exact H
      have Ny105 := Aside0.mk hy105; clear hy105; have H' := Aside0.mk H; clear H; have hnb13 := NB101_102.out; have hnc13 := NB102_101.out; have hnb14 := NB101_103.out; have hnc14 := NB103_101.out
      have hcz15 := fun i => blk_cell BK101.out i
      have hfz15 := fun i => blk_frozen BK101.out i
      try go_wp2
      have n0_ := Aside0.mk (Kd.R_drew HO_104005.out); have n1_ := Aside0.mk (blk_drew BK101.out); have n2_ := Aside0.mk (blk_drew BK102.out); have n3_ := Aside0.mk (blk_drew BK103.out); have n4_ := Aside0.mk (below_drew1 HB.out); clear HO_104005; clear BK101; clear BK102; clear BK103; clear HB; have HO_104005 := n0_; have BK101 := n1_; have BK102 := n2_; have BK103 := n3_; have HB := n4_; clear n0_ n1_ n2_ n3_ n4_
      have p104 : 0 ≤ (x4_1 : Int) := of_decide_eq_true (by first | (with_reducible assumption) | assumption)
      have q104 : x4_1 < (l0_5.length : Int) := of_decide_eq_true (by first | (with_reducible assumption) | assumption)
      obtain ⟨ad104, e104, hx104_0, hx104_1, hx104_2, hx104_3, hx104_4⟩ := at_T105 HR0_5.out x4_1 p104 q104; have hw104_4 := hx104_4; have hw104_3 := hx104_3; have hw104_2 := hx104_2; have hw104_1 := hx104_1; have hw104_0 := hx104_0
      cases e104
      replace hx104_0 := (HB.out.cell (World.block_lt_of_cell? w _ hx104_0)).trans hx104_0; replace hx104_1 := (HB.out.cell (World.block_lt_of_cell? w _ hx104_1)).trans hx104_1; replace hx104_2 := (HB.out.cell (World.block_lt_of_cell? w _ hx104_2)).trans hx104_2; replace hx104_3 := (HB.out.cell (World.block_lt_of_cell? w _ hx104_3)).trans hx104_3; replace hx104_4 := (HB.out.cell (World.block_lt_of_cell? w _ hx104_4)).trans hx104_4; replace p104 := eq_true p104; replace q104 := eq_true q104
      refine start_ (n := 11) (S := fun w' => w'.cell? ⟨gb103, 0, none⟩ = some (.int .i64 a0_0) ∧ w'.cell? ⟨gb103, 1, none⟩ = some (.int .i64 a0_1) ∧ w'.cell? ⟨gb103, 2, none⟩ = some (.int .i64 a0_2) ∧ w'.cell? ⟨gb103, 3, none⟩ = some (.int .i64 a0_3) ∧ w'.cell? ⟨gb103, 4, none⟩ = some (.int .i64 a0_4) ∧ w'.cell? ⟨gb103, 5, none⟩ = some (u104005) ∧ w'.cell? ⟨gb101, 0, none⟩ = some (.int .i64 a0_0) ∧ w'.cell? ⟨gb101, 1, none⟩ = some (.int .i64 a0_1) ∧ w'.cell? ⟨gb101, 2, none⟩ = some (.int .i64 a0_2) ∧ w'.cell? ⟨gb101, 3, none⟩ = some (.int .i64 a0_3) ∧ w'.cell? ⟨gb101, 4, none⟩ = some (.int .i64 a0_4) ∧ w'.cell? ⟨gb101, 5, none⟩ = some (.slice (some ad104) l0_5.length c0_5) ∧ w'.cell? (ad104.add ((x4_1).toNat * 5)) = some (.int .i64 ((rd_T105 l0_5 x4_1).f0)) ∧ w'.cell? ⟨(ad104.add ((x4_1).toNat * 5)).block, (ad104.add ((x4_1).toNat * 5)).off + 1, none⟩ = some (.int .i64 ((rd_T105 l0_5 x4_1).f1)) ∧ w'.cell? ⟨(ad104.add ((x4_1).toNat * 5)).block, (ad104.add ((x4_1).toNat * 5)).off + 2, none⟩ = some (.int .i64 ((rd_T105 l0_5 x4_1).f2)) ∧ w'.cell? ⟨(ad104.add ((x4_1).toNat * 5)).block, (ad104.add ((x4_1).toNat * 5)).off + 3, none⟩ = some (.int .i64 ((rd_T105 l0_5 x4_1).f3)) ∧ w'.cell? ⟨(ad104.add ((x4_1).toNat * 5)).block, (ad104.add ((x4_1).toNat * 5)).off + 4, none⟩ = some (.int .i64 ((rd_T105 l0_5 x4_1).f4))) (ds := [10]) #[false, false, false, false, false, false, false, false, false, false, false] (by kernel_rfl) rfl rfl ⟨(blk_cell BK103.out 0).trans rfl, (blk_cell BK103.out 1).trans rfl, (blk_cell BK103.out 2).trans rfl, (blk_cell BK103.out 3).trans rfl, (blk_cell BK103.out 4).trans rfl, (blk_cell BK103.out 5).trans rfl, (blk_cell BK101.out 0).trans rfl, (blk_cell BK101.out 1).trans rfl, (blk_cell BK101.out 2).trans rfl, (blk_cell BK101.out 3).trans rfl, (blk_cell BK101.out 4).trans rfl, (blk_cell BK101.out 5).trans rfl, (clA HB.out hw104_0), (clA HB.out hw104_1), (clA HB.out hw104_2), (clA HB.out hw104_3), (clA HB.out hw104_4)⟩ (fun hHeld => ?_); refine with_tabW steeplelaw25_Ref.tab5 steeplelaw25_Ref.bits5 (fun HT_ HW_ => ?_)
      generalize wr.drew = w16 at HO_104005 BK101 BK102 BK103 HB hx104_0 hx104_1 hx104_2 hx104_3 hx104_4 hHeld ⊢
      refine pureA 0 (some 23) HT_.out ?_
      refine pureA 2 (some 25) HT_.out ?_
      refine pureA 4 (some 27) HT_.out ?_
      refine takeA 1 (some 24) rfl HT_.out HW_.out hHeld (Or.inl ⟨by rfl, by rintro w' ⟨s0, s1, s2, s3, s4, s5, s6, s7, s8, s9, s10, s11, s12, s13, s14, s15, s16⟩; go_simp; with_reducible rfl⟩) ?_
      refine takeA 3 (some 26) rfl HT_.out HW_.out hHeld (Or.inl ⟨by rfl, by rintro w' ⟨s0, s1, s2, s3, s4, s5, s6, s7, s8, s9, s10, s11, s12, s13, s14, s15, s16⟩; go_simp; with_reducible rfl⟩) ?_
      refine pureA 5 (some 28) HT_.out ?_
      refine takeA 6 (some 29) rfl HT_.out HW_.out hHeld (Or.inl ⟨by rfl, by rintro w' ⟨s0, s1, s2, s3, s4, s5, s6, s7, s8, s9, s10, s11, s12, s13, s14, s15, s16⟩; go_simp; with_reducible rfl⟩) ?_
      refine one_ (i := 7) (N := some 30) #[true, true, true, true, true, true, true, true, false, false, false] rfl rfl (one_of HT_.out (by kernel_rfl)) (by decide) (fun K hK => ?_)
      refine value_ (w1 := ?_) (v := ?_) (by rfl) rfl ?_ ?_
      rotate_left 2
      ·go_simp
       constructor
       ·rfl
       ·rfl
      refine hK.out _ _ ⟨(blk_cell (blk_alloc BK103.out _) 0).trans rfl, (blk_cell (blk_alloc BK103.out _) 1).trans rfl, (blk_cell (blk_alloc BK103.out _) 2).trans rfl, (blk_cell (blk_alloc BK103.out _) 3).trans rfl, (blk_cell (blk_alloc BK103.out _) 4).trans rfl, (blk_cell (blk_alloc BK103.out _) 5).trans rfl, (blk_cell (blk_alloc BK101.out _) 0).trans rfl, (blk_cell (blk_alloc BK101.out _) 1).trans rfl, (blk_cell (blk_alloc BK101.out _) 2).trans rfl, (blk_cell (blk_alloc BK101.out _) 3).trans rfl, (blk_cell (blk_alloc BK101.out _) 4).trans rfl, (blk_cell (blk_alloc BK101.out _) 5).trans rfl, (World.cell?_alloc_lt _ _ _ (World.block_lt_of_cell? _ _ ((clA HB.out hw104_0)))).trans ((clA HB.out hw104_0)), (World.cell?_alloc_lt _ _ _ (World.block_lt_of_cell? _ _ ((clA HB.out hw104_1)))).trans ((clA HB.out hw104_1)), (World.cell?_alloc_lt _ _ _ (World.block_lt_of_cell? _ _ ((clA HB.out hw104_2)))).trans ((clA HB.out hw104_2)), (World.cell?_alloc_lt _ _ _ (World.block_lt_of_cell? _ _ ((clA HB.out hw104_3)))).trans ((clA HB.out hw104_3)), (World.cell?_alloc_lt _ _ _ (World.block_lt_of_cell? _ _ ((clA HB.out hw104_4)))).trans ((clA HB.out hw104_4))⟩ (fun hHeld => ?_)
      clear hK K
      refine normA ?_
      refine one_ (i := 8) (N := some 31) #[true, true, true, true, true, true, true, true, true, false, false] rfl rfl (one_of HT_.out (by kernel_rfl)) (by decide) (fun K hK => ?_)
      refine Kd.R_append_step k106 (w0 := w) w.heap.size (by rfl) (.tmp 24) (.tmp 30) 26 106 (.agg #[(.int .i64 0), (.int .i64 0), (.int .i64 0), (.int .i64 0), (.int .i64 0)]) 40 rfl Try.underlying26 info106 rfl (by decide) (by omega) u104005 x104005_1 (⟨(rd_T105 l0_5 x4_1).f0, (rd_T105 l0_5 x4_1).f1, (rd_T105 l0_5 x4_1).f2, (rd_T105 l0_5 x4_1).f3, (rd_T105 l0_5 x4_1).f4⟩ : S106) [.int .i64 ((rd_T105 l0_5 x4_1).f0), .int .i64 ((rd_T105 l0_5 x4_1).f1), .int .i64 ((rd_T105 l0_5 x4_1).f2), .int .i64 ((rd_T105 l0_5 x4_1).f3), .int .i64 ((rd_T105 l0_5 x4_1).f4)] (fun _ => True) (fun _ => False) rfl rfl ?aP (fun _ hk => hk.elim) ?aF ?aO ?aB ?aS ?aL ?_
      (case aP => exact k106_mkM _ _ _ (⟨(rd_T105 l0_5 x4_1).f0, (rd_T105 l0_5 x4_1).f1, (rd_T105 l0_5 x4_1).f2, (rd_T105 l0_5 x4_1).f3, (rd_T105 l0_5 x4_1).f4⟩ : S106))
      (case aB => exact (blA HB.out))
      (case aF => exact (fun _ _ => trivial))
      (case aO => exact (raA HO_104005.out))
      (case aS => exact (below_size (blA HB.out)))
      (case aL => have := LMc12.out; omega)
      intro v106 w17 ho hb hg hat
      rw [← Ny105.out] at ho
      have n0_ := Aside0.mk (blk_grown (bkA BK101.out) hg (Kd.R_ne HO_104005.out BK101.out (by decide)))
      have n1_ := Aside0.mk (blk_grown (bkA BK102.out) hg (Kd.R_ne HO_104005.out BK102.out (by decide)))
      have n2_ := Aside0.mk (blk_grown (bkA BK103.out) hg (Kd.R_ne HO_104005.out BK103.out (by decide)))
      have n3_ := Aside0.mk (hb); have n4_ := Aside0.mk (ho); clear BK101; clear BK102; clear BK103; clear HB; clear HO_104005; have BK101 := n0_; have BK102 := n1_; have BK103 := n2_; have HB := n3_; have HO107 := n4_; clear n0_ n1_ n2_ n3_ n4_; clear ho hb hg hat; obtain ⟨Ao18, co18, eo18⟩ := Kd.R_slice HO107.out
      (first | subst eo18 | (injection eo18 with f1_ f2_ f3_; have f4_ := f1_.symm; have f5_ := f3_.symm; clear f1_ f2_ f3_; subst f4_; subst f5_))
      refine hK.out _ _ ⟨(blk_cell BK103.out 0).trans rfl, (blk_cell BK103.out 1).trans rfl, (blk_cell BK103.out 2).trans rfl, (blk_cell BK103.out 3).trans rfl, (blk_cell BK103.out 4).trans rfl, (blk_cell BK103.out 5).trans rfl, (blk_cell BK101.out 0).trans rfl, (blk_cell BK101.out 1).trans rfl, (blk_cell BK101.out 2).trans rfl, (blk_cell BK101.out 3).trans rfl, (blk_cell BK101.out 4).trans rfl, (blk_cell BK101.out 5).trans rfl, (clA HB.out hw104_0), (clA HB.out hw104_1), (clA HB.out hw104_2), (clA HB.out hw104_3), (clA HB.out hw104_4)⟩ (fun hHeld => ?_)
      clear hK K
      refine normA ?_
      refine pureA 9 (some 32) HT_.out ?_
      refine last_ (i := 10) (N := none) #[true, true, true, true, true, true, true, true, true, true, true] rfl rfl (one_of HT_.out (by kernel_rfl)) (by decide) (fun K hK => ?_)
      have hs19 : w17.cell? ⟨gb103, 5, none⟩ = some (u104005) := (blk_cell BK103.out 5).trans rfl; have hfs19 := blk_frozen BK103.out 5; have hns19_0 := NB101_103.out; have hns19_1 := NB102_103.out; have hms19_0 := NB103_101.out; have hms19_1 := NB103_102.out
      refine skip_ (w1 := ?_) (by rfl) rfl ?_ ?_
      rotate_left
      ·go_simp
       rfl
      refine hK.out _ _ ?_
      clear hK K
      refine done_ (done_of HT_.out (by kernel_rfl)) ?_
      try go_wp2
      go_roundg k1
      case measure => have := HK1.out; omega
      case rel => exact ⟨(wrap64 (x4_1 + 1)), (y105), (.slice Ao18 y105.length co18), eqA, H', ⟨by have := HK1.out; omega⟩, ⟨by (with_reducible repeat (first | apply Kd.R_alloc | apply Kd.R_drewN | apply Kd.R_drew)); exact Kd.R_mono (Kd.R_far (p := ⟨gb103, 5, none⟩) (Kd.R_types HO107.out BK103.out (by decide)) (fun _ hk => hk.2) (.slice Ao18 y105.length co18)) (fun _ hk => trivial)⟩, ⟨by refine bkA ?_; refine blk_far ?_ NB101_103.out _; refine bkA ?_; exact BK101.out⟩, ⟨by refine bkA ?_; refine blk_far ?_ NB102_103.out _; refine bkA ?_; exact BK102.out⟩, ⟨by refine bkA ?_; refine blk_put (cs := #[.int .i64 a0_0, .int .i64 a0_1, .int .i64 a0_2, .int .i64 a0_3, .int .i64 a0_4, u104005]) ?_ 5 _ rfl; refine bkA ?_; exact BK103.out⟩, ⟨blA HB.out⟩⟩
     ·rw [if_neg c12] at H
      exact absurd H (by simp)
    ·rw [if_neg c11] at H
     exact absurd H (by simp)
   ·rw [if_neg c10] at H
    have c10b0 : decide (x4_1 < (l0_5.length : Int)) = false := decide_eq_false c10; clear c10
    simp only [Option.some.injEq, Prod.mk.injEq] at H
    obtain ⟨rfl, rfl, rfl, rfl, rfl, rfl⟩ := H; have hnb20 := NB101_102.out; have hnc20 := NB102_101.out; have hnb21 := NB101_103.out; have hnc21 := NB103_101.out
    have hcz22 := fun i => blk_cell BK101.out i
    have hfz22 := fun i => blk_frozen BK101.out i
    have hnb23 := NB103_102.out; have hnc23 := NB102_103.out
    have hcz24 := fun i => blk_cell BK103.out i
    have hfz24 := fun i => blk_frozen BK103.out i
    have hcz25 := fun i => blk_cell BK102.out i
    have hfz25 := fun i => blk_frozen BK102.out i
    obtain ⟨Ao26, co26, eo26⟩ := Kd.R_slice HO_104005.out; subst eo26
    go_wp2
    refine bodyPost_ret (results_cell_row rfl _ _ gb102 28 #[.int .i64 a0_0, .int .i64 a0_1, .int .i64 a0_2, .int .i64 a0_3, .int .i64 a0_4, .slice Ao26 x104005_1.length co26] (0, 0) _ rfl (by refine bkA ?_; refine blk_put (cs := #[.int .i64 a0_0, .int .i64 a0_1, .int .i64 a0_2, .int .i64 a0_3, .int .i64 a0_4, .slice none 0 0]) ?_ 5 _ rfl; refine bkA ?_; refine blk_put (cs := #[.int .i64 a0_0, .int .i64 a0_1, .int .i64 a0_2, .int .i64 a0_3, .int .i64 0, .slice none 0 0]) ?_ 4 _ rfl; refine bkA ?_; refine blk_put (cs := #[.int .i64 a0_0, .int .i64 a0_1, .int .i64 a0_2, .int .i64 0, .int .i64 0, .slice none 0 0]) ?_ 3 _ rfl; refine bkA ?_; refine blk_put (cs := #[.int .i64 a0_0, .int .i64 a0_1, .int .i64 0, .int .i64 0, .int .i64 0, .slice none 0 0]) ?_ 2 _ rfl; refine bkA ?_; refine blk_put (cs := #[.int .i64 a0_0, .int .i64 0, .int .i64 0, .int .i64 0, .int .i64 0, .slice none 0 0]) ?_ 1 _ rfl; refine bkA ?_; refine blk_put (cs := #[.int .i64 0, .int .i64 0, .int .i64 0, .int .i64 0, .int .i64 0, .slice none 0 0]) ?_ 0 _ rfl; refine bkA ?_; exact BK102.out) Try.underlying28 rfl (by kernel_rfl)) rfl ?_
    exact ⟨_, by first | rfl | (simp [errW_none, errW_some] <;> rfl) | (simp [*, errW_none, errW_some] <;> rfl), by (with_reducible repeat (first | apply Kd.R_alloc | apply Kd.R_drewN | apply Kd.R_drew)); exact Kd.R_mono (Kd.R_far (p := ⟨gb102, 5, none⟩) (Kd.R_far (p := ⟨gb102, 4, none⟩) (Kd.R_far (p := ⟨gb102, 3, none⟩) (Kd.R_far (p := ⟨gb102, 2, none⟩) (Kd.R_far (p := ⟨gb102, 1, none⟩) (Kd.R_far (p := ⟨gb102, 0, none⟩) (Kd.R_types HO_104005.out BK102.out (by decide)) (fun _ hk => hk.2) (.int .i64 a0_0)) (fun _ hk => hk.2) (.int .i64 a0_1)) (fun _ hk => hk.2) (.int .i64 a0_2)) (fun _ hk => hk.2) (.int .i64 a0_3)) (fun _ hk => hk.2) (.int .i64 a0_4)) (fun _ hk => hk.2) (.slice Ao26 x104005_1.length co26)) (fun _ hk => trivial), blA HB.out⟩
end Go.Proofs.Ythiiodgpdoljoaa.PLw
namespace Go.Proofs.Ythiiodgpdoljoaa.PLw
open Go.RowKit Go.Proofs.YthiiodgpdoljoaaW.PrintWords Go.Proofs.YthiiodgpdoljoaaW.PrintLast Go.Proofs.YthiiodgpdoljoaaW.PrintMore
attribute [local go_sem] max2_int min2_int max_two min_two max_three min_three max_four min_four   -- for this text's walks alone
set_option linter.unusedVariables false
set_option linter.unusedSimpArgs false
/-! ### steepleref25_Check: function 16 -/
mutual
def steepleref25_Check.j0 : Nat → Bool → Int → Int → Int → Int → Int → List (S106) → Option (Int)
 | 0, _, _, _, _, _, _, _ => none
 | k + 1, x43, x123000, x123001, x123002, x123003, x123004, x123005 => if x43 = true then (some 1) else (if x123003 > 64 then (steepleref25_Check.j1 k true x123000 x123001 x123002 x123003 x123004 x123005) else (if x123004 > 64 then (steepleref25_Check.j1 k true x123000 x123001 x123002 x123003 x123004 x123005) else ((steepleref15_Two.f k x123002).bind fun t123 => (steepleref25_Check.j1 k (decide ((wrap64 (x123003 + x123004)) > t123)) x123000 x123001 x123002 x123003 x123004 x123005))))
def steepleref25_Check.j1 : Nat → Bool → Int → Int → Int → Int → Int → List (S106) → Option (Int)
 | 0, _, _, _, _, _, _, _ => none
 | k + 1, x62, x123000, x123001, x123002, x123003, x123004, x123005 => if x62 = true then (some 1) else (if (x123005.length : Int) > 30 then (some 2) else (steepleref25_Check.l0 k (wrap64 (x123003 + x123004)) 0 x123000 x123001 x123002 x123003 x123004 x123005))
def steepleref25_Check.l0 : Nat → Int → Int → Int → Int → Int → Int → Int → List (S106) → Option (Int)
 | 0, _, _, _, _, _, _, _, _ => none
 | k + 1, x3, x4, x123000, x123001, x123002, x123003, x123004, x123005 => if x4 < (x123005.length : Int) then (if 0 ≤ x4 then ((steepleref25_System_Gate.f k x123000 x123001 x123002 x123003 x123004 x123005 ((rd_T106 x123005 x4).f0) ((rd_T106 x123005 x4).f1) ((rd_T106 x123005 x4).f2) ((rd_T106 x123005 x4).f3) ((rd_T106 x123005 x4).f4) x3).bind fun t125 => (if t125 = 0 then ((steepleref25_Makes.f ((rd_T106 x123005 x4).f0) ((rd_T106 x123005 x4).f1) ((rd_T106 x123005 x4).f2) ((rd_T106 x123005 x4).f3) ((rd_T106 x123005 x4).f4)).bind fun t127 => (steepleref25_Check.l0 k (wrap64 (x3 + t127)) (wrap64 (x4 + 1)) x123000 x123001 x123002 x123003 x123004 x123005)) else (some t125))) else (none)) else (some 0)
end
def steepleref25_Check.f (k : Nat) (a0_0 : Int) (a0_1 : Int) (a0_2 : Int) (a0_3 : Int) (a0_4 : Int) (l0_5 : List (S106)) : Option (Int) := if a0_0 < 0 then (steepleref25_Check.j0 k true a0_0 a0_1 a0_2 a0_3 a0_4 l0_5) else (if a0_0 > 5 then (steepleref25_Check.j0 k true a0_0 a0_1 a0_2 a0_3 a0_4 l0_5) else (if a0_1 < 0 then (steepleref25_Check.j0 k true a0_0 a0_1 a0_2 a0_3 a0_4 l0_5) else (if a0_1 > 4 then (steepleref25_Check.j0 k true a0_0 a0_1 a0_2 a0_3 a0_4 l0_5) else (if a0_2 < 0 then (steepleref25_Check.j0 k true a0_0 a0_1 a0_2 a0_3 a0_4 l0_5) else (if a0_2 > 6 then (steepleref25_Check.j0 k true a0_0 a0_1 a0_2 a0_3 a0_4 l0_5) else (if a0_3 < 0 then (steepleref25_Check.j0 k true a0_0 a0_1 a0_2 a0_3 a0_4 l0_5) else (steepleref25_Check.j0 k (decide (a0_4 < 0)) a0_0 a0_1 a0_2 a0_3 a0_4 l0_5)))))))
theorem steepleref25_Check.mono_l : ∀ k, (∀ y0 y1 y2 y3 y4 y5 y6, LeO (steepleref25_Check.j0 k y0 y1 y2 y3 y4 y5 y6) (steepleref25_Check.j0 (k + 1) y0 y1 y2 y3 y4 y5 y6)) ∧ (∀ y0 y1 y2 y3 y4 y5 y6, LeO (steepleref25_Check.j1 k y0 y1 y2 y3 y4 y5 y6) (steepleref25_Check.j1 (k + 1) y0 y1 y2 y3 y4 y5 y6)) ∧ (∀ y0 y1 y2 y3 y4 y5 y6 y7, LeO (steepleref25_Check.l0 k y0 y1 y2 y3 y4 y5 y6 y7) (steepleref25_Check.l0 (k + 1) y0 y1 y2 y3 y4 y5 y6 y7))
 | 0 => ⟨fun _ _ _ _ _ _ _ r h => by simp [steepleref25_Check.j0] at h, fun _ _ _ _ _ _ _ r h => by simp [steepleref25_Check.j1] at h, fun _ _ _ _ _ _ _ _ r h => by simp [steepleref25_Check.l0] at h⟩
 | k + 1 => by
  obtain ⟨ih0, ih1, ih2⟩ := steepleref25_Check.mono_l k
  refine ⟨?_, ?_, ?_⟩
  ·intro y0 y1 y2 y3 y4 y5 y6
   unfold steepleref25_Check.j0
   repeat' first
   | (with_reducible exact ih0 _ _ _ _ _ _ _)
   | (with_reducible exact ih1 _ _ _ _ _ _ _)
   | (with_reducible exact ih2 _ _ _ _ _ _ _ _)
   | (with_reducible exact steepleref15_Two.mono _ _)
   | (with_reducible exact steepleref25_System_Gate.mono _ _ _ _ _ _ _ _ _ _ _ _ _)
   | (with_reducible exact LeO.refl _)
   | (with_reducible exact LeO.none _)
   | (with_reducible refine LeO.ite ?_ ?_)
   | (with_reducible refine LeO.bind ?_ (fun _ => ?_))
   | exact ih0 _ _ _ _ _ _ _
   | exact ih1 _ _ _ _ _ _ _
   | exact ih2 _ _ _ _ _ _ _ _
   | exact steepleref15_Two.mono _ _
   | exact steepleref25_System_Gate.mono _ _ _ _ _ _ _ _ _ _ _ _ _
   | exact LeO.none _
   | refine LeO.ite ?_ ?_
   | refine LeO.bind ?_ (fun _ => ?_)
  ·intro y0 y1 y2 y3 y4 y5 y6
   unfold steepleref25_Check.j1
   repeat' first
   | (with_reducible exact ih0 _ _ _ _ _ _ _)
   | (with_reducible exact ih1 _ _ _ _ _ _ _)
   | (with_reducible exact ih2 _ _ _ _ _ _ _ _)
   | (with_reducible exact steepleref15_Two.mono _ _)
   | (with_reducible exact steepleref25_System_Gate.mono _ _ _ _ _ _ _ _ _ _ _ _ _)
   | (with_reducible exact LeO.refl _)
   | (with_reducible exact LeO.none _)
   | (with_reducible refine LeO.ite ?_ ?_)
   | (with_reducible refine LeO.bind ?_ (fun _ => ?_))
   | exact ih0 _ _ _ _ _ _ _
   | exact ih1 _ _ _ _ _ _ _
   | exact ih2 _ _ _ _ _ _ _ _
   | exact steepleref15_Two.mono _ _
   | exact steepleref25_System_Gate.mono _ _ _ _ _ _ _ _ _ _ _ _ _
   | exact LeO.none _
   | refine LeO.ite ?_ ?_
   | refine LeO.bind ?_ (fun _ => ?_)
  ·intro y0 y1 y2 y3 y4 y5 y6 y7
   unfold steepleref25_Check.l0
   repeat' first
   | (with_reducible exact ih0 _ _ _ _ _ _ _)
   | (with_reducible exact ih1 _ _ _ _ _ _ _)
   | (with_reducible exact ih2 _ _ _ _ _ _ _ _)
   | (with_reducible exact steepleref15_Two.mono _ _)
   | (with_reducible exact steepleref25_System_Gate.mono _ _ _ _ _ _ _ _ _ _ _ _ _)
   | (with_reducible exact LeO.refl _)
   | (with_reducible exact LeO.none _)
   | (with_reducible refine LeO.ite ?_ ?_)
   | (with_reducible refine LeO.bind ?_ (fun _ => ?_))
   | exact ih0 _ _ _ _ _ _ _
   | exact ih1 _ _ _ _ _ _ _
   | exact ih2 _ _ _ _ _ _ _ _
   | exact steepleref15_Two.mono _ _
   | exact steepleref25_System_Gate.mono _ _ _ _ _ _ _ _ _ _ _ _ _
   | exact LeO.none _
   | refine LeO.ite ?_ ?_
   | refine LeO.bind ?_ (fun _ => ?_)
theorem steepleref25_Check.mono : ∀ a0 a1 a2 a3 a4 a5 k, LeO (steepleref25_Check.f k a0 a1 a2 a3 a4 a5) (steepleref25_Check.f (k + 1) a0 a1 a2 a3 a4 a5) := by
 intro a0 a1 a2 a3 a4 a5 k
 obtain ⟨ih0, ih1, ih2⟩ := steepleref25_Check.mono_l k
 unfold steepleref25_Check.f
 repeat' first
   | (with_reducible exact ih0 _ _ _ _ _ _ _)
   | (with_reducible exact ih1 _ _ _ _ _ _ _)
   | (with_reducible exact ih2 _ _ _ _ _ _ _ _)
   | (with_reducible exact steepleref15_Two.mono _ _)
   | (with_reducible exact steepleref25_System_Gate.mono _ _ _ _ _ _ _ _ _ _ _ _ _)
   | (with_reducible exact LeO.refl _)
   | (with_reducible exact LeO.none _)
   | (with_reducible refine LeO.ite ?_ ?_)
   | (with_reducible refine LeO.bind ?_ (fun _ => ?_))
   | exact ih0 _ _ _ _ _ _ _
   | exact ih1 _ _ _ _ _ _ _
   | exact ih2 _ _ _ _ _ _ _ _
   | exact steepleref15_Two.mono _ _
   | exact steepleref25_System_Gate.mono _ _ _ _ _ _ _ _ _ _ _ _ _
   | exact LeO.none _
   | refine LeO.ite ?_ ?_
   | refine LeO.bind ?_ (fun _ => ?_)
def steepleref25_Check.T3 : Bool × List (List Nat × List Nat) := (true, [([], []), ([0], [0]), ([1], [1]), ([2], [2]), ([3], [3]), ([4, 3], [3, 4]), ([5, 3], [3, 5]), ([3, 6], [3, 6]), ([7, 3], [7]), ([8], [8]), ([9, 8], [8, 9]), ([8], [8]), ([11, 8], [8, 11]), ([10, 12, 8], [8, 10, 12]), ([8], [8]), ([14, 8], [8, 14]), ([15, 8, 8], [8, 15]), ([13, 16, 8], [8, 13, 16]), ([8, 17], [8, 17])])
def steepleref25_Check.B3 : List Nat := [0, 1, 3, 7, 15, 31, 63, 127, 255, 511, 1023, 511, 2559, 8191, 511, 16895, 49663, 131071, 262143]
theorem steepleref25_Check.tab3 : rtab .any (opsOf Try.f16 3) = steepleref25_Check.T3 := by kernel_rfl
theorem steepleref25_Check.bits3 : waitsOk steepleref25_Check.T3.2 steepleref25_Check.B3 = true := by kernel_rfl
def steepleref25_Check.T11 : Bool × List (List Nat × List Nat) := (true, [([], []), ([], []), ([1], [1]), ([], []), ([2, 3], [2, 3]), ([4], [4]), ([], []), ([0, 5, 6], [0, 5, 6]), ([7, 7, 0, 1, 2, 3, 4, 5, 6, 7], [7])])
def steepleref25_Check.B11 : List Nat := [0, 0, 2, 0, 14, 30, 0, 127, 255]
theorem steepleref25_Check.tab11 : rtab .any (opsOf Try.f16 11) = steepleref25_Check.T11 := by kernel_rfl
theorem steepleref25_Check.bits11 : waitsOk steepleref25_Check.T11.2 steepleref25_Check.B11 = true := by kernel_rfl
set_option maxHeartbeats 8000000 in
set_option maxRecDepth 100000 in
theorem steepleref25_Check.calls (k : Nat) (a0_0 : Int) (a0_1 : Int) (a0_2 : Int) (a0_3 : Int) (a0_4 : Int) (A0_5 : Option Addr) (c0_5 : Nat) (l0_5 : List (S106)) (r : Int) (w : World) (hr0_5 : Kd.C k106 w A0_5 l0_5.length l0_5) (hc0_5 : l0_5.length ≤ c0_5) (h : steepleref25_Check.f k a0_0 a0_1 a0_2 a0_3 a0_4 l0_5 = some r) :
  Calls Try.prog 16 #[.agg #[.int .i64 a0_0, .int .i64 a0_1, .int .i64 a0_2, .int .i64 a0_3, .int .i64 a0_4, .slice A0_5 l0_5.length c0_5]] w fun e w' => e = .returned (.int .i64 r) ∧ Below w.heap.size w w' := by
 have hu28 := Try.underlying28; have hu106 := Try.underlying106; have HR0_5 := Aside0.mk hr0_5; have HC0_5 := Aside0.mk hc0_5; clear hr0_5 hc0_5; have HB := Aside0.mk (Below.refl w.heap.size w)
 have H : (if a0_0 < 0 then (steepleref25_Check.j0 k true a0_0 a0_1 a0_2 a0_3 a0_4 l0_5) else (if a0_0 > 5 then (steepleref25_Check.j0 k true a0_0 a0_1 a0_2 a0_3 a0_4 l0_5) else (if a0_1 < 0 then (steepleref25_Check.j0 k true a0_0 a0_1 a0_2 a0_3 a0_4 l0_5) else (if a0_1 > 4 then (steepleref25_Check.j0 k true a0_0 a0_1 a0_2 a0_3 a0_4 l0_5) else (if a0_2 < 0 then (steepleref25_Check.j0 k true a0_0 a0_1 a0_2 a0_3 a0_4 l0_5) else (if a0_2 > 6 then (steepleref25_Check.j0 k true a0_0 a0_1 a0_2 a0_3 a0_4 l0_5) else (if a0_3 < 0 then (steepleref25_Check.j0 k true a0_0 a0_1 a0_2 a0_3 a0_4 l0_5) else (steepleref25_Check.j0 k (decide (a0_4 < 0)) a0_0 a0_1 a0_2 a0_3 a0_4 l0_5)))))))) = some r := h
 clear h; have HC2 := Aside0.mk H; clear H
 go_enter Try.func16, Try.ntmps16
 go_upto_region 1 with (first | ((with_reducible refine gate_dst (N := 1) rfl ?_); refine box_event ?hg (N := 1) ?hd (cs := #[.int .i64 a0_0, .int .i64 a0_1, .int .i64 a0_2, .int .i64 a0_3, .int .i64 a0_4, .slice A0_5 l0_5.length c0_5]) (t := 28) ?hr ?_; (case hd => rfl); (case hg => rfl); (case hr => first | (go_simp; done) | (go_simp; rfl)); intro gb122 hg w3 hbox hb; have n0_ := Aside0.mk (below_step (blA HB.out) hb); have n1_ := Aside0.mk (hbox); have n2_ := Aside0.mk ((by rw [hg]; exact (below_size (blA HB.out)) : w.heap.size ≤ gb122)); have n3_ := Aside0.mk ((by rw [hg]; exact (below_size (blA HB.out)) : w.heap.size ≤ gb122)); clear HB; have HB := n0_; have BK122 := n1_; have GW122 := n2_; have GE122 := n3_; clear n0_ n1_ n2_ n3_; clear hb hbox hg))
 (try simp only [Act.put, List.setIfInBounds_toArray, List.set_cons_zero, List.set_cons_succ])
 go_cut [43] (fun v43 wc => ∃ (kq : Nat) (x43_1 : Bool), v43 = .bool x43_1 ∧ Aside0 (steepleref25_Check.j0 kq x43_1 a0_0 a0_1 a0_2 a0_3 a0_4 l0_5 = some r) ∧ Aside0 (kq ≤ k) ∧ Aside0 (wc.heap[gb122]? = some (.cells #[.int .i64 a0_0, .int .i64 a0_1, .int .i64 a0_2, .int .i64 a0_3, .int .i64 a0_4, (.slice A0_5 l0_5.length c0_5)] 28 (0, 0))) ∧ Aside0 (Below w.heap.size w wc))
 case first =>
  have H := HC2.out; clear HC2
  by_cases c4 : a0_0 < 0
  ·rw [if_pos c4] at H
   have c4b0 : decide (a0_0 < 0) = true := decide_eq_true c4; clear c4
   (first | rw [c4b0] | (simp only [i64_w, i32_w]; rw [c4b0]) | skip)
   have H' := Aside0.mk H; clear H
   have hcz5 := fun i => blk_cell BK122.out i
   have hfz5 := fun i => blk_frozen BK122.out i
   go_wp2
   go_meet
   case rel => exact ⟨_, (true), eqA, H', ⟨omA⟩, ⟨bkA BK122.out⟩, ⟨blA HB.out⟩⟩
  ·rw [if_neg c4] at H
   have c4b0 : decide (a0_0 < 0) = false := decide_eq_false c4; clear c4
   (first | rw [c4b0] | (simp only [i64_w, i32_w]; rw [c4b0]) | skip)
   by_cases c6 : a0_0 > 5
   ·rw [if_pos c6] at H
    have c6b0 : decide (5 < a0_0) = true := decide_eq_true c6; clear c6; have H' := Aside0.mk H; clear H
    have hcz7 := fun i => blk_cell BK122.out i
    have hfz7 := fun i => blk_frozen BK122.out i
    go_wp2
    go_meet
    case rel => exact ⟨_, (true), eqA, H', ⟨omA⟩, ⟨bkA BK122.out⟩, ⟨blA HB.out⟩⟩
   ·rw [if_neg c6] at H
    have c6b0 : decide (5 < a0_0) = false := decide_eq_false c6; clear c6
    by_cases c8 : a0_1 < 0
    ·rw [if_pos c8] at H
     have c8b0 : decide (a0_1 < 0) = true := decide_eq_true c8; clear c8; have H' := Aside0.mk H; clear H
     have hcz9 := fun i => blk_cell BK122.out i
     have hfz9 := fun i => blk_frozen BK122.out i
     go_wp2
     go_meet
     case rel => exact ⟨_, (true), eqA, H', ⟨omA⟩, ⟨bkA BK122.out⟩, ⟨blA HB.out⟩⟩
    ·rw [if_neg c8] at H
     have c8b0 : decide (a0_1 < 0) = false := decide_eq_false c8; clear c8
     by_cases c10 : a0_1 > 4
     ·rw [if_pos c10] at H
      have c10b0 : decide (4 < a0_1) = true := decide_eq_true c10; clear c10; have H' := Aside0.mk H; clear H
      have hcz11 := fun i => blk_cell BK122.out i
      have hfz11 := fun i => blk_frozen BK122.out i
      go_wp2
      go_meet
      case rel => exact ⟨_, (true), eqA, H', ⟨omA⟩, ⟨bkA BK122.out⟩, ⟨blA HB.out⟩⟩
     ·rw [if_neg c10] at H
      have c10b0 : decide (4 < a0_1) = false := decide_eq_false c10; clear c10
      by_cases c12 : a0_2 < 0
      ·rw [if_pos c12] at H
       have c12b0 : decide (a0_2 < 0) = true := decide_eq_true c12; clear c12; have H' := Aside0.mk H; clear H
       have hcz13 := fun i => blk_cell BK122.out i
       have hfz13 := fun i => blk_frozen BK122.out i
       go_wp2
       go_meet
       case rel => exact ⟨_, (true), eqA, H', ⟨omA⟩, ⟨bkA BK122.out⟩, ⟨blA HB.out⟩⟩
      ·rw [if_neg c12] at H
       have c12b0 : decide (a0_2 < 0) = false := decide_eq_false c12; clear c12
       by_cases c14 : a0_2 > 6
       ·rw [if_pos c14] at H
        have c14b0 : decide (6 < a0_2) = true := decide_eq_true c14; clear c14; have H' := Aside0.mk H; clear H
        have hcz15 := fun i => blk_cell BK122.out i
        have hfz15 := fun i => blk_frozen BK122.out i
        go_wp2
        go_meet
        case rel => exact ⟨_, (true), eqA, H', ⟨omA⟩, ⟨bkA BK122.out⟩, ⟨blA HB.out⟩⟩
       ·rw [if_neg c14] at H
        have c14b0 : decide (6 < a0_2) = false := decide_eq_false c14; clear c14
        by_cases c16 : a0_3 < 0
        ·rw [if_pos c16] at H
         have c16b0 : decide (a0_3 < 0) = true := decide_eq_true c16; clear c16; have H' := Aside0.mk H; clear H
         have hcz17 := fun i => blk_cell BK122.out i
         have hfz17 := fun i => blk_frozen BK122.out i
         go_wp2
         go_meet
         case rel => exact ⟨_, (true), eqA, H', ⟨omA⟩, ⟨bkA BK122.out⟩, ⟨blA HB.out⟩⟩
        ·rw [if_neg c16] at H
         have c16b0 : decide (a0_3 < 0) = false := decide_eq_false c16; clear c16; have H' := Aside0.mk H; clear H
         have hcz18 := fun i => blk_cell BK122.out i
         have hfz18 := fun i => blk_frozen BK122.out i
         go_wp2
         go_meet
         case rel => exact ⟨_, (decide (a0_4 < 0)), eqA, H', ⟨omA⟩, ⟨bkA BK122.out⟩, ⟨blA HB.out⟩⟩
 case rest =>
  clear HC2; (try clear c1); (try clear p2); (try clear c4); (try clear c4b0); (try clear c6); (try clear c6b0); (try clear c8); (try clear c8b0); (try clear c10); (try clear c10b0); (try clear c12); (try clear c12b0); (try clear c14); (try clear c14b0); (try clear c16); (try clear c16b0); (try clear hcz11); (try clear hcz13); (try clear hcz15); (try clear hcz17); (try clear hcz18); (try clear hcz5); (try clear hcz7); (try clear hcz9); (try clear hfz11); (try clear hfz13); (try clear hfz15); (try clear hfz17); (try clear hfz18); (try clear hfz5); (try clear hfz7); (try clear hfz9); obtain ⟨kq, x43_1, rfl, HA, HJ1, BK122, HB⟩ := hcut
  cases kq with
  | zero => exact absurd HA.out (by simp [steepleref25_Check.j0])
  | succ kj1 =>
   have H := HA.out; clear HA
   simp only [steepleref25_Check.j0] at H
   by_cases c19 : x43_1 = true
   ·subst c19
    have H1 : (some 1) = some r := by rw [if_pos rfl] at H; exact H
    clear H; have H := H1; clear H1; obtain rfl := Option.some.inj H
    go_wp2
    go_ret
    exact ⟨by first | rfl | (simp [errW_none, errW_some] <;> rfl) | (simp [*, errW_none, errW_some] <;> rfl), blA HB.out⟩
   ·replace c19 := Bool.eq_false_iff.mpr c19; subst c19
    have H1 : (if a0_3 > 64 then (steepleref25_Check.j1 kj1 true a0_0 a0_1 a0_2 a0_3 a0_4 l0_5) else (if a0_4 > 64 then (steepleref25_Check.j1 kj1 true a0_0 a0_1 a0_2 a0_3 a0_4 l0_5) else ((steepleref15_Two.f kj1 a0_2).bind fun t123 => (steepleref25_Check.j1 kj1 (decide ((wrap64 (a0_3 + a0_4)) > t123)) a0_0 a0_1 a0_2 a0_3 a0_4 l0_5)))) = some r := by rw [if_neg (show ¬ (false = true) by decide)] at H; exact H
    clear H; have H := H1; clear H1; have HC20 := Aside0.mk H; clear H
    go_upto_region 3 with (fail)
    go_cut [62] (fun v62 wc => ∃ (kq : Nat) (x62_19 : Bool), v62 = .bool x62_19 ∧ Aside0 (steepleref25_Check.j1 kq x62_19 a0_0 a0_1 a0_2 a0_3 a0_4 l0_5 = some r) ∧ Aside0 (kq ≤ kj1) ∧ Aside0 (wc.heap[gb122]? = some (.cells #[.int .i64 a0_0, .int .i64 a0_1, .int .i64 a0_2, .int .i64 a0_3, .int .i64 a0_4, (.slice A0_5 l0_5.length c0_5)] 28 (0, 0))) ∧ Aside0 (Below w.heap.size w wc))
    case first =>
     have H := HC20.out; clear HC20
     by_cases c21 : a0_3 > 64
     ·rw [if_pos c21] at H
      have c21b0 : decide (64 < a0_3) = true := decide_eq_true c21; clear c21
      (first | rw [c21b0] | (simp only [i64_w, i32_w]; rw [c21b0]) | skip)
      have H' := Aside0.mk H; clear H
      try go_wp2
      have n0_ := Aside0.mk (blk_drew BK122.out); have n1_ := Aside0.mk (below_drew1 HB.out); clear BK122; clear HB; have BK122 := n0_; have HB := n1_; clear n0_ n1_
      refine start_ (n := 19) (S := fun w' => w'.cell? ⟨gb122, 0, none⟩ = some (.int .i64 a0_0) ∧ w'.cell? ⟨gb122, 1, none⟩ = some (.int .i64 a0_1) ∧ w'.cell? ⟨gb122, 2, none⟩ = some (.int .i64 a0_2) ∧ w'.cell? ⟨gb122, 3, none⟩ = some (.int .i64 a0_3) ∧ w'.cell? ⟨gb122, 4, none⟩ = some (.int .i64 a0_4) ∧ w'.cell? ⟨gb122, 5, none⟩ = some (.slice A0_5 l0_5.length c0_5)) (ds := []) #[false, false, false, false, false, false, false, false, false, false, false, false, false, false, false, false, false, false, false] (by kernel_rfl) rfl rfl ⟨(blk_cell BK122.out 0).trans rfl, (blk_cell BK122.out 1).trans rfl, (blk_cell BK122.out 2).trans rfl, (blk_cell BK122.out 3).trans rfl, (blk_cell BK122.out 4).trans rfl, (blk_cell BK122.out 5).trans rfl⟩ (fun hHeld => ?_); refine with_tabW steepleref25_Check.tab3 steepleref25_Check.bits3 (fun HT_ HW_ => ?_)
      generalize wc.drew = w22 at BK122 HB hHeld ⊢
      refine pureA 0 (some 44) HT_.out ?_
      refine takeA 1 (some 45) rfl HT_.out HW_.out hHeld (Or.inl ⟨by rfl, by rintro w' ⟨s0, s1, s2, s3, s4, s5⟩; go_simp; with_reducible rfl⟩) ?_
      refine pureA 2 (some 46) HT_.out ?_
      refine pureA 3 (some 47) HT_.out ?_
      refine pure_ (i := 4) (N := some 48) (v := undef) (a' := ?_) #[true, true, true, true, true, false, false, false, false, false, false, false, false, false, false, false, false, false, false] rfl rfl (any_of HT_.out (by kernel_rfl)) (fun _ _ _ h => h) (Or.inr ⟨by rfl, rfl⟩) ?_ ?_
      rotate_left
      ·simp only [Act.put, List.setIfInBounds_toArray, List.set_cons_zero, List.set_cons_succ, i64_w, i32_w]
       rfl
      refine pure_ (i := 5) (N := some 49) (v := undef) (a' := ?_) #[true, true, true, true, true, true, false, false, false, false, false, false, false, false, false, false, false, false, false] rfl rfl (any_of HT_.out (by kernel_rfl)) (fun _ _ _ h => h) (Or.inr ⟨by rfl, rfl⟩) ?_ ?_
      rotate_left
      ·simp only [Act.put, List.setIfInBounds_toArray, List.set_cons_zero, List.set_cons_succ, i64_w, i32_w]
       rfl
      refine pure_ (i := 6) (N := some 50) (v := undef) (a' := ?_) #[true, true, true, true, true, true, true, false, false, false, false, false, false, false, false, false, false, false, false] rfl rfl (any_of HT_.out (by kernel_rfl)) (fun _ _ _ h => h) (Or.inr ⟨by rfl, rfl⟩) ?_ ?_
      rotate_left
      ·simp only [Act.put, List.setIfInBounds_toArray, List.set_cons_zero, List.set_cons_succ, i64_w, i32_w]
       rfl
      refine pureA 7 (some 51) HT_.out ?_
      refine pureA 8 (some 52) HT_.out ?_
      refine pure_ (i := 9) (N := some 53) (v := undef) (a' := ?_) #[true, true, true, true, true, true, true, true, true, true, false, false, false, false, false, false, false, false, false] rfl rfl (any_of HT_.out (by kernel_rfl)) (fun _ _ _ h => h) (Or.inr ⟨by rfl, rfl⟩) ?_ ?_
      rotate_left
      ·simp only [Act.put, List.setIfInBounds_toArray, List.set_cons_zero, List.set_cons_succ, i64_w, i32_w]
       rfl
      refine pure_ (i := 10) (N := some 54) (v := undef) (a' := ?_) #[true, true, true, true, true, true, true, true, true, true, true, false, false, false, false, false, false, false, false] rfl rfl (any_of HT_.out (by kernel_rfl)) (fun _ _ _ h => h) (Or.inr ⟨by rfl, rfl⟩) ?_ ?_
      rotate_left
      ·simp only [Act.put, List.setIfInBounds_toArray, List.set_cons_zero, List.set_cons_succ, i64_w, i32_w]
       rfl
      refine pure_ (i := 11) (N := some 55) (v := undef) (a' := ?_) #[true, true, true, true, true, true, true, true, true, true, true, true, false, false, false, false, false, false, false] rfl rfl (any_of HT_.out (by kernel_rfl)) (fun _ _ _ h => h) (Or.inr ⟨by rfl, rfl⟩) ?_ ?_
      rotate_left
      ·simp only [Act.put, List.setIfInBounds_toArray, List.set_cons_zero, List.set_cons_succ, i64_w, i32_w]
       rfl
      refine pure_ (i := 12) (N := some 56) (v := undef) (a' := ?_) #[true, true, true, true, true, true, true, true, true, true, true, true, true, false, false, false, false, false, false] rfl rfl (any_of HT_.out (by kernel_rfl)) (fun _ _ _ h => h) (Or.inr ⟨by rfl, rfl⟩) ?_ ?_
      rotate_left
      ·simp only [Act.put, List.setIfInBounds_toArray, List.set_cons_zero, List.set_cons_succ, i64_w, i32_w]
       rfl
      refine pure_ (i := 13) (N := some 57) (v := undef) (a' := ?_) #[true, true, true, true, true, true, true, true, true, true, true, true, true, true, false, false, false, false, false] rfl rfl (any_of HT_.out (by kernel_rfl)) (fun _ _ _ h => h) (Or.inr ⟨by rfl, rfl⟩) ?_ ?_
      rotate_left
      ·simp only [Act.put, List.setIfInBounds_toArray, List.set_cons_zero, List.set_cons_succ, i64_w, i32_w]
       rfl
      refine pure_ (i := 14) (N := some 58) (v := undef) (a' := ?_) #[true, true, true, true, true, true, true, true, true, true, true, true, true, true, true, false, false, false, false] rfl rfl (any_of HT_.out (by kernel_rfl)) (fun _ _ _ h => h) (Or.inr ⟨by rfl, rfl⟩) ?_ ?_
      rotate_left
      ·simp only [Act.put, List.setIfInBounds_toArray, List.set_cons_zero, List.set_cons_succ, i64_w, i32_w]
       rfl
      refine pure_ (i := 15) (N := some 59) (v := undef) (a' := ?_) #[true, true, true, true, true, true, true, true, true, true, true, true, true, true, true, true, false, false, false] rfl rfl (any_of HT_.out (by kernel_rfl)) (fun _ _ _ h => h) (Or.inr ⟨by rfl, rfl⟩) ?_ ?_
      rotate_left
      ·simp only [Act.put, List.setIfInBounds_toArray, List.set_cons_zero, List.set_cons_succ, i64_w, i32_w]
       rfl
      refine pure_ (i := 16) (N := some 60) (v := undef) (a' := ?_) #[true, true, true, true, true, true, true, true, true, true, true, true, true, true, true, true, true, false, false] rfl rfl (any_of HT_.out (by kernel_rfl)) (fun _ _ _ h => h) (Or.inr ⟨by rfl, rfl⟩) ?_ ?_
      rotate_left
      ·simp only [Act.put, List.setIfInBounds_toArray, List.set_cons_zero, List.set_cons_succ, i64_w, i32_w]
       rfl
      refine pure_ (i := 17) (N := some 61) (v := undef) (a' := ?_) #[true, true, true, true, true, true, true, true, true, true, true, true, true, true, true, true, true, true, false] rfl rfl (any_of HT_.out (by kernel_rfl)) (fun _ _ _ h => h) (Or.inr ⟨by rfl, rfl⟩) ?_ ?_
      rotate_left
      ·simp only [Act.put, List.setIfInBounds_toArray, List.set_cons_zero, List.set_cons_succ, i64_w, i32_w]
       rfl
      refine pureA 18 (some 62) HT_.out ?_
      refine done_ (done_of HT_.out (by kernel_rfl)) ?_
      try go_wp2
      go_meet
      case rel => exact ⟨_, (true), eqA, H', ⟨by have := HJ1.out; first | omega | exact Nat.le_refl _⟩, ⟨bkA BK122.out⟩, ⟨blA HB.out⟩⟩
     ·rw [if_neg c21] at H
      have c21b0 : decide (64 < a0_3) = false := decide_eq_false c21; clear c21
      (first | rw [c21b0] | (simp only [i64_w, i32_w]; rw [c21b0]) | skip)
      by_cases c23 : a0_4 > 64
      ·rw [if_pos c23] at H
       have c23b0 : decide (64 < a0_4) = true := decide_eq_true c23; clear c23; have H' := Aside0.mk H; clear H
       try go_wp2
       have n0_ := Aside0.mk (blk_drew BK122.out); have n1_ := Aside0.mk (below_drew1 HB.out); clear BK122; clear HB; have BK122 := n0_; have HB := n1_; clear n0_ n1_
       refine start_ (n := 19) (S := fun w' => w'.cell? ⟨gb122, 0, none⟩ = some (.int .i64 a0_0) ∧ w'.cell? ⟨gb122, 1, none⟩ = some (.int .i64 a0_1) ∧ w'.cell? ⟨gb122, 2, none⟩ = some (.int .i64 a0_2) ∧ w'.cell? ⟨gb122, 3, none⟩ = some (.int .i64 a0_3) ∧ w'.cell? ⟨gb122, 4, none⟩ = some (.int .i64 a0_4) ∧ w'.cell? ⟨gb122, 5, none⟩ = some (.slice A0_5 l0_5.length c0_5)) (ds := []) #[false, false, false, false, false, false, false, false, false, false, false, false, false, false, false, false, false, false, false] (by kernel_rfl) rfl rfl ⟨(blk_cell BK122.out 0).trans rfl, (blk_cell BK122.out 1).trans rfl, (blk_cell BK122.out 2).trans rfl, (blk_cell BK122.out 3).trans rfl, (blk_cell BK122.out 4).trans rfl, (blk_cell BK122.out 5).trans rfl⟩ (fun hHeld => ?_); refine with_tabW steepleref25_Check.tab3 steepleref25_Check.bits3 (fun HT_ HW_ => ?_)
       generalize wc.drew = w24 at BK122 HB hHeld ⊢
       refine pureA 0 (some 44) HT_.out ?_
       refine takeA 1 (some 45) rfl HT_.out HW_.out hHeld (Or.inl ⟨by rfl, by rintro w' ⟨s0, s1, s2, s3, s4, s5⟩; go_simp; with_reducible rfl⟩) ?_
       refine pureA 2 (some 46) HT_.out ?_
       refine pureA 3 (some 47) HT_.out ?_
       refine pureA 4 (some 48) HT_.out ?_
       refine takeA 5 (some 49) rfl HT_.out HW_.out hHeld (Or.inl ⟨by rfl, by rintro w' ⟨s0, s1, s2, s3, s4, s5⟩; go_simp; with_reducible rfl⟩) ?_
       refine pureA 6 (some 50) HT_.out ?_
       refine pureA 7 (some 51) HT_.out ?_
       refine pureA 8 (some 52) HT_.out ?_
       refine pure_ (i := 9) (N := some 53) (v := undef) (a' := ?_) #[true, true, true, true, true, true, true, true, true, true, false, false, false, false, false, false, false, false, false] rfl rfl (any_of HT_.out (by kernel_rfl)) (fun _ _ _ h => h) (Or.inr ⟨by rfl, rfl⟩) ?_ ?_
       rotate_left
       ·simp only [Act.put, List.setIfInBounds_toArray, List.set_cons_zero, List.set_cons_succ, i64_w, i32_w]
        rfl
       refine pure_ (i := 10) (N := some 54) (v := undef) (a' := ?_) #[true, true, true, true, true, true, true, true, true, true, true, false, false, false, false, false, false, false, false] rfl rfl (any_of HT_.out (by kernel_rfl)) (fun _ _ _ h => h) (Or.inr ⟨by rfl, rfl⟩) ?_ ?_
       rotate_left
       ·simp only [Act.put, List.setIfInBounds_toArray, List.set_cons_zero, List.set_cons_succ, i64_w, i32_w]
        rfl
       refine pure_ (i := 11) (N := some 55) (v := undef) (a' := ?_) #[true, true, true, true, true, true, true, true, true, true, true, true, false, false, false, false, false, false, false] rfl rfl (any_of HT_.out (by kernel_rfl)) (fun _ _ _ h => h) (Or.inr ⟨by rfl, rfl⟩) ?_ ?_
       rotate_left
       ·simp only [Act.put, List.setIfInBounds_toArray, List.set_cons_zero, List.set_cons_succ, i64_w, i32_w]
        rfl
       refine pure_ (i := 12) (N := some 56) (v := undef) (a' := ?_) #[true, true, true, true, true, true, true, true, true, true, true, true, true, false, false, false, false, false, false] rfl rfl (any_of HT_.out (by kernel_rfl)) (fun _ _ _ h => h) (Or.inr ⟨by rfl, rfl⟩) ?_ ?_
       rotate_left
       ·simp only [Act.put, List.setIfInBounds_toArray, List.set_cons_zero, List.set_cons_succ, i64_w, i32_w]
        rfl
       refine pure_ (i := 13) (N := some 57) (v := undef) (a' := ?_) #[true, true, true, true, true, true, true, true, true, true, true, true, true, true, false, false, false, false, false] rfl rfl (any_of HT_.out (by kernel_rfl)) (fun _ _ _ h => h) (Or.inr ⟨by rfl, rfl⟩) ?_ ?_
       rotate_left
       ·simp only [Act.put, List.setIfInBounds_toArray, List.set_cons_zero, List.set_cons_succ, i64_w, i32_w]
        rfl
       refine pure_ (i := 14) (N := some 58) (v := undef) (a' := ?_) #[true, true, true, true, true, true, true, true, true, true, true, true, true, true, true, false, false, false, false] rfl rfl (any_of HT_.out (by kernel_rfl)) (fun _ _ _ h => h) (Or.inr ⟨by rfl, rfl⟩) ?_ ?_
       rotate_left
       ·simp only [Act.put, List.setIfInBounds_toArray, List.set_cons_zero, List.set_cons_succ, i64_w, i32_w]
        rfl
       refine pure_ (i := 15) (N := some 59) (v := undef) (a' := ?_) #[true, true, true, true, true, true, true, true, true, true, true, true, true, true, true, true, false, false, false] rfl rfl (any_of HT_.out (by kernel_rfl)) (fun _ _ _ h => h) (Or.inr ⟨by rfl, rfl⟩) ?_ ?_
       rotate_left
       ·simp only [Act.put, List.setIfInBounds_toArray, List.set_cons_zero, List.set_cons_succ, i64_w, i32_w]
        rfl
       refine pure_ (i := 16) (N := some 60) (v := undef) (a' := ?_) #[true, true, true, true, true, true, true, true, true, true, true, true, true, true, true, true, true, false, false] rfl rfl (any_of HT_.out (by kernel_rfl)) (fun _ _ _ h => h) (Or.inr ⟨by rfl, rfl⟩) ?_ ?_
       rotate_left
       ·simp only [Act.put, List.setIfInBounds_toArray, List.set_cons_zero, List.set_cons_succ, i64_w, i32_w]
        rfl
       refine pure_ (i := 17) (N := some 61) (v := undef) (a' := ?_) #[true, true, true, true, true, true, true, true, true, true, true, true, true, true, true, true, true, true, false] rfl rfl (any_of HT_.out (by kernel_rfl)) (fun _ _ _ h => h) (Or.inr ⟨by rfl, rfl⟩) ?_ ?_
       rotate_left
       ·simp only [Act.put, List.setIfInBounds_toArray, List.set_cons_zero, List.set_cons_succ, i64_w, i32_w]
        rfl
       refine pureA 18 (some 62) HT_.out ?_
       refine done_ (done_of HT_.out (by kernel_rfl)) ?_
       try go_wp2
       go_meet
       case rel => exact ⟨_, (true), eqA, H', ⟨by have := HJ1.out; first | omega | exact Nat.le_refl _⟩, ⟨bkA BK122.out⟩, ⟨blA HB.out⟩⟩
      ·rw [if_neg c23] at H
       have c23b0 : decide (64 < a0_4) = false := decide_eq_false c23; clear c23; replace H := Option.bind_eq_some_iff.mp H; obtain ⟨t123, A250, H⟩ := H; replace H : (steepleref25_Check.j1 kj1 (decide ((wrap64 (a0_3 + a0_4)) > t123)) a0_0 a0_1 a0_2 a0_3 a0_4 l0_5) = some r := H; have A25 := Aside0.mk A250; clear A250; have H' := Aside0.mk H; clear H
       try go_wp2
       have n0_ := Aside0.mk (blk_drew BK122.out); have n1_ := Aside0.mk (below_drew1 HB.out); clear BK122; clear HB; have BK122 := n0_; have HB := n1_; clear n0_ n1_
       refine start_ (n := 19) (S := fun w' => w'.cell? ⟨gb122, 0, none⟩ = some (.int .i64 a0_0) ∧ w'.cell? ⟨gb122, 1, none⟩ = some (.int .i64 a0_1) ∧ w'.cell? ⟨gb122, 2, none⟩ = some (.int .i64 a0_2) ∧ w'.cell? ⟨gb122, 3, none⟩ = some (.int .i64 a0_3) ∧ w'.cell? ⟨gb122, 4, none⟩ = some (.int .i64 a0_4) ∧ w'.cell? ⟨gb122, 5, none⟩ = some (.slice A0_5 l0_5.length c0_5)) (ds := []) #[false, false, false, false, false, false, false, false, false, false, false, false, false, false, false, false, false, false, false] (by kernel_rfl) rfl rfl ⟨(blk_cell BK122.out 0).trans rfl, (blk_cell BK122.out 1).trans rfl, (blk_cell BK122.out 2).trans rfl, (blk_cell BK122.out 3).trans rfl, (blk_cell BK122.out 4).trans rfl, (blk_cell BK122.out 5).trans rfl⟩ (fun hHeld => ?_); refine with_tabW steepleref25_Check.tab3 steepleref25_Check.bits3 (fun HT_ HW_ => ?_)
       generalize wc.drew = w26 at BK122 HB hHeld ⊢
       refine pureA 0 (some 44) HT_.out ?_
       refine takeA 1 (some 45) rfl HT_.out HW_.out hHeld (Or.inl ⟨by rfl, by rintro w' ⟨s0, s1, s2, s3, s4, s5⟩; go_simp; with_reducible rfl⟩) ?_
       refine pureA 2 (some 46) HT_.out ?_
       refine pureA 3 (some 47) HT_.out ?_
       refine pureA 4 (some 48) HT_.out ?_
       refine takeA 5 (some 49) rfl HT_.out HW_.out hHeld (Or.inl ⟨by rfl, by rintro w' ⟨s0, s1, s2, s3, s4, s5⟩; go_simp; with_reducible rfl⟩) ?_
       refine pureA 6 (some 50) HT_.out ?_
       refine pureA 7 (some 51) HT_.out ?_
       refine pureA 8 (some 52) HT_.out ?_
       refine pureA 9 (some 53) HT_.out ?_
       refine pureA 11 (some 55) HT_.out ?_
       refine pureA 14 (some 58) HT_.out ?_
       refine takeA 10 (some 54) rfl HT_.out HW_.out hHeld (Or.inl ⟨by rfl, by rintro w' ⟨s0, s1, s2, s3, s4, s5⟩; go_simp; with_reducible rfl⟩) ?_
       refine takeA 12 (some 56) rfl HT_.out HW_.out hHeld (Or.inl ⟨by rfl, by rintro w' ⟨s0, s1, s2, s3, s4, s5⟩; go_simp; with_reducible rfl⟩) ?_
       refine pureA 13 (some 57) HT_.out ?_
       refine takeA 15 (some 59) rfl HT_.out HW_.out hHeld (Or.inl ⟨by rfl, by rintro w' ⟨s0, s1, s2, s3, s4, s5⟩; go_simp; with_reducible rfl⟩) ?_
       refine one_ (i := 16) (N := some 60) #[true, true, true, true, true, true, true, true, true, true, true, true, true, true, true, true, true, false, false] rfl rfl (one_of HT_.out (by kernel_rfl)) (by decide) (fun K hK => ?_)
       refine goes_ Try.func32 (by kernel_rfl) rfl #[.int .i64 a0_2] (by rfl) rfl rfl gsA ?_
       with_reducible refine (steepleref15_Two.calls kj1 a0_2 t123 _ A25.out).mono ?_
       rintro e w' ⟨rfl, ⟨nd, rfl⟩⟩
       refine ⟨_, rfl, ?_⟩
       refine hK.out _ _ ⟨(blk_cell BK122.out 0).trans rfl, (blk_cell BK122.out 1).trans rfl, (blk_cell BK122.out 2).trans rfl, (blk_cell BK122.out 3).trans rfl, (blk_cell BK122.out 4).trans rfl, (blk_cell BK122.out 5).trans rfl⟩ (fun hHeld => ?_)
       clear hK K
       refine normA ?_
       refine pureA 17 (some 61) HT_.out ?_
       refine pureA 18 (some 62) HT_.out ?_
       refine done_ (done_of HT_.out (by kernel_rfl)) ?_
       try go_wp2
       go_meet
       case rel => exact ⟨_, (decide ((wrap64 (a0_3 + a0_4)) > t123)), eqA, H', ⟨by have := HJ1.out; first | omega | exact Nat.le_refl _⟩, ⟨bkA BK122.out⟩, ⟨blA HB.out⟩⟩
    case rest =>
     clear HC20; (try clear c1); (try clear c2); (try clear p2); (try clear c3); (try clear c4); (try clear c4b0); (try clear c6); (try clear c6b0); (try clear p6); (try clear c8); (try clear c8b0); (try clear c10); (try clear c10b0); (try clear c12); (try clear c12b0); (try clear c14); (try clear c14b0); (try clear c16); (try clear c16b0); (try clear c19); (try clear c21); (try clear c21b0); (try clear c23); (try clear c23b0); (try clear hcz11); (try clear hcz13); (try clear hcz15); (try clear hcz17); (try clear hcz18); (try clear hcz5); (try clear hcz7); (try clear hcz9); (try clear hfz11); (try clear hfz13); (try clear hfz15); (try clear hfz17); (try clear hfz18); (try clear hfz5); (try clear hfz7); (try clear hfz9); (try clear p2); obtain ⟨kq, x62_19, rfl, HA, HJ19, BK122, HB⟩ := hcut
     cases kq with
     | zero => exact absurd HA.out (by simp [steepleref25_Check.j1])
     | succ kj19 =>
      have H := HA.out; clear HA
      simp only [steepleref25_Check.j1] at H
      by_cases c27 : x62_19 = true
      ·subst c27
       have H1 : (some 1) = some r := by rw [if_pos rfl] at H; exact H
       clear H; have H := H1; clear H1; obtain rfl := Option.some.inj H
       go_wp2
       go_ret
       exact ⟨by first | rfl | (simp [errW_none, errW_some] <;> rfl) | (simp [*, errW_none, errW_some] <;> rfl), blA HB.out⟩
      ·replace c27 := Bool.eq_false_iff.mpr c27; subst c27
       have H1 : (if (l0_5.length : Int) > 30 then (some 2) else (steepleref25_Check.l0 kj19 (wrap64 (a0_3 + a0_4)) 0 a0_0 a0_1 a0_2 a0_3 a0_4 l0_5)) = some r := by rw [if_neg (show ¬ (false = true) by decide)] at H; exact H
       clear H; have H := H1; clear H1
       by_cases c28 : (l0_5.length : Int) > 30
       ·rw [if_pos c28] at H
        have c28b0 : decide (30 < (l0_5.length : Int)) = true := decide_eq_true c28
        have c28b1 : decide (30 < l0_5.length) = true := decide_eq_true (by omega)
        clear c28; obtain rfl := Option.some.inj H
        have hcz29 := fun i => blk_cell BK122.out i
        have hfz29 := fun i => blk_frozen BK122.out i
        go_wp2
        go_ret
        exact ⟨by first | rfl | (simp [errW_none, errW_some] <;> rfl) | (simp [*, errW_none, errW_some] <;> rfl), blA HB.out⟩
       ·rw [if_neg c28] at H
        have c28b0 : decide (30 < (l0_5.length : Int)) = false := decide_eq_false c28
        have c28b1 : decide (30 < l0_5.length) = false := decide_eq_false (by omega)
        clear c28; have H' := Aside0.mk H; clear H
        have hcz30 := fun i => blk_cell BK122.out i
        have hfz30 := fun i => blk_frozen BK122.out i
        go_wp2
        go_loopg [3, 4] kj19 (fun kq v3 v4 w' => ∃ (x3_3 : Int) (x4_3 : Int), v3 = .int .i64 x3_3 ∧ v4 = .int .i64 x4_3 ∧ Aside0 (steepleref25_Check.l0 kq x3_3 x4_3 a0_0 a0_1 a0_2 a0_3 a0_4 l0_5 = some r) ∧ Aside0 (kq ≤ kj19) ∧ Aside0 (w'.heap[gb122]? = some (.cells #[.int .i64 a0_0, .int .i64 a0_1, .int .i64 a0_2, .int .i64 a0_3, .int .i64 a0_4, (.slice A0_5 l0_5.length c0_5)] 28 (0, 0))) ∧ Aside0 (Below w.heap.size w w'))
        case atStart => exact ⟨(wrap64 (a0_3 + a0_4)), (0), eqA, eqA, H', ⟨Nat.le_refl _⟩, ⟨bkA BK122.out⟩, ⟨blA HB.out⟩⟩
        case round =>
         clear H'; (try clear c1); (try clear c2); (try clear p2); (try clear c3); (try clear c4); (try clear c4b0); (try clear c6); (try clear c6b0); (try clear p6); (try clear c8); (try clear c8b0); (try clear c10); (try clear c10b0); (try clear c12); (try clear c12b0); (try clear c14); (try clear c14b0); (try clear c16); (try clear c16b0); (try clear c19); (try clear c21); (try clear c21b0); (try clear c23); (try clear c23b0); (try clear c27); (try clear c28); (try clear c28b0); (try clear c28b1); (try clear hcz11); (try clear hcz13); (try clear hcz15); (try clear hcz17); (try clear hcz18); (try clear hcz29); (try clear hcz30); (try clear hcz5); (try clear hcz7); (try clear hcz9); (try clear hfz11); (try clear hfz13); (try clear hfz15); (try clear hfz17); (try clear hfz18); (try clear hfz29); (try clear hfz30); (try clear hfz5); (try clear hfz7); (try clear hfz9); (try clear p2); (try clear p6); obtain ⟨x3_3, x4_3, rfl, rfl, HA, HK3, BK122, HB⟩ := hrel
         cases gk with
         | zero => exact absurd HA.out (by simp [steepleref25_Check.l0])
         | succ k3 =>
          have H := HA.out; clear HA
          simp only [steepleref25_Check.l0] at H
          by_cases c31 : x4_3 < (l0_5.length : Int)
          ·rw [if_pos c31] at H
           have c31b0 : decide (x4_3 < (l0_5.length : Int)) = true := decide_eq_true c31; clear c31
           by_cases c32 : 0 ≤ x4_3
           ·rw [if_pos c32] at H
            have c32b0 : decide (0 ≤ x4_3) = true := decide_eq_true c32; clear c32; replace H := Option.bind_eq_some_iff.mp H; obtain ⟨t125, A330, H⟩ := H
            (try dsimp only at H)
            have A33 := Aside0.mk A330; clear A330
            by_cases c34 : t125 = 0
            ·rw [if_pos c34] at H
             have c34b0 : (t125 == 0) = true := beq_iff_eq.mpr c34; have c34b1 : (t125 != 0) = false := bne_eq_false_iff_eq.mpr c34; clear c34; replace H := Option.bind_eq_some_iff.mp H; obtain ⟨t127, A350, H⟩ := H; replace H : (steepleref25_Check.l0 k3 (wrap64 (x3_3 + t127)) (wrap64 (x4_3 + 1)) a0_0 a0_1 a0_2 a0_3 a0_4 l0_5) = some r := H; have A35 := Aside0.mk A350; clear A350; have H' := Aside0.mk H; clear H
             have hcz36 := fun i => blk_cell BK122.out i
             have hfz36 := fun i => blk_frozen BK122.out i
             try go_wp2
             have n0_ := Aside0.mk (blk_drew BK122.out); have n1_ := Aside0.mk (below_drew1 HB.out); clear BK122; clear HB; have BK122 := n0_; have HB := n1_; clear n0_ n1_
             have p124 : 0 ≤ (x4_3 : Int) := of_decide_eq_true (by first | (with_reducible assumption) | assumption)
             have q124 : x4_3 < (l0_5.length : Int) := of_decide_eq_true (by first | (with_reducible assumption) | assumption)
             obtain ⟨ad124, e124, hx124_0, hx124_1, hx124_2, hx124_3, hx124_4⟩ := at_T106 HR0_5.out x4_3 p124 q124; have hw124_4 := hx124_4; have hw124_3 := hx124_3; have hw124_2 := hx124_2; have hw124_1 := hx124_1; have hw124_0 := hx124_0
             cases e124
             replace hx124_0 := (HB.out.cell (World.block_lt_of_cell? w _ hx124_0)).trans hx124_0; replace hx124_1 := (HB.out.cell (World.block_lt_of_cell? w _ hx124_1)).trans hx124_1; replace hx124_2 := (HB.out.cell (World.block_lt_of_cell? w _ hx124_2)).trans hx124_2; replace hx124_3 := (HB.out.cell (World.block_lt_of_cell? w _ hx124_3)).trans hx124_3; replace hx124_4 := (HB.out.cell (World.block_lt_of_cell? w _ hx124_4)).trans hx124_4; replace p124 := eq_true p124; replace q124 := eq_true q124
             refine start_ (n := 9) (S := fun w' => w'.cell? ⟨gb122, 0, none⟩ = some (.int .i64 a0_0) ∧ w'.cell? ⟨gb122, 1, none⟩ = some (.int .i64 a0_1) ∧ w'.cell? ⟨gb122, 2, none⟩ = some (.int .i64 a0_2) ∧ w'.cell? ⟨gb122, 3, none⟩ = some (.int .i64 a0_3) ∧ w'.cell? ⟨gb122, 4, none⟩ = some (.int .i64 a0_4) ∧ w'.cell? ⟨gb122, 5, none⟩ = some (.slice (some ad124) l0_5.length c0_5) ∧ w'.cell? (ad124.add ((x4_3).toNat * 5)) = some (.int .i64 ((rd_T106 l0_5 x4_3).f0)) ∧ w'.cell? ⟨(ad124.add ((x4_3).toNat * 5)).block, (ad124.add ((x4_3).toNat * 5)).off + 1, none⟩ = some (.int .i64 ((rd_T106 l0_5 x4_3).f1)) ∧ w'.cell? ⟨(ad124.add ((x4_3).toNat * 5)).block, (ad124.add ((x4_3).toNat * 5)).off + 2, none⟩ = some (.int .i64 ((rd_T106 l0_5 x4_3).f2)) ∧ w'.cell? ⟨(ad124.add ((x4_3).toNat * 5)).block, (ad124.add ((x4_3).toNat * 5)).off + 3, none⟩ = some (.int .i64 ((rd_T106 l0_5 x4_3).f3)) ∧ w'.cell? ⟨(ad124.add ((x4_3).toNat * 5)).block, (ad124.add ((x4_3).toNat * 5)).off + 4, none⟩ = some (.int .i64 ((rd_T106 l0_5 x4_3).f4))) (ds := []) #[false, false, false, false, false, false, false, false, false] (by kernel_rfl) rfl rfl ⟨(blk_cell BK122.out 0).trans rfl, (blk_cell BK122.out 1).trans rfl, (blk_cell BK122.out 2).trans rfl, (blk_cell BK122.out 3).trans rfl, (blk_cell BK122.out 4).trans rfl, (blk_cell BK122.out 5).trans rfl, (clA HB.out hw124_0), (clA HB.out hw124_1), (clA HB.out hw124_2), (clA HB.out hw124_3), (clA HB.out hw124_4)⟩ (fun hHeld => ?_); refine with_tabW steepleref25_Check.tab11 steepleref25_Check.bits11 (fun HT_ HW_ => ?_)
             generalize wr.drew = w37 at BK122 HB hx124_0 hx124_1 hx124_2 hx124_3 hx124_4 hHeld ⊢
             refine pureA 1 (some 80) HT_.out ?_
             refine pureA 3 (some 82) HT_.out ?_
             refine pureA 6 (some 85) HT_.out ?_
             refine takeA 0 (some 79) rfl HT_.out HW_.out hHeld (Or.inl ⟨by rfl, by rintro w' ⟨s0, s1, s2, s3, s4, s5, s6, s7, s8, s9, s10⟩; go_simp; with_reducible rfl⟩) ?_
             refine takeA 2 (some 81) rfl HT_.out HW_.out hHeld (Or.inl ⟨by rfl, by rintro w' ⟨s0, s1, s2, s3, s4, s5, s6, s7, s8, s9, s10⟩; go_simp; with_reducible rfl⟩) ?_
             refine pureA 4 (some 83) HT_.out ?_
             refine takeA 5 (some 84) rfl HT_.out HW_.out hHeld (Or.inl ⟨by rfl, by rintro w' ⟨s0, s1, s2, s3, s4, s5, s6, s7, s8, s9, s10⟩; go_simp; with_reducible rfl⟩) ?_
             refine one_ (i := 7) (N := some 86) #[true, true, true, true, true, true, true, true, false] rfl rfl (one_of HT_.out (by kernel_rfl)) (by decide) (fun K hK => ?_)
             refine goes_ Try.func59 (by kernel_rfl) rfl #[.agg #[.int .i64 a0_0, .int .i64 a0_1, .int .i64 a0_2, .int .i64 a0_3, .int .i64 a0_4, .slice (some ad124) l0_5.length c0_5], .agg #[.int .i64 ((rd_T106 l0_5 x4_3).f0), .int .i64 ((rd_T106 l0_5 x4_3).f1), .int .i64 ((rd_T106 l0_5 x4_3).f2), .int .i64 ((rd_T106 l0_5 x4_3).f3), .int .i64 ((rd_T106 l0_5 x4_3).f4)], .int .i64 x3_3] (by rfl) rfl rfl gsA ?_
             with_reducible refine (steepleref25_System_Gate.calls k3 a0_0 a0_1 a0_2 a0_3 a0_4 _ _ l0_5 ((rd_T106 l0_5 x4_3).f0) ((rd_T106 l0_5 x4_3).f1) ((rd_T106 l0_5 x4_3).f2) ((rd_T106 l0_5 x4_3).f3) ((rd_T106 l0_5 x4_3).f4) x3_3 t125 _ ?side1 ?side2 A33.out).mono ?_
             (case side1 => repeat (first | exact (Kd.C_below HR0_5.out HB.out) | (with_reducible refine Kd.C_alloc ?_ _) | (with_reducible refine Kd.C_drewN ?_ _) | (with_reducible refine Kd.C_drew ?_)))
             (case side2 => exact HC0_5.out)
             rintro e w38 ⟨rfl, hb⟩
             refine ⟨_, rfl, ?_⟩
             have n0_ := Aside0.mk (blk_below (bkA BK122.out) hb); have n1_ := Aside0.mk (below_step (blA HB.out) hb); clear BK122; clear HB; have BK122 := n0_; have HB := n1_; clear n0_ n1_
             (try clear hb)
             refine hK.out _ _ ⟨(blk_cell BK122.out 0).trans rfl, (blk_cell BK122.out 1).trans rfl, (blk_cell BK122.out 2).trans rfl, (blk_cell BK122.out 3).trans rfl, (blk_cell BK122.out 4).trans rfl, (blk_cell BK122.out 5).trans rfl, (clA HB.out hw124_0), (clA HB.out hw124_1), (clA HB.out hw124_2), (clA HB.out hw124_3), (clA HB.out hw124_4)⟩ (fun hHeld => ?_)
             clear hK K
             refine normA ?_
             refine pureA 8 (some 5) HT_.out ?_
             refine done_ (done_of HT_.out (by kernel_rfl)) ?_
             have hcz39 := fun i => blk_cell BK122.out i
             have hfz39 := fun i => blk_frozen BK122.out i
             have p126 : 0 ≤ (x4_3 : Int) := of_decide_eq_true (by first | (with_reducible assumption) | assumption)
             have q126 : x4_3 < (l0_5.length : Int) := of_decide_eq_true (by first | (with_reducible assumption) | assumption)
             obtain ⟨ad126, e126, hx126_0, hx126_1, hx126_2, hx126_3, hx126_4⟩ := at_T106 HR0_5.out x4_3 p126 q126
             obtain rfl : ad124 = ad126 := (by injection e126)
             replace hx126_0 := (HB.out.cell (World.block_lt_of_cell? w _ hx126_0)).trans hx126_0; replace hx126_1 := (HB.out.cell (World.block_lt_of_cell? w _ hx126_1)).trans hx126_1; replace hx126_2 := (HB.out.cell (World.block_lt_of_cell? w _ hx126_2)).trans hx126_2; replace hx126_3 := (HB.out.cell (World.block_lt_of_cell? w _ hx126_3)).trans hx126_3; replace hx126_4 := (HB.out.cell (World.block_lt_of_cell? w _ hx126_4)).trans hx126_4; replace p126 := eq_true p126; replace q126 := eq_true q126
             try go_wp2_with (first | ((with_reducible refine gate_callee (f := 60) rfl ?_); refine goesL_ (some 96) rfl rfl Try.func60 (by kernel_rfl) rfl #[.agg #[.int .i64 ((rd_T106 l0_5 x4_3).f0), .int .i64 ((rd_T106 l0_5 x4_3).f1), .int .i64 ((rd_T106 l0_5 x4_3).f2), .int .i64 ((rd_T106 l0_5 x4_3).f3), .int .i64 ((rd_T106 l0_5 x4_3).f4)]] rfl gsA ?_; (with_reducible refine (steepleref25_Makes.calls ((rd_T106 l0_5 x4_3).f0) ((rd_T106 l0_5 x4_3).f1) ((rd_T106 l0_5 x4_3).f2) ((rd_T106 l0_5 x4_3).f3) ((rd_T106 l0_5 x4_3).f4) t127 _ A35.out).mono ?_); rintro e w40 ⟨rfl, hb⟩; refine ⟨_, rfl, ?_⟩; have n0_ := Aside0.mk (blk_below (bkA BK122.out) hb); have n1_ := Aside0.mk (below_step (blA HB.out) hb); clear BK122; clear HB; have BK122 := n0_; have HB := n1_; clear n0_ n1_; (try clear hb)))
             go_roundg k3
             case measure => have := HJ1.out; have := HJ19.out; have := HK3.out; omega
             case rel => exact ⟨(wrap64 (x3_3 + t127)), (wrap64 (x4_3 + 1)), eqA, eqA, H', ⟨by have := HJ1.out; have := HJ19.out; have := HK3.out; omega⟩, ⟨bkA BK122.out⟩, ⟨blA HB.out⟩⟩
            ·rw [if_neg c34] at H
             have c34b0 : (t125 == 0) = false := beq_eq_false_iff_ne.mpr c34; have c34b1 : (t125 != 0) = true := bne_iff_ne.mpr c34; obtain rfl := Option.some.inj H
             have hcz41 := fun i => blk_cell BK122.out i
             have hfz41 := fun i => blk_frozen BK122.out i
             try go_wp2
             have n0_ := Aside0.mk (blk_drew BK122.out); have n1_ := Aside0.mk (below_drew1 HB.out); clear BK122; clear HB; have BK122 := n0_; have HB := n1_; clear n0_ n1_
             have p124 : 0 ≤ (x4_3 : Int) := of_decide_eq_true (by first | (with_reducible assumption) | assumption)
             have q124 : x4_3 < (l0_5.length : Int) := of_decide_eq_true (by first | (with_reducible assumption) | assumption)
             obtain ⟨ad124, e124, hx124_0, hx124_1, hx124_2, hx124_3, hx124_4⟩ := at_T106 HR0_5.out x4_3 p124 q124; have hw124_4 := hx124_4; have hw124_3 := hx124_3; have hw124_2 := hx124_2; have hw124_1 := hx124_1; have hw124_0 := hx124_0
             cases e124
             replace hx124_0 := (HB.out.cell (World.block_lt_of_cell? w _ hx124_0)).trans hx124_0; replace hx124_1 := (HB.out.cell (World.block_lt_of_cell? w _ hx124_1)).trans hx124_1; replace hx124_2 := (HB.out.cell (World.block_lt_of_cell? w _ hx124_2)).trans hx124_2; replace hx124_3 := (HB.out.cell (World.block_lt_of_cell? w _ hx124_3)).trans hx124_3; replace hx124_4 := (HB.out.cell (World.block_lt_of_cell? w _ hx124_4)).trans hx124_4; replace p124 := eq_true p124; replace q124 := eq_true q124
             refine start_ (n := 9) (S := fun w' => w'.cell? ⟨gb122, 0, none⟩ = some (.int .i64 a0_0) ∧ w'.cell? ⟨gb122, 1, none⟩ = some (.int .i64 a0_1) ∧ w'.cell? ⟨gb122, 2, none⟩ = some (.int .i64 a0_2) ∧ w'.cell? ⟨gb122, 3, none⟩ = some (.int .i64 a0_3) ∧ w'.cell? ⟨gb122, 4, none⟩ = some (.int .i64 a0_4) ∧ w'.cell? ⟨gb122, 5, none⟩ = some (.slice (some ad124) l0_5.length c0_5) ∧ w'.cell? (ad124.add ((x4_3).toNat * 5)) = some (.int .i64 ((rd_T106 l0_5 x4_3).f0)) ∧ w'.cell? ⟨(ad124.add ((x4_3).toNat * 5)).block, (ad124.add ((x4_3).toNat * 5)).off + 1, none⟩ = some (.int .i64 ((rd_T106 l0_5 x4_3).f1)) ∧ w'.cell? ⟨(ad124.add ((x4_3).toNat * 5)).block, (ad124.add ((x4_3).toNat * 5)).off + 2, none⟩ = some (.int .i64 ((rd_T106 l0_5 x4_3).f2)) ∧ w'.cell? ⟨(ad124.add ((x4_3).toNat * 5)).block, (ad124.add ((x4_3).toNat * 5)).off + 3, none⟩ = some (.int .i64 ((rd_T106 l0_5 x4_3).f3)) ∧ w'.cell? ⟨(ad124.add ((x4_3).toNat * 5)).block, (ad124.add ((x4_3).toNat * 5)).off + 4, none⟩ = some (.int .i64 ((rd_T106 l0_5 x4_3).f4))) (ds := []) #[false, false, false, false, false, false, false, false, false] (by kernel_rfl) rfl rfl ⟨(blk_cell BK122.out 0).trans rfl, (blk_cell BK122.out 1).trans rfl, (blk_cell BK122.out 2).trans rfl, (blk_cell BK122.out 3).trans rfl, (blk_cell BK122.out 4).trans rfl, (blk_cell BK122.out 5).trans rfl, (clA HB.out hw124_0), (clA HB.out hw124_1), (clA HB.out hw124_2), (clA HB.out hw124_3), (clA HB.out hw124_4)⟩ (fun hHeld => ?_); refine with_tabW steepleref25_Check.tab11 steepleref25_Check.bits11 (fun HT_ HW_ => ?_)
             generalize wr.drew = w42 at BK122 HB hx124_0 hx124_1 hx124_2 hx124_3 hx124_4 hHeld ⊢
             refine pureA 1 (some 80) HT_.out ?_
             refine pureA 3 (some 82) HT_.out ?_
             refine pureA 6 (some 85) HT_.out ?_
             refine takeA 0 (some 79) rfl HT_.out HW_.out hHeld (Or.inl ⟨by rfl, by rintro w' ⟨s0, s1, s2, s3, s4, s5, s6, s7, s8, s9, s10⟩; go_simp; with_reducible rfl⟩) ?_
             refine takeA 2 (some 81) rfl HT_.out HW_.out hHeld (Or.inl ⟨by rfl, by rintro w' ⟨s0, s1, s2, s3, s4, s5, s6, s7, s8, s9, s10⟩; go_simp; with_reducible rfl⟩) ?_
             refine pureA 4 (some 83) HT_.out ?_
             refine takeA 5 (some 84) rfl HT_.out HW_.out hHeld (Or.inl ⟨by rfl, by rintro w' ⟨s0, s1, s2, s3, s4, s5, s6, s7, s8, s9, s10⟩; go_simp; with_reducible rfl⟩) ?_
             refine one_ (i := 7) (N := some 86) #[true, true, true, true, true, true, true, true, false] rfl rfl (one_of HT_.out (by kernel_rfl)) (by decide) (fun K hK => ?_)
             refine goes_ Try.func59 (by kernel_rfl) rfl #[.agg #[.int .i64 a0_0, .int .i64 a0_1, .int .i64 a0_2, .int .i64 a0_3, .int .i64 a0_4, .slice (some ad124) l0_5.length c0_5], .agg #[.int .i64 ((rd_T106 l0_5 x4_3).f0), .int .i64 ((rd_T106 l0_5 x4_3).f1), .int .i64 ((rd_T106 l0_5 x4_3).f2), .int .i64 ((rd_T106 l0_5 x4_3).f3), .int .i64 ((rd_T106 l0_5 x4_3).f4)], .int .i64 x3_3] (by rfl) rfl rfl gsA ?_
             with_reducible refine (steepleref25_System_Gate.calls k3 a0_0 a0_1 a0_2 a0_3 a0_4 _ _ l0_5 ((rd_T106 l0_5 x4_3).f0) ((rd_T106 l0_5 x4_3).f1) ((rd_T106 l0_5 x4_3).f2) ((rd_T106 l0_5 x4_3).f3) ((rd_T106 l0_5 x4_3).f4) x3_3 t125 _ ?side1 ?side2 A33.out).mono ?_
             (case side1 => repeat (first | exact (Kd.C_below HR0_5.out HB.out) | (with_reducible refine Kd.C_alloc ?_ _) | (with_reducible refine Kd.C_drewN ?_ _) | (with_reducible refine Kd.C_drew ?_)))
             (case side2 => exact HC0_5.out)
             rintro e w43 ⟨rfl, hb⟩
             refine ⟨_, rfl, ?_⟩
             have n0_ := Aside0.mk (blk_below (bkA BK122.out) hb); have n1_ := Aside0.mk (below_step (blA HB.out) hb); clear BK122; clear HB; have BK122 := n0_; have HB := n1_; clear n0_ n1_
             (try clear hb)
             refine hK.out _ _ ⟨(blk_cell BK122.out 0).trans rfl, (blk_cell BK122.out 1).trans rfl, (blk_cell BK122.out 2).trans rfl, (blk_cell BK122.out 3).trans rfl, (blk_cell BK122.out 4).trans rfl, (blk_cell BK122.out 5).trans rfl, (clA HB.out hw124_0), (clA HB.out hw124_1), (clA HB.out hw124_2), (clA HB.out hw124_3), (clA HB.out hw124_4)⟩ (fun hHeld => ?_)
             clear hK K
             refine normA ?_
             refine pureA 8 (some 5) HT_.out ?_
             refine done_ (done_of HT_.out (by kernel_rfl)) ?_
             try go_wp2
             go_ret
             exact ⟨by first | rfl | (simp [errW_none, errW_some] <;> rfl) | (simp [*, errW_none, errW_some] <;> rfl), blA HB.out⟩
           ·rw [if_neg c32] at H
            exact absurd H (by simp)
          ·rw [if_neg c31] at H
           have c31b0 : decide (x4_3 < (l0_5.length : Int)) = false := decide_eq_false c31; clear c31; obtain rfl := Option.some.inj H
           have hcz44 := fun i => blk_cell BK122.out i
           have hfz44 := fun i => blk_frozen BK122.out i
           go_wp2
           go_ret
           exact ⟨by first | rfl | (simp [errW_none, errW_some] <;> rfl) | (simp [*, errW_none, errW_some] <;> rfl), blA HB.out⟩
end Go.Proofs.Ythiiodgpdoljoaa.PLw
namespace Go.Proofs.Ythiiodgpdoljoaa.Bit
open Go.RowKit Go.Proofs.Ythiiodgpdoljoaa.PLw Go.Proofs.YthiiodgpdoljoaaW.PrintWords Go.Proofs.YthiiodgpdoljoaaW.PrintLast
set_option linter.unusedVariables false
set_option linter.unusedSimpArgs false
theorem two_p2 (m : Nat) {n : Int} (h0 : 0 ≤ n) (h6 : n ≤ 6) : steepleref15_Two.f (m + 9) n = some (p2 n) := by
  have : n = 0 ∨ n = 1 ∨ n = 2 ∨ n = 3 ∨ n = 4 ∨ n = 5 ∨ n = 6 := by omega
  rcases this with rfl | rfl | rfl | rfl | rfl | rfl | rfl <;> simp [steepleref15_Two.f, steepleref15_Two.l0, p2, wrap64]
theorem refFits (m : Nat) (kind w s : Int) : steepleref18_Fits.f (m + 9) kind w s = some (fits kind w s) := by
  unfold steepleref18_Fits.f fits
  by_cases h1 : kind < 0
  · simp [h1]; omega
  · by_cases h2 : kind > 3
    · simp [h1, h2]; omega
    · by_cases h3 : w < 0
      · simp [h1, h2, h3]; omega
      · by_cases h4 : w > 6
        · simp [h1, h2, h3, h4]; omega
        · by_cases h5 : s < 0
          · simp [h1, h2, h3, h4, h5]; omega
          · rw [if_neg h1, if_neg h2, if_neg h3, if_neg h4, if_neg h5, two_p2 m (by omega) (by omega)]
            simp only [Option.bind_some]
            grind
def toG (g : S105) : S106 := ⟨g.f0, g.f1, g.f2, g.f3, g.f4⟩
theorem refGate (m : Nat) (wide rows cols pub priv : Int) (l : List S106) (g : S105) (n : Int) (hw : 0 ≤ wide) (hw5 : wide ≤ 5) (hc : 0 ≤ cols) (hc6 : cols ≤ 6) (hn : 0 ≤ n) (hn2 : n ≤ 64) :
    steepleref25_System_Gate.f (m + 20) wide rows cols pub priv l g.f0 g.f1 g.f2 g.f3 g.f4 n = some (gErr wide cols g n) := by
  obtain ⟨f0, f1, f2, f3, f4⟩ := g
  have hb := p2_bound hc hc6
  have e0 : wrap64 n = n := w64 (by omega) (by omega)
  have e1 : wrap64 (n + 1) = n + 1 := w64 (by omega) (by omega)
  have e2 : wrap64 (n + 2) = n + 2 := w64 (by omega) (by omega)
  have g0 : steepleref15_Two.f (m + 15) cols = some (p2 cols) := two_p2 (m + 6) hc hc6
  have g1 : ∀ a b c, steepleref18_Fits.f (m + 17) a b c = some (fits a b c) := refFits (m + 8)
  have v1 : wrap64 1 = 1 := w64 (by omega) (by omega)
  have v2 : wrap64 2 = 2 := w64 (by omega) (by omega)
  have v3 : wrap64 3 = 3 := w64 (by omega) (by omega)
  have hf : f0 < 1 ∨ 8 < f0 ∨ f0 = 1 ∨ f0 = 2 ∨ f0 = 3 ∨ f0 = 4 ∨ f0 = 5 ∨ f0 = 6 ∨ f0 = 7 ∨ f0 = 8 := by omega
  rcases hf with h | h | rfl | rfl | rfl | rfl | rfl | rfl | rfl | rfl
  · simp [steepleref25_System_Gate.f, steepleref25_System_Gate.j0, gErr, h]
  · have a0 : ¬ f0 < 1 := by omega
    simp [steepleref25_System_Gate.f, steepleref25_System_Gate.j0, gErr, h, a0]
  all_goals simp [steepleref25_System_Gate.f, steepleref25_System_Gate.j0, steepleref25_System_Gate.j1, steepleref25_System_Gate.j2, steepleref25_System_Gate.j3, steepleref25_System_Gate.j4, steepleref25_two.f, steepleref25_shifts.f, steepleref25_Makes.f, gErr, g0, g1, e0, e1, e2, v1, v2, v3]
  all_goals clear g0 g1 e0 e1 e2 v1 v2 v3
  all_goals grind
theorem refGate106 (m : Nat) (wide rows cols pub priv : Int) (l : List S106) (g : S105) (n : Int) (hw : 0 ≤ wide) (hw5 : wide ≤ 5) (hc : 0 ≤ cols) (hc6 : cols ≤ 6) (hn : 0 ≤ n) (hn2 : n ≤ 64) :
    steepleref25_System_Gate.f (m + 20) wide rows cols pub priv l (toG g).f0 (toG g).f1 (toG g).f2 (toG g).f3 (toG g).f4 n = some (gErr wide cols g n) := refGate m wide rows cols pub priv l g n hw hw5 hc hc6 hn hn2
theorem refMakes (g : S105) : steepleref25_Makes.f (toG g).f0 (toG g).f1 (toG g).f2 (toG g).f3 (toG g).f4 = some (makes g.f0) := by
  unfold steepleref25_Makes.f makes toG; grind
theorem refLoop (wide rows cols pub priv : Int) (l : List S105) (hw : 0 ≤ wide) (hw5 : wide ≤ 5) (hc : 0 ≤ cols) (hc6 : cols ≤ 6) (hl : l.length ≤ 1000) (d : Nat) : ∀ (k i : Nat) (n : Int), l.length - i = d → i ≤ l.length → d + 30 < k → 0 ≤ n → n ≤ p2 cols →
    steepleref25_Check.l0 k n (i : Int) wide rows cols pub priv (l.map toG) = some (walk wide cols (l.drop i) n).2 := by
  have hb := p2_bound hc hc6
  induction d with
  | zero =>
    intro k i n hd hi hk hn hn2
    obtain ⟨k, rfl⟩ : ∃ m, k = m + 1 := ⟨k - 1, by omega⟩
    simp only [steepleref25_Check.l0, List.length_map]
    rw [if_neg (by omega), List.drop_of_length_le (by omega)]
    rfl
  | succ d ih =>
    intro k i n hd hi hk hn hn2
    obtain ⟨k, rfl⟩ : ∃ m, k = m + 1 := ⟨k - 1, by omega⟩
    obtain ⟨m, hm⟩ : ∃ m, k = m + 20 := ⟨k - 20, by omega⟩
    have hlt : i < l.length := by omega
    have hr : rd_T106 (l.map toG) (i : Int) = toG l[i] := by rw [rd106 _ i (by simpa using hlt)]; simp
    have hG := refGate106 m wide rows cols pub priv (l.map toG) l[i] n hw hw5 hc hc6 hn (by omega)
    rw [← hm] at hG
    simp only [steepleref25_Check.l0, List.length_map]
    rw [if_pos (by omega), if_pos (by omega), hr, hG]
    rw [List.drop_eq_getElem_cons hlt]
    simp only [Option.bind_some, walk, refMakes]
    by_cases he : gErr wide cols l[i] n = 0
    · have h3 := gErr_ok he
      have h4 := makes_nonneg l[i].f0
      simp only [he, if_true]
      rw [w64 (x := n + makes l[i].f0) (by omega) (by omega), w64 (by omega) (by omega)]
      exact ih k (i + 1) _ (by omega) (by omega) (by omega) (by omega) (by omega)
    · simp only [he, if_false]
theorem refCheck (m : Nat) (wide rows cols pub priv : Int) (l : List S105) (hl : l.length ≤ 40) : steepleref25_Check.f (m + 100) wide rows cols pub priv (l.map toG) = some (lookS wide rows cols pub priv l).2 := by
  unfold lookS
  by_cases h1 : wide < 0 ∨ 5 < wide ∨ rows < 0 ∨ 4 < rows ∨ cols < 0 ∨ 6 < cols
  · rw [if_pos h1]
    simp only [steepleref25_Check.f, steepleref25_Check.j0]
    grind
  · rw [if_neg h1]
    have hc : 0 ≤ cols := by omega
    have hc6 : cols ≤ 6 := by omega
    have g0 : steepleref15_Two.f (m + 99) cols = some (p2 cols) := two_p2 (m + 90) hc hc6
    have hb := p2_bound hc hc6
    by_cases hp : pub < 0 ∨ priv < 0
    · rw [if_pos (by omega)]
      simp only [steepleref25_Check.f]
      rw [if_neg (by omega), if_neg (by omega), if_neg (by omega), if_neg (by omega), if_neg (by omega), if_neg (by omega)]
      by_cases a1 : pub < 0
      · rw [if_pos a1]; simp [steepleref25_Check.j0]
      · have a2 : priv < 0 := by omega
        rw [if_neg a1]; simp [steepleref25_Check.j0, a2]
    · have hj : steepleref25_Check.f (m + 100) wide rows cols pub priv (l.map toG) = steepleref25_Check.j0 (m + 100) false wide rows cols pub priv (l.map toG) := by
        simp only [steepleref25_Check.f]
        rw [if_neg (by omega), if_neg (by omega), if_neg (by omega), if_neg (by omega), if_neg (by omega), if_neg (by omega), if_neg (by omega)]
        congr 1
        simp; omega
      rw [hj]
      simp only [steepleref25_Check.j0, g0, Option.bind_some, Bool.false_eq_true, if_false]
      by_cases b1 : pub > 64
      · rw [if_pos b1, if_pos (by omega)]; simp [steepleref25_Check.j1]
      · by_cases b2 : priv > 64
        · rw [if_neg b1, if_pos b2, if_pos (by omega)]; simp [steepleref25_Check.j1]
        · rw [if_neg b1, if_neg b2]
          have e2 : wrap64 (pub + priv) = pub + priv := w64 (by omega) (by omega)
          rw [e2]
          by_cases b3 : pub + priv > p2 cols
          · rw [if_pos (by omega)]; simp [steepleref25_Check.j1, b3]
          · rw [if_neg (by omega)]
            simp only [b3, decide_false, steepleref25_Check.j1, Bool.false_eq_true, if_false, List.length_map, e2]
            by_cases h3 : 30 < l.length
            · rw [if_pos (by omega), if_pos h3]
            · rw [if_neg (by omega), if_neg h3]
              exact refLoop wide rows cols pub priv l (by omega) (by omega) hc hc6 (by omega) l.length _ 0 (pub + priv) (by omega) (by omega) (by omega) (by omega) (by omega)
end Go.Proofs.Ythiiodgpdoljoaa.Bit
namespace Go.Proofs.Ythiiodgpdoljoaa.Bit
open Go.RowKit Go.Proofs.Ythiiodgpdoljoaa.PLw Go.Proofs.YthiiodgpdoljoaaW.PrintWords Go.Proofs.YthiiodgpdoljoaaW.PrintLast
set_option linter.unusedVariables false
set_option linter.unusedSimpArgs false
theorem walk_kinds {wide cols : Int} : ∀ (l : List S105) (n : Int), (walk wide cols l n).2 = 0 → ∀ g ∈ l, 1 ≤ g.f0 ∧ g.f0 ≤ 8
  | [], n, h => by simp
  | g :: gs, n, h => by
    unfold walk at h
    by_cases he : gErr wide cols g n = 0
    · simp only [he, if_true] at h
      have := gErr_ok he
      intro g' hg'
      rcases List.mem_cons.mp hg' with rfl | hg'
      · exact ⟨this.1, this.2.1⟩
      · exact walk_kinds gs _ h g' hg'
    · simp only [he, if_false] at h
theorem walk_le {wide cols : Int} : ∀ (l : List S105) (n : Int), n ≤ p2 cols → (walk wide cols l n).2 = 0 → (walk wide cols l n).1 ≤ p2 cols
  | [], n, h, _ => h
  | g :: gs, n, h, he => by
    unfold walk at he ⊢
    by_cases hg : gErr wide cols g n = 0
    · simp only [hg, if_true] at he ⊢
      exact walk_le gs _ (gErr_ok hg).2.2 he
    · simp only [hg, if_false] at he
end Go.Proofs.Ythiiodgpdoljoaa.Bit
