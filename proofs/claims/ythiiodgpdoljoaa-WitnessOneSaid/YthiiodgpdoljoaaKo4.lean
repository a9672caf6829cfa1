import Derived.Test.YthiiodgpdoljoaaKo2
import Derived.Test.YthiiodgpdoljoaaKo1
import Derived.Test.YthiiodgpdoljoaaKo3
-- Words and walks that the kit's print has laid for this seat, cut down, and our own texts, merged.
namespace Go.Proofs.Ythiiodgpdoljoaa.PLw
open Go.RowKit Go.Proofs.YthiiodgpdoljoaaW.PrintWords Go.Proofs.YthiiodgpdoljoaaW.PrintLast Go.Proofs.YthiiodgpdoljoaaW.PrintMore
attribute [local go_sem] max2_int min2_int max_two min_two max_three min_three max_four min_four   -- for this text's walks alone
set_option linter.unusedVariables false
set_option linter.unusedSimpArgs false
/-! ### circuit_look: function 64 -/
mutual
def circuit_look.j0 : Nat → Bool → Int → Int → Int → Int → Int → List (S105) → Option (Int × Int)
 | 0, _, _, _, _, _, _, _ => none
 | k + 1, x9, x147000, x147001, x147002, x147003, x147004, x147005 => if x9 = true then (some (0, 1)) else (if x147003 < 0 then (circuit_look.j1 k true x147000 x147001 x147002 x147003 x147004 x147005) else (if x147004 < 0 then (circuit_look.j1 k true x147000 x147001 x147002 x147003 x147004 x147005) else (if 0 ≤ x147002 then (if x147003 > (shl .i64 1 x147002) then (circuit_look.j1 k true x147000 x147001 x147002 x147003 x147004 x147005) else (circuit_look.j1 k (decide (x147004 > (wrap64 ((shl .i64 1 x147002) - x147003)))) x147000 x147001 x147002 x147003 x147004 x147005)) else (none))))
def circuit_look.j1 : Nat → Bool → Int → Int → Int → Int → Int → List (S105) → Option (Int × Int)
 | 0, _, _, _, _, _, _, _ => none
 | k + 1, x38, x147000, x147001, x147002, x147003, x147004, x147005 => if x38 = true then (some (0, 1)) else (if (x147005.length : Int) > 30 then (some (0, 2)) else (circuit_look.l0 k (wrap64 (x147003 + x147004)) x147005 (x147005.length : Int) 0 x147000 x147001 x147002 x147003 x147004 x147005))
def circuit_look.l0 : Nat → Int → List (S105) → Int → Int → Int → Int → Int → Int → Int → List (S105) → Option (Int × Int)
 | 0, _, _, _, _, _, _, _, _, _, _ => none
 | k + 1, x4, x77, x78, x79, x147000, x147001, x147002, x147003, x147004, x147005 => if x79 < x78 then (if 0 ≤ x79 then (if x79 < (x77.length : Int) then ((circuit_gate.f k x147000 x147001 x147002 x147003 x147004 x147005 ((rd_T105 x77 x79).f0) ((rd_T105 x77 x79).f1) ((rd_T105 x77 x79).f2) ((rd_T105 x77 x79).f3) ((rd_T105 x77 x79).f4) x4).bind fun bt149 => (if bt149.2 = 0 then (circuit_look.l0 k bt149.1 x77 x78 (wrap64 (x79 + 1)) x147000 x147001 x147002 x147003 x147004 x147005) else (some (0, bt149.2)))) else (none)) else (none)) else (some (x4, 0))
end
def circuit_look.f (k : Nat) (a0_0 : Int) (a0_1 : Int) (a0_2 : Int) (a0_3 : Int) (a0_4 : Int) (l0_5 : List (S105)) : Option (Int × Int) := if a0_0 < 0 then (circuit_look.j0 k true a0_0 a0_1 a0_2 a0_3 a0_4 l0_5) else (if a0_0 > 5 then (circuit_look.j0 k true a0_0 a0_1 a0_2 a0_3 a0_4 l0_5) else (if a0_1 < 0 then (circuit_look.j0 k true a0_0 a0_1 a0_2 a0_3 a0_4 l0_5) else (if a0_1 > 4 then (circuit_look.j0 k true a0_0 a0_1 a0_2 a0_3 a0_4 l0_5) else (if a0_2 < 0 then (circuit_look.j0 k true a0_0 a0_1 a0_2 a0_3 a0_4 l0_5) else (circuit_look.j0 k (decide (a0_2 > 6)) a0_0 a0_1 a0_2 a0_3 a0_4 l0_5)))))
theorem circuit_look.mono_l : ∀ k, (∀ y0 y1 y2 y3 y4 y5 y6, LeO (circuit_look.j0 k y0 y1 y2 y3 y4 y5 y6) (circuit_look.j0 (k + 1) y0 y1 y2 y3 y4 y5 y6)) ∧ (∀ y0 y1 y2 y3 y4 y5 y6, LeO (circuit_look.j1 k y0 y1 y2 y3 y4 y5 y6) (circuit_look.j1 (k + 1) y0 y1 y2 y3 y4 y5 y6)) ∧ (∀ y0 y1 y2 y3 y4 y5 y6 y7 y8 y9, LeO (circuit_look.l0 k y0 y1 y2 y3 y4 y5 y6 y7 y8 y9) (circuit_look.l0 (k + 1) y0 y1 y2 y3 y4 y5 y6 y7 y8 y9))
 | 0 => ⟨fun _ _ _ _ _ _ _ r h => by simp [circuit_look.j0] at h, fun _ _ _ _ _ _ _ r h => by simp [circuit_look.j1] at h, fun _ _ _ _ _ _ _ _ _ _ r h => by simp [circuit_look.l0] at h⟩
 | k + 1 => by
  obtain ⟨ih0, ih1, ih2⟩ := circuit_look.mono_l k
  refine ⟨?_, ?_, ?_⟩
  ·intro y0 y1 y2 y3 y4 y5 y6
   unfold circuit_look.j0
   repeat' first
   | (with_reducible exact ih0 _ _ _ _ _ _ _)
   | (with_reducible exact ih1 _ _ _ _ _ _ _)
   | (with_reducible exact ih2 _ _ _ _ _ _ _ _ _ _)
   | (with_reducible exact circuit_gate.mono _ _ _ _ _ _ _ _ _ _ _ _ _)
   | (with_reducible exact LeO.refl _)
   | (with_reducible exact LeO.none _)
   | (with_reducible refine LeO.ite ?_ ?_)
   | (with_reducible refine LeO.bind ?_ (fun _ => ?_))
   | exact ih0 _ _ _ _ _ _ _
   | exact ih1 _ _ _ _ _ _ _
   | exact ih2 _ _ _ _ _ _ _ _ _ _
   | exact circuit_gate.mono _ _ _ _ _ _ _ _ _ _ _ _ _
   | exact LeO.none _
   | refine LeO.ite ?_ ?_
   | refine LeO.bind ?_ (fun _ => ?_)
  ·intro y0 y1 y2 y3 y4 y5 y6
   unfold circuit_look.j1
   repeat' first
   | (with_reducible exact ih0 _ _ _ _ _ _ _)
   | (with_reducible exact ih1 _ _ _ _ _ _ _)
   | (with_reducible exact ih2 _ _ _ _ _ _ _ _ _ _)
   | (with_reducible exact circuit_gate.mono _ _ _ _ _ _ _ _ _ _ _ _ _)
   | (with_reducible exact LeO.refl _)
   | (with_reducible exact LeO.none _)
   | (with_reducible refine LeO.ite ?_ ?_)
   | (with_reducible refine LeO.bind ?_ (fun _ => ?_))
   | exact ih0 _ _ _ _ _ _ _
   | exact ih1 _ _ _ _ _ _ _
   | exact ih2 _ _ _ _ _ _ _ _ _ _
   | exact circuit_gate.mono _ _ _ _ _ _ _ _ _ _ _ _ _
   | exact LeO.none _
   | refine LeO.ite ?_ ?_
   | refine LeO.bind ?_ (fun _ => ?_)
  ·intro y0 y1 y2 y3 y4 y5 y6 y7 y8 y9
   unfold circuit_look.l0
   repeat' first
   | (with_reducible exact ih0 _ _ _ _ _ _ _)
   | (with_reducible exact ih1 _ _ _ _ _ _ _)
   | (with_reducible exact ih2 _ _ _ _ _ _ _ _ _ _)
   | (with_reducible exact circuit_gate.mono _ _ _ _ _ _ _ _ _ _ _ _ _)
   | (with_reducible exact LeO.refl _)
   | (with_reducible exact LeO.none _)
   | (with_reducible refine LeO.ite ?_ ?_)
   | (with_reducible refine LeO.bind ?_ (fun _ => ?_))
   | exact ih0 _ _ _ _ _ _ _
   | exact ih1 _ _ _ _ _ _ _
   | exact ih2 _ _ _ _ _ _ _ _ _ _
   | exact circuit_gate.mono _ _ _ _ _ _ _ _ _ _ _ _ _
   | exact LeO.none _
   | refine LeO.ite ?_ ?_
   | refine LeO.bind ?_ (fun _ => ?_)
theorem circuit_look.mono : ∀ a0 a1 a2 a3 a4 a5 k, LeO (circuit_look.f k a0 a1 a2 a3 a4 a5) (circuit_look.f (k + 1) a0 a1 a2 a3 a4 a5) := by
 intro a0 a1 a2 a3 a4 a5 k
 obtain ⟨ih0, ih1, ih2⟩ := circuit_look.mono_l k
 unfold circuit_look.f
 repeat' first
   | (with_reducible exact ih0 _ _ _ _ _ _ _)
   | (with_reducible exact ih1 _ _ _ _ _ _ _)
   | (with_reducible exact ih2 _ _ _ _ _ _ _ _ _ _)
   | (with_reducible exact circuit_gate.mono _ _ _ _ _ _ _ _ _ _ _ _ _)
   | (with_reducible exact LeO.refl _)
   | (with_reducible exact LeO.none _)
   | (with_reducible refine LeO.ite ?_ ?_)
   | (with_reducible refine LeO.bind ?_ (fun _ => ?_))
   | exact ih0 _ _ _ _ _ _ _
   | exact ih1 _ _ _ _ _ _ _
   | exact ih2 _ _ _ _ _ _ _ _ _ _
   | exact circuit_gate.mono _ _ _ _ _ _ _ _ _ _ _ _ _
   | exact LeO.none _
   | refine LeO.ite ?_ ?_
   | refine LeO.bind ?_ (fun _ => ?_)
set_option maxHeartbeats 8000000 in
set_option maxRecDepth 100000 in
theorem circuit_look.calls (k : Nat) (a0_0 : Int) (a0_1 : Int) (a0_2 : Int) (a0_3 : Int) (a0_4 : Int) (A0_5 : Option Addr) (c0_5 : Nat) (l0_5 : List (S105)) (r1 : Int) (r2 : Int) (w : World) (hr0_5 : Kd.C k105 w A0_5 l0_5.length l0_5) (hc0_5 : l0_5.length ≤ c0_5) (h : circuit_look.f k a0_0 a0_1 a0_2 a0_3 a0_4 l0_5 = some (r1, r2)) :
  Calls Try.prog 64 #[.agg #[.int .i64 a0_0, .int .i64 a0_1, .int .i64 a0_2, .int .i64 a0_3, .int .i64 a0_4, .slice A0_5 l0_5.length c0_5]] w fun e w' => e = .returned (.tuple #[.int .i64 r1, .int .i64 r2]) ∧ Below w.heap.size w w' := by
 have hu24 := Try.underlying24; have hu105 := Try.underlying105; have HR0_5 := Aside0.mk hr0_5; have HC0_5 := Aside0.mk hc0_5; clear hr0_5 hc0_5; have HB := Aside0.mk (Below.refl w.heap.size w)
 have H : (if a0_0 < 0 then (circuit_look.j0 k true a0_0 a0_1 a0_2 a0_3 a0_4 l0_5) else (if a0_0 > 5 then (circuit_look.j0 k true a0_0 a0_1 a0_2 a0_3 a0_4 l0_5) else (if a0_1 < 0 then (circuit_look.j0 k true a0_0 a0_1 a0_2 a0_3 a0_4 l0_5) else (if a0_1 > 4 then (circuit_look.j0 k true a0_0 a0_1 a0_2 a0_3 a0_4 l0_5) else (if a0_2 < 0 then (circuit_look.j0 k true a0_0 a0_1 a0_2 a0_3 a0_4 l0_5) else (circuit_look.j0 k (decide (a0_2 > 6)) a0_0 a0_1 a0_2 a0_3 a0_4 l0_5)))))) = some (r1, r2) := h
 clear h; have HC2 := Aside0.mk H; clear H
 go_enter Try.func64, Try.ntmps64
 go_upto_region 1 with (first | ((with_reducible refine gate_dst (N := 1) rfl ?_); refine box_event ?hg (N := 1) ?hd (cs := #[.int .i64 a0_0, .int .i64 a0_1, .int .i64 a0_2, .int .i64 a0_3, .int .i64 a0_4, .slice A0_5 l0_5.length c0_5]) (t := 24) ?hr ?_; (case hd => rfl); (case hg => rfl); (case hr => first | (go_simp; done) | (go_simp; rfl)); intro gb146 hg w3 hbox hb; have n0_ := Aside0.mk (below_step (blA HB.out) hb); have n1_ := Aside0.mk (hbox); have n2_ := Aside0.mk ((by rw [hg]; exact (below_size (blA HB.out)) : w.heap.size ≤ gb146)); have n3_ := Aside0.mk ((by rw [hg]; exact (below_size (blA HB.out)) : w.heap.size ≤ gb146)); clear HB; have HB := n0_; have BK146 := n1_; have GW146 := n2_; have GE146 := n3_; clear n0_ n1_ n2_ n3_; clear hb hbox hg))
 repeat (go_quiet (first | ((with_reducible refine gate_dst (N := 1) rfl ?_); refine box_event ?hg (N := 1) ?hd (cs := #[.int .i64 a0_0, .int .i64 a0_1, .int .i64 a0_2, .int .i64 a0_3, .int .i64 a0_4, .slice A0_5 l0_5.length c0_5]) (t := 24) ?hr ?_; (case hd => rfl); (case hg => rfl); (case hr => first | (go_simp; done) | (go_simp; rfl)); intro gb146 hg w3 hbox hb; have n0_ := Aside0.mk (below_step (blA HB.out) hb); have n1_ := Aside0.mk (hbox); have n2_ := Aside0.mk ((by rw [hg]; exact (below_size (blA HB.out)) : w.heap.size ≤ gb146)); have n3_ := Aside0.mk ((by rw [hg]; exact (below_size (blA HB.out)) : w.heap.size ≤ gb146)); clear HB; have HB := n0_; have BK146 := n1_; have GW146 := n2_; have GE146 := n3_; clear n0_ n1_ n2_ n3_; clear hb hbox hg)); go_upto_region 1 with (first | ((with_reducible refine gate_dst (N := 1) rfl ?_); refine box_event ?hg (N := 1) ?hd (cs := #[.int .i64 a0_0, .int .i64 a0_1, .int .i64 a0_2, .int .i64 a0_3, .int .i64 a0_4, .slice A0_5 l0_5.length c0_5]) (t := 24) ?hr ?_; (case hd => rfl); (case hg => rfl); (case hr => first | (go_simp; done) | (go_simp; rfl)); intro gb146 hg w3 hbox hb; have n0_ := Aside0.mk (below_step (blA HB.out) hb); have n1_ := Aside0.mk (hbox); have n2_ := Aside0.mk ((by rw [hg]; exact (below_size (blA HB.out)) : w.heap.size ≤ gb146)); have n3_ := Aside0.mk ((by rw [hg]; exact (below_size (blA HB.out)) : w.heap.size ≤ gb146)); clear HB; have HB := n0_; have BK146 := n1_; have GW146 := n2_; have GE146 := n3_; clear n0_ n1_ n2_ n3_; clear hb hbox hg)))
 (try simp only [Act.put, List.setIfInBounds_toArray, List.set_cons_zero, List.set_cons_succ])
 go_cut [9] (fun v9 wc => ∃ (kq : Nat) (x9_1 : Bool), v9 = .bool x9_1 ∧ Aside0 (circuit_look.j0 kq x9_1 a0_0 a0_1 a0_2 a0_3 a0_4 l0_5 = some (r1, r2)) ∧ Aside0 (kq ≤ k) ∧ Aside0 (wc.heap[gb146]? = some (.cells #[.int .i64 a0_0, .int .i64 a0_1, .int .i64 a0_2, .int .i64 a0_3, .int .i64 a0_4, (.slice A0_5 l0_5.length c0_5)] 24 (0, 0))) ∧ Aside0 (Below w.heap.size w wc))
 case first =>
  have H := HC2.out; clear HC2
  by_cases c4 : a0_0 < 0
  ·rw [if_pos c4] at H
   have c4b0 : decide (a0_0 < 0) = true := decide_eq_true c4; clear c4
   (first | rw [c4b0] | (simp only [i64_w, i32_w]; rw [c4b0]) | skip)
   have H' := Aside0.mk H; clear H
   have hcz5 := fun i => blk_cell BK146.out i
   have hfz5 := fun i => blk_frozen BK146.out i
   go_wp2
   repeat (go_quiet (fail); try go_wp2)
   go_meet
   case rel => exact ⟨_, (true), eqA, H', ⟨omA⟩, ⟨bkA BK146.out⟩, ⟨blA HB.out⟩⟩
  ·rw [if_neg c4] at H
   have c4b0 : decide (a0_0 < 0) = false := decide_eq_false c4; clear c4
   (first | rw [c4b0] | (simp only [i64_w, i32_w]; rw [c4b0]) | skip)
   by_cases c6 : a0_0 > 5
   ·rw [if_pos c6] at H
    have c6b0 : decide (5 < a0_0) = true := decide_eq_true c6; clear c6; have H' := Aside0.mk H; clear H
    have hcz7 := fun i => blk_cell BK146.out i
    have hfz7 := fun i => blk_frozen BK146.out i
    go_wp2
    repeat (go_quiet (fail); try go_wp2)
    go_meet
    case rel => exact ⟨_, (true), eqA, H', ⟨omA⟩, ⟨bkA BK146.out⟩, ⟨blA HB.out⟩⟩
   ·rw [if_neg c6] at H
    have c6b0 : decide (5 < a0_0) = false := decide_eq_false c6; clear c6
    by_cases c8 : a0_1 < 0
    ·rw [if_pos c8] at H
     have c8b0 : decide (a0_1 < 0) = true := decide_eq_true c8; clear c8; have H' := Aside0.mk H; clear H
     have hcz9 := fun i => blk_cell BK146.out i
     have hfz9 := fun i => blk_frozen BK146.out i
     go_wp2
     repeat (go_quiet (fail); try go_wp2)
     go_meet
     case rel => exact ⟨_, (true), eqA, H', ⟨omA⟩, ⟨bkA BK146.out⟩, ⟨blA HB.out⟩⟩
    ·rw [if_neg c8] at H
     have c8b0 : decide (a0_1 < 0) = false := decide_eq_false c8; clear c8
     by_cases c10 : a0_1 > 4
     ·rw [if_pos c10] at H
      have c10b0 : decide (4 < a0_1) = true := decide_eq_true c10; clear c10; have H' := Aside0.mk H; clear H
      have hcz11 := fun i => blk_cell BK146.out i
      have hfz11 := fun i => blk_frozen BK146.out i
      go_wp2
      repeat (go_quiet (fail); try go_wp2)
      go_meet
      case rel => exact ⟨_, (true), eqA, H', ⟨omA⟩, ⟨bkA BK146.out⟩, ⟨blA HB.out⟩⟩
     ·rw [if_neg c10] at H
      have c10b0 : decide (4 < a0_1) = false := decide_eq_false c10; clear c10
      by_cases c12 : a0_2 < 0
      ·rw [if_pos c12] at H
       have c12b0 : decide (a0_2 < 0) = true := decide_eq_true c12; clear c12; have H' := Aside0.mk H; clear H
       have hcz13 := fun i => blk_cell BK146.out i
       have hfz13 := fun i => blk_frozen BK146.out i
       go_wp2
       repeat (go_quiet (fail); try go_wp2)
       go_meet
       case rel => exact ⟨_, (true), eqA, H', ⟨omA⟩, ⟨bkA BK146.out⟩, ⟨blA HB.out⟩⟩
      ·rw [if_neg c12] at H
       have c12b0 : decide (a0_2 < 0) = false := decide_eq_false c12; clear c12; have H' := Aside0.mk H; clear H
       have hcz14 := fun i => blk_cell BK146.out i
       have hfz14 := fun i => blk_frozen BK146.out i
       go_wp2
       repeat (go_quiet (fail); try go_wp2)
       go_meet
       case rel => exact ⟨_, (decide (a0_2 > 6)), eqA, H', ⟨omA⟩, ⟨bkA BK146.out⟩, ⟨blA HB.out⟩⟩
 case rest =>
  clear HC2; (try clear c1); (try clear p2); (try clear c4); (try clear c4b0); (try clear c6); (try clear c6b0); (try clear c8); (try clear c8b0); (try clear c10); (try clear c10b0); (try clear c12); (try clear c12b0); (try clear hcz11); (try clear hcz13); (try clear hcz14); (try clear hcz5); (try clear hcz7); (try clear hcz9); (try clear hfz11); (try clear hfz13); (try clear hfz14); (try clear hfz5); (try clear hfz7); (try clear hfz9); obtain ⟨kq, x9_1, rfl, HA, HJ1, BK146, HB⟩ := hcut
  cases kq with
  | zero => exact absurd HA.out (by simp [circuit_look.j0])
  | succ kj1 =>
   have H := HA.out; clear HA
   simp only [circuit_look.j0] at H
   by_cases c15 : x9_1 = true
   ·subst c15
    have H1 : (some (0, 1)) = some (r1, r2) := by rw [if_pos rfl] at H; exact H
    clear H; have H := H1; clear H1
    simp only [Option.some.injEq, Prod.mk.injEq] at H
    obtain ⟨rfl, rfl⟩ := H
    go_wp2
    repeat (go_quiet (fail); try go_wp2)
    go_ret2
    exact ⟨by first | rfl | (simp [errW_none, errW_some] <;> rfl) | (simp [*, errW_none, errW_some] <;> rfl), blA HB.out⟩
   ·replace c15 := Bool.eq_false_iff.mpr c15; subst c15
    have H1 : (if a0_3 < 0 then (circuit_look.j1 kj1 true a0_0 a0_1 a0_2 a0_3 a0_4 l0_5) else (if a0_4 < 0 then (circuit_look.j1 kj1 true a0_0 a0_1 a0_2 a0_3 a0_4 l0_5) else (if 0 ≤ a0_2 then (if a0_3 > (shl .i64 1 a0_2) then (circuit_look.j1 kj1 true a0_0 a0_1 a0_2 a0_3 a0_4 l0_5) else (circuit_look.j1 kj1 (decide (a0_4 > (wrap64 ((shl .i64 1 a0_2) - a0_3)))) a0_0 a0_1 a0_2 a0_3 a0_4 l0_5)) else (none)))) = some (r1, r2) := by rw [if_neg (show ¬ (false = true) by decide)] at H; exact H
    clear H; have H := H1; clear H1; have HC16 := Aside0.mk H; clear H
    go_upto_region 3 with (fail)
    repeat (go_quiet (fail); go_upto_region 3 with (fail))
    go_cut [38] (fun v38 wc => ∃ (kq : Nat) (x38_15 : Bool), v38 = .bool x38_15 ∧ Aside0 (circuit_look.j1 kq x38_15 a0_0 a0_1 a0_2 a0_3 a0_4 l0_5 = some (r1, r2)) ∧ Aside0 (kq ≤ kj1) ∧ Aside0 (wc.heap[gb146]? = some (.cells #[.int .i64 a0_0, .int .i64 a0_1, .int .i64 a0_2, .int .i64 a0_3, .int .i64 a0_4, (.slice A0_5 l0_5.length c0_5)] 24 (0, 0))) ∧ Aside0 (Below w.heap.size w wc))
    case first =>
     have H := HC16.out; clear HC16
     by_cases c17 : a0_3 < 0
     ·rw [if_pos c17] at H
      have c17b0 : decide (a0_3 < 0) = true := decide_eq_true c17; clear c17
      (first | rw [c17b0] | (simp only [i64_w, i32_w]; rw [c17b0]) | skip)
      have H' := Aside0.mk H; clear H
      have hcz18 := fun i => blk_cell BK146.out i
      have hfz18 := fun i => blk_frozen BK146.out i
      go_wp2
      repeat (go_quiet (fail); try go_wp2)
      go_meet
      case rel => exact ⟨_, (true), eqA, H', ⟨by have := HJ1.out; first | omega | exact Nat.le_refl _⟩, ⟨bkA BK146.out⟩, ⟨blA HB.out⟩⟩
     ·rw [if_neg c17] at H
      have c17b0 : decide (a0_3 < 0) = false := decide_eq_false c17; clear c17
      (first | rw [c17b0] | (simp only [i64_w, i32_w]; rw [c17b0]) | skip)
      by_cases c19 : a0_4 < 0
      ·rw [if_pos c19] at H
       have c19b0 : decide (a0_4 < 0) = true := decide_eq_true c19; clear c19; have H' := Aside0.mk H; clear H
       have hcz20 := fun i => blk_cell BK146.out i
       have hfz20 := fun i => blk_frozen BK146.out i
       go_wp2
       repeat (go_quiet (fail); try go_wp2)
       go_meet
       case rel => exact ⟨_, (true), eqA, H', ⟨by have := HJ1.out; first | omega | exact Nat.le_refl _⟩, ⟨bkA BK146.out⟩, ⟨blA HB.out⟩⟩
      ·rw [if_neg c19] at H
       have c19b0 : decide (a0_4 < 0) = false := decide_eq_false c19; clear c19
       by_cases c21 : 0 ≤ a0_2
       ·rw [if_pos c21] at H
        have c21b0 := eq_true c21; have c21b1 : decide (0 ≤ a0_2) = true := decide_eq_true c21; clear c21
        obtain ⟨ji22, hji22⟩ : ∃ j_ : Int, (shl .i64 1 a0_2) = j_ := ⟨_, rfl⟩
        replace H : (if a0_3 > (ji22) then (circuit_look.j1 kj1 true a0_0 a0_1 a0_2 a0_3 a0_4 l0_5) else (circuit_look.j1 kj1 (decide (a0_4 > (wrap64 ((ji22) - a0_3)))) a0_0 a0_1 a0_2 a0_3 a0_4 l0_5)) = some (r1, r2) := by first | (rw [hji22] at H; exact H) | (simp only [hji22] at H ⊢; exact H)
        have hji22_ : (IntKind.i64.wrap (1 * 2 ^ min a0_2.toNat 64)) = ji22 := hji22; have hji22z : a0_2 ≤ 64 → (IntKind.i64.wrap (1 * 2 ^ a0_2.toNat)) = ji22 := shl_small hji22
        have hji22u : (IntKind.i64.wrap (2 ^ min a0_2.toNat 64)) = ji22 := by have h_ := hji22_; rw [Int.one_mul] at h_; exact h_
        have hji22v : a0_2 ≤ 64 → (IntKind.i64.wrap (2 ^ a0_2.toNat)) = ji22 := fun hle_ => by have h_ := hji22z hle_; rw [Int.one_mul] at h_; exact h_
        have hji22y : (wrap64 (1 * 2 ^ min a0_2.toNat 64)) = ji22 := (i64_w _).symm.trans hji22_
        have hji22x : a0_2 ≤ 64 → (wrap64 (1 * 2 ^ a0_2.toNat)) = ji22 := fun h_ => (i64_w _).symm.trans (hji22z h_)
        by_cases c23 : a0_3 > (ji22)
        ·rw [if_pos c23] at H
         have c23b0 : decide ((ji22) < a0_3) = true := decide_eq_true c23; clear c23; have H' := Aside0.mk H; clear H
         have hcz24 := fun i => blk_cell BK146.out i
         have hfz24 := fun i => blk_frozen BK146.out i
         go_wp2
         repeat (go_quiet (fail); try go_wp2)
         go_meet
         case rel => exact ⟨_, (true), eqA, H', ⟨by have := HJ1.out; first | omega | exact Nat.le_refl _⟩, ⟨bkA BK146.out⟩, ⟨blA HB.out⟩⟩
        ·rw [if_neg c23] at H
         have c23b0 : decide ((ji22) < a0_3) = false := decide_eq_false c23; clear c23
         have c25b0 := eq_true (of_decide_eq_true (by first | (with_reducible assumption) | assumption) : 0 ≤ a0_2)
         have H' := Aside0.mk H; clear H
         have hcz26 := fun i => blk_cell BK146.out i
         have hfz26 := fun i => blk_frozen BK146.out i
         go_wp2
         repeat (go_quiet (fail); try go_wp2)
         go_meet
         case rel => exact ⟨_, (decide (a0_4 > (wrap64 ((ji22) - a0_3)))), (by first | rfl | (simp; done) | (simp only [← hji22] <;> (first | rfl | simp)) | (simp [*]; done)), H', ⟨by have := HJ1.out; first | omega | exact Nat.le_refl _⟩, ⟨bkA BK146.out⟩, ⟨blA HB.out⟩⟩
       ·rw [if_neg c21] at H
        exact absurd H (by simp)
    case rest =>
     clear HC16; (try clear c1); (try clear c2); (try clear p2); (try clear c4); (try clear c4b0); (try clear c6); (try clear c6b0); (try clear p6); (try clear c8); (try clear c8b0); (try clear c10); (try clear c10b0); (try clear c12); (try clear c12b0); (try clear c15); (try clear c17); (try clear c17b0); (try clear c19); (try clear c19b0); (try clear c21); (try clear c21b0); (try clear c21b1); (try clear c23); (try clear c23b0); (try clear c25); (try clear c25b0); (try clear hcz11); (try clear hcz13); (try clear hcz14); (try clear hcz18); (try clear hcz20); (try clear hcz24); (try clear hcz26); (try clear hcz5); (try clear hcz7); (try clear hcz9); (try clear hfz11); (try clear hfz13); (try clear hfz14); (try clear hfz18); (try clear hfz20); (try clear hfz24); (try clear hfz26); (try clear hfz5); (try clear hfz7); (try clear hfz9); (try clear p2); obtain ⟨kq, x38_15, rfl, HA, HJ15, BK146, HB⟩ := hcut
     cases kq with
     | zero => exact absurd HA.out (by simp [circuit_look.j1])
     | succ kj15 =>
      have H := HA.out; clear HA
      simp only [circuit_look.j1] at H
      by_cases c27 : x38_15 = true
      ·subst c27
       have H1 : (some (0, 1)) = some (r1, r2) := by rw [if_pos rfl] at H; exact H
       clear H; have H := H1; clear H1
       simp only [Option.some.injEq, Prod.mk.injEq] at H
       obtain ⟨rfl, rfl⟩ := H
       go_wp2
       repeat (go_quiet (fail); try go_wp2)
       go_ret2
       exact ⟨by first | rfl | (simp [errW_none, errW_some] <;> rfl) | (simp [*, errW_none, errW_some] <;> rfl), blA HB.out⟩
      ·replace c27 := Bool.eq_false_iff.mpr c27; subst c27
       have H1 : (if (l0_5.length : Int) > 30 then (some (0, 2)) else (circuit_look.l0 kj15 (wrap64 (a0_3 + a0_4)) l0_5 (l0_5.length : Int) 0 a0_0 a0_1 a0_2 a0_3 a0_4 l0_5)) = some (r1, r2) := by rw [if_neg (show ¬ (false = true) by decide)] at H; exact H
       clear H; have H := H1; clear H1
       by_cases c28 : (l0_5.length : Int) > 30
       ·rw [if_pos c28] at H
        have c28b0 : decide (30 < (l0_5.length : Int)) = true := decide_eq_true c28
        have c28b1 : decide (30 < l0_5.length) = true := decide_eq_true (by omega)
        clear c28
        simp only [Option.some.injEq, Prod.mk.injEq] at H
        obtain ⟨rfl, rfl⟩ := H
        have hcz29 := fun i => blk_cell BK146.out i
        have hfz29 := fun i => blk_frozen BK146.out i
        go_wp2
        repeat (go_quiet (fail); try go_wp2)
        go_ret2
        exact ⟨by first | rfl | (simp [errW_none, errW_some] <;> rfl) | (simp [*, errW_none, errW_some] <;> rfl), blA HB.out⟩
       ·rw [if_neg c28] at H
        have c28b0 : decide (30 < (l0_5.length : Int)) = false := decide_eq_false c28
        have c28b1 : decide (30 < l0_5.length) = false := decide_eq_false (by omega)
        clear c28; have H' := Aside0.mk H; clear H
        have hcz30 := fun i => blk_cell BK146.out i
        have hfz30 := fun i => blk_frozen BK146.out i
        go_wp2
        repeat (go_quiet (fail); try go_wp2)
        go_loopg [4, 79] kj15 (fun kq v4 v79 w' => ∃ (x4_3 : Int) (x79_3 : Int), v4 = .int .i64 x4_3 ∧ v79 = .int .i64 x79_3 ∧ Aside0 (circuit_look.l0 kq x4_3 l0_5 (l0_5.length : Int) x79_3 a0_0 a0_1 a0_2 a0_3 a0_4 l0_5 = some (r1, r2)) ∧ Aside0 (kq ≤ kj15) ∧ Aside0 (w'.heap[gb146]? = some (.cells #[.int .i64 a0_0, .int .i64 a0_1, .int .i64 a0_2, .int .i64 a0_3, .int .i64 a0_4, (.slice A0_5 l0_5.length c0_5)] 24 (0, 0))) ∧ Aside0 (Below w.heap.size w w'))
        case atStart => exact ⟨(wrap64 (a0_3 + a0_4)), (0), eqA, eqA, H', ⟨Nat.le_refl _⟩, ⟨bkA BK146.out⟩, ⟨blA HB.out⟩⟩
        case round =>
         clear H'; (try clear c1); (try clear c2); (try clear p2); (try clear c4); (try clear c4b0); (try clear c6); (try clear c6b0); (try clear p6); (try clear c8); (try clear c8b0); (try clear c10); (try clear c10b0); (try clear c12); (try clear c12b0); (try clear c15); (try clear c17); (try clear c17b0); (try clear c19); (try clear c19b0); (try clear c21); (try clear c21b0); (try clear c21b1); (try clear c23); (try clear c23b0); (try clear c25); (try clear c25b0); (try clear c27); (try clear c28); (try clear c28b0); (try clear c28b1); (try clear hcz11); (try clear hcz13); (try clear hcz14); (try clear hcz18); (try clear hcz20); (try clear hcz24); (try clear hcz26); (try clear hcz29); (try clear hcz30); (try clear hcz5); (try clear hcz7); (try clear hcz9); (try clear hfz11); (try clear hfz13); (try clear hfz14); (try clear hfz18); (try clear hfz20); (try clear hfz24); (try clear hfz26); (try clear hfz29); (try clear hfz30); (try clear hfz5); (try clear hfz7); (try clear hfz9); (try clear p2); (try clear p6); obtain ⟨x4_3, x79_3, rfl, rfl, HA, HK3, BK146, HB⟩ := hrel
         cases gk with
         | zero => exact absurd HA.out (by simp [circuit_look.l0])
         | succ k3 =>
          have H := HA.out; clear HA
          simp only [circuit_look.l0] at H
          by_cases c31 : x79_3 < (l0_5.length : Int)
          ·rw [if_pos c31] at H
           have c31b0 : decide (x79_3 < (l0_5.length : Int)) = true := decide_eq_true c31; clear c31
           by_cases c32 : 0 ≤ x79_3
           ·rw [if_pos c32] at H
            have c32b0 : decide (0 ≤ x79_3) = true := decide_eq_true c32; clear c32
            by_cases c33 : x79_3 < (l0_5.length : Int)
            ·rw [if_pos c33] at H
             have c33b0 : decide (x79_3 < (l0_5.length : Int)) = true := decide_eq_true c33; clear c33; replace H := Option.bind_eq_some_iff.mp H
             obtain ⟨⟨t149, t150⟩, A340, H⟩ := H
             replace H : (if t150 = 0 then (circuit_look.l0 k3 t149 l0_5 (l0_5.length : Int) (wrap64 (x79_3 + 1)) a0_0 a0_1 a0_2 a0_3 a0_4 l0_5) else (some (0, t150))) = some (r1, r2) := H
             have A34 := Aside0.mk A340; clear A340
             by_cases c35 : t150 = 0
             ·rw [if_pos c35] at H
              have c35b0 : (t150 == 0) = true := beq_iff_eq.mpr c35; have c35b1 : (t150 != 0) = false := bne_eq_false_iff_eq.mpr c35; clear c35; have H' := Aside0.mk H; clear H
              have p147 : 0 ≤ (x79_3 : Int) := of_decide_eq_true (by first | (with_reducible assumption) | assumption)
              have q147 : x79_3 < (l0_5.length : Int) := of_decide_eq_true (by first | (with_reducible assumption) | assumption)
              obtain ⟨ad147, e147, hx147_0, hx147_1, hx147_2, hx147_3, hx147_4⟩ := at_T105 HR0_5.out x79_3 p147 q147
              cases e147
              replace hx147_0 := (HB.out.cell (World.block_lt_of_cell? w _ hx147_0)).trans hx147_0; replace hx147_1 := (HB.out.cell (World.block_lt_of_cell? w _ hx147_1)).trans hx147_1; replace hx147_2 := (HB.out.cell (World.block_lt_of_cell? w _ hx147_2)).trans hx147_2; replace hx147_3 := (HB.out.cell (World.block_lt_of_cell? w _ hx147_3)).trans hx147_3; replace hx147_4 := (HB.out.cell (World.block_lt_of_cell? w _ hx147_4)).trans hx147_4; replace p147 := eq_true p147; replace q147 := eq_true q147
              go_wp2_with (first | ((with_reducible refine gate_dst (N := 6) rfl ?_); refine box_event ?hg (N := 6) ?hd (cs := #[.int .i64 0, .int .i64 0, .int .i64 0, .int .i64 0, .int .i64 0]) (t := 105) ?hr ?_; (case hd => rfl); (case hg => rfl); (case hr => first | (go_simp; done) | (go_simp; rfl)); intro gb148 hg w36 hbox hb; have n0_ := Aside0.mk (blk_below (bkA BK146.out) hb); have n1_ := Aside0.mk (below_step (blA HB.out) hb); have n2_ := Aside0.mk (hbox); have n3_ := Aside0.mk ((by rw [hg]; exact (below_size (blA HB.out)) : w.heap.size ≤ gb148)); have n4_ := Aside0.mk ((by rw [hg]; exact (below_size (blA HB.out)) : w.heap.size ≤ gb148)); have n5_ := Aside0.mk ((by rw [hg]; exact Nat.ne_of_lt (blk_lt (bkA BK146.out)) : gb146 ≠ gb148)); have n6_ := Aside0.mk ((by rw [hg]; exact Nat.ne_of_gt (blk_lt (bkA BK146.out)) : gb148 ≠ gb146)); clear BK146; clear HB; have BK146 := n0_; have HB := n1_; have BK148 := n2_; have GW148 := n3_; have GE148 := n4_; have NB146_148 := n5_; have NB148_146 := n6_; clear n0_ n1_ n2_ n3_ n4_ n5_ n6_; clear hb hbox hg; have hnb37 := NB148_146.out; have hnc37 := NB146_148.out; have hcz38 := fun i => blk_cell BK148.out i; have hfz38 := fun i => blk_frozen BK148.out i; have hcz39 := fun i => blk_cell BK146.out i; have hfz39 := fun i => blk_frozen BK146.out i; ) | (go_at_call 94; (with_reducible refine (circuit_gate.calls k3 a0_0 a0_1 a0_2 a0_3 a0_4 _ _ l0_5 ((rd_T105 l0_5 x79_3).f0) ((rd_T105 l0_5 x79_3).f1) ((rd_T105 l0_5 x79_3).f2) ((rd_T105 l0_5 x79_3).f3) ((rd_T105 l0_5 x79_3).f4) x4_3 t149 t150 _ ?side1 ?side2 A34.out).mono ?_); (case side1 => exact Kd.C_below HR0_5.out (blA HB.out)); (case side2 => exact HC0_5.out); rintro e w40 ⟨rfl, hb⟩; have n0_ := Aside0.mk (blk_below (g := gb146) (o := .cells #[.int .i64 a0_0, .int .i64 a0_1, .int .i64 a0_2, .int .i64 a0_3, .int .i64 a0_4, .slice (some ad147) l0_5.length c0_5] 24 (0, 0)) (by refine bkA ?_; refine blk_far ?_ NB146_148.out _; refine bkA ?_; refine blk_far ?_ NB146_148.out _; refine bkA ?_; refine blk_far ?_ NB146_148.out _; refine bkA ?_; refine blk_far ?_ NB146_148.out _; refine bkA ?_; refine blk_far ?_ NB146_148.out _; refine bkA ?_; exact BK146.out) hb); have n1_ := Aside0.mk (blk_below (g := gb148) (o := .cells #[.int .i64 ((rd_T105 l0_5 x79_3).f0), .int .i64 ((rd_T105 l0_5 x79_3).f1), .int .i64 ((rd_T105 l0_5 x79_3).f2), .int .i64 ((rd_T105 l0_5 x79_3).f3), .int .i64 ((rd_T105 l0_5 x79_3).f4)] 105 (0, 0)) (by refine bkA ?_; refine blk_put (cs := #[.int .i64 ((rd_T105 l0_5 x79_3).f0), .int .i64 ((rd_T105 l0_5 x79_3).f1), .int .i64 ((rd_T105 l0_5 x79_3).f2), .int .i64 ((rd_T105 l0_5 x79_3).f3), .int .i64 0]) ?_ 4 _ rfl; refine bkA ?_; refine blk_put (cs := #[.int .i64 ((rd_T105 l0_5 x79_3).f0), .int .i64 ((rd_T105 l0_5 x79_3).f1), .int .i64 ((rd_T105 l0_5 x79_3).f2), .int .i64 0, .int .i64 0]) ?_ 3 _ rfl; refine bkA ?_; refine blk_put (cs := #[.int .i64 ((rd_T105 l0_5 x79_3).f0), .int .i64 ((rd_T105 l0_5 x79_3).f1), .int .i64 0, .int .i64 0, .int .i64 0]) ?_ 2 _ rfl; refine bkA ?_; refine blk_put (cs := #[.int .i64 ((rd_T105 l0_5 x79_3).f0), .int .i64 0, .int .i64 0, .int .i64 0, .int .i64 0]) ?_ 1 _ rfl; refine bkA ?_; refine blk_put (cs := #[.int .i64 0, .int .i64 0, .int .i64 0, .int .i64 0, .int .i64 0]) ?_ 0 _ rfl; refine bkA ?_; exact BK148.out) hb); have n2_ := Aside0.mk (below_step (blA HB.out) hb); clear BK146; clear BK148; clear HB; have BK146 := n0_; have BK148 := n1_; have HB := n2_; clear n0_ n1_ n2_; (try clear hb)))
              repeat (go_quiet (first | ((with_reducible refine gate_dst (N := 6) rfl ?_); refine box_event ?hg (N := 6) ?hd (cs := #[.int .i64 0, .int .i64 0, .int .i64 0, .int .i64 0, .int .i64 0]) (t := 105) ?hr ?_; (case hd => rfl); (case hg => rfl); (case hr => first | (go_simp; done) | (go_simp; rfl)); intro gb148 hg w36 hbox hb; have n0_ := Aside0.mk (blk_below (bkA BK146.out) hb); have n1_ := Aside0.mk (below_step (blA HB.out) hb); have n2_ := Aside0.mk (hbox); have n3_ := Aside0.mk ((by rw [hg]; exact (below_size (blA HB.out)) : w.heap.size ≤ gb148)); have n4_ := Aside0.mk ((by rw [hg]; exact (below_size (blA HB.out)) : w.heap.size ≤ gb148)); have n5_ := Aside0.mk ((by rw [hg]; exact Nat.ne_of_lt (blk_lt (bkA BK146.out)) : gb146 ≠ gb148)); have n6_ := Aside0.mk ((by rw [hg]; exact Nat.ne_of_gt (blk_lt (bkA BK146.out)) : gb148 ≠ gb146)); clear BK146; clear HB; have BK146 := n0_; have HB := n1_; have BK148 := n2_; have GW148 := n3_; have GE148 := n4_; have NB146_148 := n5_; have NB148_146 := n6_; clear n0_ n1_ n2_ n3_ n4_ n5_ n6_; clear hb hbox hg; have hnb37 := NB148_146.out; have hnc37 := NB146_148.out; have hcz38 := fun i => blk_cell BK148.out i; have hfz38 := fun i => blk_frozen BK148.out i; have hcz39 := fun i => blk_cell BK146.out i; have hfz39 := fun i => blk_frozen BK146.out i; ) | (go_at_call 94; (with_reducible refine (circuit_gate.calls k3 a0_0 a0_1 a0_2 a0_3 a0_4 _ _ l0_5 ((rd_T105 l0_5 x79_3).f0) ((rd_T105 l0_5 x79_3).f1) ((rd_T105 l0_5 x79_3).f2) ((rd_T105 l0_5 x79_3).f3) ((rd_T105 l0_5 x79_3).f4) x4_3 t149 t150 _ ?side1 ?side2 A34.out).mono ?_); (case side1 => exact Kd.C_below HR0_5.out (blA HB.out)); (case side2 => exact HC0_5.out); rintro e w40 ⟨rfl, hb⟩; have n0_ := Aside0.mk (blk_below (g := gb146) (o := .cells #[.int .i64 a0_0, .int .i64 a0_1, .int .i64 a0_2, .int .i64 a0_3, .int .i64 a0_4, .slice (some ad147) l0_5.length c0_5] 24 (0, 0)) (by refine bkA ?_; refine blk_far ?_ NB146_148.out _; refine bkA ?_; refine blk_far ?_ NB146_148.out _; refine bkA ?_; refine blk_far ?_ NB146_148.out _; refine bkA ?_; refine blk_far ?_ NB146_148.out _; refine bkA ?_; refine blk_far ?_ NB146_148.out _; refine bkA ?_; exact BK146.out) hb); have n1_ := Aside0.mk (blk_below (g := gb148) (o := .cells #[.int .i64 ((rd_T105 l0_5 x79_3).f0), .int .i64 ((rd_T105 l0_5 x79_3).f1), .int .i64 ((rd_T105 l0_5 x79_3).f2), .int .i64 ((rd_T105 l0_5 x79_3).f3), .int .i64 ((rd_T105 l0_5 x79_3).f4)] 105 (0, 0)) (by refine bkA ?_; refine blk_put (cs := #[.int .i64 ((rd_T105 l0_5 x79_3).f0), .int .i64 ((rd_T105 l0_5 x79_3).f1), .int .i64 ((rd_T105 l0_5 x79_3).f2), .int .i64 ((rd_T105 l0_5 x79_3).f3), .int .i64 0]) ?_ 4 _ rfl; refine bkA ?_; refine blk_put (cs := #[.int .i64 ((rd_T105 l0_5 x79_3).f0), .int .i64 ((rd_T105 l0_5 x79_3).f1), .int .i64 ((rd_T105 l0_5 x79_3).f2), .int .i64 0, .int .i64 0]) ?_ 3 _ rfl; refine bkA ?_; refine blk_put (cs := #[.int .i64 ((rd_T105 l0_5 x79_3).f0), .int .i64 ((rd_T105 l0_5 x79_3).f1), .int .i64 0, .int .i64 0, .int .i64 0]) ?_ 2 _ rfl; refine bkA ?_; refine blk_put (cs := #[.int .i64 ((rd_T105 l0_5 x79_3).f0), .int .i64 0, .int .i64 0, .int .i64 0, .int .i64 0]) ?_ 1 _ rfl; refine bkA ?_; refine blk_put (cs := #[.int .i64 0, .int .i64 0, .int .i64 0, .int .i64 0, .int .i64 0]) ?_ 0 _ rfl; refine bkA ?_; exact BK148.out) hb); have n2_ := Aside0.mk (below_step (blA HB.out) hb); clear BK146; clear BK148; clear HB; have BK146 := n0_; have BK148 := n1_; have HB := n2_; clear n0_ n1_ n2_; (try clear hb))); try go_wp2_with (first | ((with_reducible refine gate_dst (N := 6) rfl ?_); refine box_event ?hg (N := 6) ?hd (cs := #[.int .i64 0, .int .i64 0, .int .i64 0, .int .i64 0, .int .i64 0]) (t := 105) ?hr ?_; (case hd => rfl); (case hg => rfl); (case hr => first | (go_simp; done) | (go_simp; rfl)); intro gb148 hg w36 hbox hb; have n0_ := Aside0.mk (blk_below (bkA BK146.out) hb); have n1_ := Aside0.mk (below_step (blA HB.out) hb); have n2_ := Aside0.mk (hbox); have n3_ := Aside0.mk ((by rw [hg]; exact (below_size (blA HB.out)) : w.heap.size ≤ gb148)); have n4_ := Aside0.mk ((by rw [hg]; exact (below_size (blA HB.out)) : w.heap.size ≤ gb148)); have n5_ := Aside0.mk ((by rw [hg]; exact Nat.ne_of_lt (blk_lt (bkA BK146.out)) : gb146 ≠ gb148)); have n6_ := Aside0.mk ((by rw [hg]; exact Nat.ne_of_gt (blk_lt (bkA BK146.out)) : gb148 ≠ gb146)); clear BK146; clear HB; have BK146 := n0_; have HB := n1_; have BK148 := n2_; have GW148 := n3_; have GE148 := n4_; have NB146_148 := n5_; have NB148_146 := n6_; clear n0_ n1_ n2_ n3_ n4_ n5_ n6_; clear hb hbox hg; have hnb37 := NB148_146.out; have hnc37 := NB146_148.out; have hcz38 := fun i => blk_cell BK148.out i; have hfz38 := fun i => blk_frozen BK148.out i; have hcz39 := fun i => blk_cell BK146.out i; have hfz39 := fun i => blk_frozen BK146.out i; ) | (go_at_call 94; (with_reducible refine (circuit_gate.calls k3 a0_0 a0_1 a0_2 a0_3 a0_4 _ _ l0_5 ((rd_T105 l0_5 x79_3).f0) ((rd_T105 l0_5 x79_3).f1) ((rd_T105 l0_5 x79_3).f2) ((rd_T105 l0_5 x79_3).f3) ((rd_T105 l0_5 x79_3).f4) x4_3 t149 t150 _ ?side1 ?side2 A34.out).mono ?_); (case side1 => exact Kd.C_below HR0_5.out (blA HB.out)); (case side2 => exact HC0_5.out); rintro e w40 ⟨rfl, hb⟩; have n0_ := Aside0.mk (blk_below (g := gb146) (o := .cells #[.int .i64 a0_0, .int .i64 a0_1, .int .i64 a0_2, .int .i64 a0_3, .int .i64 a0_4, .slice (some ad147) l0_5.length c0_5] 24 (0, 0)) (by refine bkA ?_; refine blk_far ?_ NB146_148.out _; refine bkA ?_; refine blk_far ?_ NB146_148.out _; refine bkA ?_; refine blk_far ?_ NB146_148.out _; refine bkA ?_; refine blk_far ?_ NB146_148.out _; refine bkA ?_; refine blk_far ?_ NB146_148.out _; refine bkA ?_; exact BK146.out) hb); have n1_ := Aside0.mk (blk_below (g := gb148) (o := .cells #[.int .i64 ((rd_T105 l0_5 x79_3).f0), .int .i64 ((rd_T105 l0_5 x79_3).f1), .int .i64 ((rd_T105 l0_5 x79_3).f2), .int .i64 ((rd_T105 l0_5 x79_3).f3), .int .i64 ((rd_T105 l0_5 x79_3).f4)] 105 (0, 0)) (by refine bkA ?_; refine blk_put (cs := #[.int .i64 ((rd_T105 l0_5 x79_3).f0), .int .i64 ((rd_T105 l0_5 x79_3).f1), .int .i64 ((rd_T105 l0_5 x79_3).f2), .int .i64 ((rd_T105 l0_5 x79_3).f3), .int .i64 0]) ?_ 4 _ rfl; refine bkA ?_; refine blk_put (cs := #[.int .i64 ((rd_T105 l0_5 x79_3).f0), .int .i64 ((rd_T105 l0_5 x79_3).f1), .int .i64 ((rd_T105 l0_5 x79_3).f2), .int .i64 0, .int .i64 0]) ?_ 3 _ rfl; refine bkA ?_; refine blk_put (cs := #[.int .i64 ((rd_T105 l0_5 x79_3).f0), .int .i64 ((rd_T105 l0_5 x79_3).f1), .int .i64 0, .int .i64 0, .int .i64 0]) ?_ 2 _ rfl; refine bkA ?_; refine blk_put (cs := #[.int .i64 ((rd_T105 l0_5 x79_3).f0), .int .i64 0, .int .i64 0, .int .i64 0, .int .i64 0]) ?_ 1 _ rfl; refine bkA ?_; refine blk_put (cs := #[.int .i64 0, .int .i64 0, .int .i64 0, .int .i64 0, .int .i64 0]) ?_ 0 _ rfl; refine bkA ?_; exact BK148.out) hb); have n2_ := Aside0.mk (below_step (blA HB.out) hb); clear BK146; clear BK148; clear HB; have BK146 := n0_; have BK148 := n1_; have HB := n2_; clear n0_ n1_ n2_; (try clear hb))))
              go_roundg k3
              case measure => have := HJ1.out; have := HJ15.out; have := HK3.out; omega
              case rel => exact ⟨(t149), (wrap64 (x79_3 + 1)), eqA, eqA, H', ⟨by have := HJ1.out; have := HJ15.out; have := HK3.out; omega⟩, ⟨bkA BK146.out⟩, ⟨blA HB.out⟩⟩
             ·rw [if_neg c35] at H
              have c35b0 : (t150 == 0) = false := beq_eq_false_iff_ne.mpr c35; have c35b1 : (t150 != 0) = true := bne_iff_ne.mpr c35
              simp only [Option.some.injEq, Prod.mk.injEq] at H
              obtain ⟨rfl, rfl⟩ := H
              have p147 : 0 ≤ (x79_3 : Int) := of_decide_eq_true (by first | (with_reducible assumption) | assumption)
              have q147 : x79_3 < (l0_5.length : Int) := of_decide_eq_true (by first | (with_reducible assumption) | assumption)
              obtain ⟨ad147, e147, hx147_0, hx147_1, hx147_2, hx147_3, hx147_4⟩ := at_T105 HR0_5.out x79_3 p147 q147
              cases e147
              replace hx147_0 := (HB.out.cell (World.block_lt_of_cell? w _ hx147_0)).trans hx147_0; replace hx147_1 := (HB.out.cell (World.block_lt_of_cell? w _ hx147_1)).trans hx147_1; replace hx147_2 := (HB.out.cell (World.block_lt_of_cell? w _ hx147_2)).trans hx147_2; replace hx147_3 := (HB.out.cell (World.block_lt_of_cell? w _ hx147_3)).trans hx147_3; replace hx147_4 := (HB.out.cell (World.block_lt_of_cell? w _ hx147_4)).trans hx147_4; replace p147 := eq_true p147; replace q147 := eq_true q147
              go_wp2_with (first | ((with_reducible refine gate_dst (N := 6) rfl ?_); refine box_event ?hg (N := 6) ?hd (cs := #[.int .i64 0, .int .i64 0, .int .i64 0, .int .i64 0, .int .i64 0]) (t := 105) ?hr ?_; (case hd => rfl); (case hg => rfl); (case hr => first | (go_simp; done) | (go_simp; rfl)); intro gb148 hg w41 hbox hb; have n0_ := Aside0.mk (blk_below (bkA BK146.out) hb); have n1_ := Aside0.mk (below_step (blA HB.out) hb); have n2_ := Aside0.mk (hbox); have n3_ := Aside0.mk ((by rw [hg]; exact (below_size (blA HB.out)) : w.heap.size ≤ gb148)); have n4_ := Aside0.mk ((by rw [hg]; exact (below_size (blA HB.out)) : w.heap.size ≤ gb148)); have n5_ := Aside0.mk ((by rw [hg]; exact Nat.ne_of_lt (blk_lt (bkA BK146.out)) : gb146 ≠ gb148)); have n6_ := Aside0.mk ((by rw [hg]; exact Nat.ne_of_gt (blk_lt (bkA BK146.out)) : gb148 ≠ gb146)); clear BK146; clear HB; have BK146 := n0_; have HB := n1_; have BK148 := n2_; have GW148 := n3_; have GE148 := n4_; have NB146_148 := n5_; have NB148_146 := n6_; clear n0_ n1_ n2_ n3_ n4_ n5_ n6_; clear hb hbox hg; have hnb42 := NB148_146.out; have hnc42 := NB146_148.out; have hcz43 := fun i => blk_cell BK148.out i; have hfz43 := fun i => blk_frozen BK148.out i; have hcz44 := fun i => blk_cell BK146.out i; have hfz44 := fun i => blk_frozen BK146.out i; ) | (go_at_call 94; (with_reducible refine (circuit_gate.calls k3 a0_0 a0_1 a0_2 a0_3 a0_4 _ _ l0_5 ((rd_T105 l0_5 x79_3).f0) ((rd_T105 l0_5 x79_3).f1) ((rd_T105 l0_5 x79_3).f2) ((rd_T105 l0_5 x79_3).f3) ((rd_T105 l0_5 x79_3).f4) x4_3 t149 t150 _ ?side1 ?side2 A34.out).mono ?_); (case side1 => exact Kd.C_below HR0_5.out (blA HB.out)); (case side2 => exact HC0_5.out); rintro e w45 ⟨rfl, hb⟩; have n0_ := Aside0.mk (blk_below (g := gb146) (o := .cells #[.int .i64 a0_0, .int .i64 a0_1, .int .i64 a0_2, .int .i64 a0_3, .int .i64 a0_4, .slice (some ad147) l0_5.length c0_5] 24 (0, 0)) (by refine bkA ?_; refine blk_far ?_ NB146_148.out _; refine bkA ?_; refine blk_far ?_ NB146_148.out _; refine bkA ?_; refine blk_far ?_ NB146_148.out _; refine bkA ?_; refine blk_far ?_ NB146_148.out _; refine bkA ?_; refine blk_far ?_ NB146_148.out _; refine bkA ?_; exact BK146.out) hb); have n1_ := Aside0.mk (blk_below (g := gb148) (o := .cells #[.int .i64 ((rd_T105 l0_5 x79_3).f0), .int .i64 ((rd_T105 l0_5 x79_3).f1), .int .i64 ((rd_T105 l0_5 x79_3).f2), .int .i64 ((rd_T105 l0_5 x79_3).f3), .int .i64 ((rd_T105 l0_5 x79_3).f4)] 105 (0, 0)) (by refine bkA ?_; refine blk_put (cs := #[.int .i64 ((rd_T105 l0_5 x79_3).f0), .int .i64 ((rd_T105 l0_5 x79_3).f1), .int .i64 ((rd_T105 l0_5 x79_3).f2), .int .i64 ((rd_T105 l0_5 x79_3).f3), .int .i64 0]) ?_ 4 _ rfl; refine bkA ?_; refine blk_put (cs := #[.int .i64 ((rd_T105 l0_5 x79_3).f0), .int .i64 ((rd_T105 l0_5 x79_3).f1), .int .i64 ((rd_T105 l0_5 x79_3).f2), .int .i64 0, .int .i64 0]) ?_ 3 _ rfl; refine bkA ?_; refine blk_put (cs := #[.int .i64 ((rd_T105 l0_5 x79_3).f0), .int .i64 ((rd_T105 l0_5 x79_3).f1), .int .i64 0, .int .i64 0, .int .i64 0]) ?_ 2 _ rfl; refine bkA ?_; refine blk_put (cs := #[.int .i64 ((rd_T105 l0_5 x79_3).f0), .int .i64 0, .int .i64 0, .int .i64 0, .int .i64 0]) ?_ 1 _ rfl; refine bkA ?_; refine blk_put (cs := #[.int .i64 0, .int .i64 0, .int .i64 0, .int .i64 0, .int .i64 0]) ?_ 0 _ rfl; refine bkA ?_; exact BK148.out) hb); have n2_ := Aside0.mk (below_step (blA HB.out) hb); clear BK146; clear BK148; clear HB; have BK146 := n0_; have BK148 := n1_; have HB := n2_; clear n0_ n1_ n2_; (try clear hb)))
              repeat (go_quiet (first | ((with_reducible refine gate_dst (N := 6) rfl ?_); refine box_event ?hg (N := 6) ?hd (cs := #[.int .i64 0, .int .i64 0, .int .i64 0, .int .i64 0, .int .i64 0]) (t := 105) ?hr ?_; (case hd => rfl); (case hg => rfl); (case hr => first | (go_simp; done) | (go_simp; rfl)); intro gb148 hg w41 hbox hb; have n0_ := Aside0.mk (blk_below (bkA BK146.out) hb); have n1_ := Aside0.mk (below_step (blA HB.out) hb); have n2_ := Aside0.mk (hbox); have n3_ := Aside0.mk ((by rw [hg]; exact (below_size (blA HB.out)) : w.heap.size ≤ gb148)); have n4_ := Aside0.mk ((by rw [hg]; exact (below_size (blA HB.out)) : w.heap.size ≤ gb148)); have n5_ := Aside0.mk ((by rw [hg]; exact Nat.ne_of_lt (blk_lt (bkA BK146.out)) : gb146 ≠ gb148)); have n6_ := Aside0.mk ((by rw [hg]; exact Nat.ne_of_gt (blk_lt (bkA BK146.out)) : gb148 ≠ gb146)); clear BK146; clear HB; have BK146 := n0_; have HB := n1_; have BK148 := n2_; have GW148 := n3_; have GE148 := n4_; have NB146_148 := n5_; have NB148_146 := n6_; clear n0_ n1_ n2_ n3_ n4_ n5_ n6_; clear hb hbox hg; have hnb42 := NB148_146.out; have hnc42 := NB146_148.out; have hcz43 := fun i => blk_cell BK148.out i; have hfz43 := fun i => blk_frozen BK148.out i; have hcz44 := fun i => blk_cell BK146.out i; have hfz44 := fun i => blk_frozen BK146.out i; ) | (go_at_call 94; (with_reducible refine (circuit_gate.calls k3 a0_0 a0_1 a0_2 a0_3 a0_4 _ _ l0_5 ((rd_T105 l0_5 x79_3).f0) ((rd_T105 l0_5 x79_3).f1) ((rd_T105 l0_5 x79_3).f2) ((rd_T105 l0_5 x79_3).f3) ((rd_T105 l0_5 x79_3).f4) x4_3 t149 t150 _ ?side1 ?side2 A34.out).mono ?_); (case side1 => exact Kd.C_below HR0_5.out (blA HB.out)); (case side2 => exact HC0_5.out); rintro e w45 ⟨rfl, hb⟩; have n0_ := Aside0.mk (blk_below (g := gb146) (o := .cells #[.int .i64 a0_0, .int .i64 a0_1, .int .i64 a0_2, .int .i64 a0_3, .int .i64 a0_4, .slice (some ad147) l0_5.length c0_5] 24 (0, 0)) (by refine bkA ?_; refine blk_far ?_ NB146_148.out _; refine bkA ?_; refine blk_far ?_ NB146_148.out _; refine bkA ?_; refine blk_far ?_ NB146_148.out _; refine bkA ?_; refine blk_far ?_ NB146_148.out _; refine bkA ?_; refine blk_far ?_ NB146_148.out _; refine bkA ?_; exact BK146.out) hb); have n1_ := Aside0.mk (blk_below (g := gb148) (o := .cells #[.int .i64 ((rd_T105 l0_5 x79_3).f0), .int .i64 ((rd_T105 l0_5 x79_3).f1), .int .i64 ((rd_T105 l0_5 x79_3).f2), .int .i64 ((rd_T105 l0_5 x79_3).f3), .int .i64 ((rd_T105 l0_5 x79_3).f4)] 105 (0, 0)) (by refine bkA ?_; refine blk_put (cs := #[.int .i64 ((rd_T105 l0_5 x79_3).f0), .int .i64 ((rd_T105 l0_5 x79_3).f1), .int .i64 ((rd_T105 l0_5 x79_3).f2), .int .i64 ((rd_T105 l0_5 x79_3).f3), .int .i64 0]) ?_ 4 _ rfl; refine bkA ?_; refine blk_put (cs := #[.int .i64 ((rd_T105 l0_5 x79_3).f0), .int .i64 ((rd_T105 l0_5 x79_3).f1), .int .i64 ((rd_T105 l0_5 x79_3).f2), .int .i64 0, .int .i64 0]) ?_ 3 _ rfl; refine bkA ?_; refine blk_put (cs := #[.int .i64 ((rd_T105 l0_5 x79_3).f0), .int .i64 ((rd_T105 l0_5 x79_3).f1), .int .i64 0, .int .i64 0, .int .i64 0]) ?_ 2 _ rfl; refine bkA ?_; refine blk_put (cs := #[.int .i64 ((rd_T105 l0_5 x79_3).f0), .int .i64 0, .int .i64 0, .int .i64 0, .int .i64 0]) ?_ 1 _ rfl; refine bkA ?_; refine blk_put (cs := #[.int .i64 0, .int .i64 0, .int .i64 0, .int .i64 0, .int .i64 0]) ?_ 0 _ rfl; refine bkA ?_; exact BK148.out) hb); have n2_ := Aside0.mk (below_step (blA HB.out) hb); clear BK146; clear BK148; clear HB; have BK146 := n0_; have BK148 := n1_; have HB := n2_; clear n0_ n1_ n2_; (try clear hb))); try go_wp2_with (first | ((with_reducible refine gate_dst (N := 6) rfl ?_); refine box_event ?hg (N := 6) ?hd (cs := #[.int .i64 0, .int .i64 0, .int .i64 0, .int .i64 0, .int .i64 0]) (t := 105) ?hr ?_; (case hd => rfl); (case hg => rfl); (case hr => first | (go_simp; done) | (go_simp; rfl)); intro gb148 hg w41 hbox hb; have n0_ := Aside0.mk (blk_below (bkA BK146.out) hb); have n1_ := Aside0.mk (below_step (blA HB.out) hb); have n2_ := Aside0.mk (hbox); have n3_ := Aside0.mk ((by rw [hg]; exact (below_size (blA HB.out)) : w.heap.size ≤ gb148)); have n4_ := Aside0.mk ((by rw [hg]; exact (below_size (blA HB.out)) : w.heap.size ≤ gb148)); have n5_ := Aside0.mk ((by rw [hg]; exact Nat.ne_of_lt (blk_lt (bkA BK146.out)) : gb146 ≠ gb148)); have n6_ := Aside0.mk ((by rw [hg]; exact Nat.ne_of_gt (blk_lt (bkA BK146.out)) : gb148 ≠ gb146)); clear BK146; clear HB; have BK146 := n0_; have HB := n1_; have BK148 := n2_; have GW148 := n3_; have GE148 := n4_; have NB146_148 := n5_; have NB148_146 := n6_; clear n0_ n1_ n2_ n3_ n4_ n5_ n6_; clear hb hbox hg; have hnb42 := NB148_146.out; have hnc42 := NB146_148.out; have hcz43 := fun i => blk_cell BK148.out i; have hfz43 := fun i => blk_frozen BK148.out i; have hcz44 := fun i => blk_cell BK146.out i; have hfz44 := fun i => blk_frozen BK146.out i; ) | (go_at_call 94; (with_reducible refine (circuit_gate.calls k3 a0_0 a0_1 a0_2 a0_3 a0_4 _ _ l0_5 ((rd_T105 l0_5 x79_3).f0) ((rd_T105 l0_5 x79_3).f1) ((rd_T105 l0_5 x79_3).f2) ((rd_T105 l0_5 x79_3).f3) ((rd_T105 l0_5 x79_3).f4) x4_3 t149 t150 _ ?side1 ?side2 A34.out).mono ?_); (case side1 => exact Kd.C_below HR0_5.out (blA HB.out)); (case side2 => exact HC0_5.out); rintro e w45 ⟨rfl, hb⟩; have n0_ := Aside0.mk (blk_below (g := gb146) (o := .cells #[.int .i64 a0_0, .int .i64 a0_1, .int .i64 a0_2, .int .i64 a0_3, .int .i64 a0_4, .slice (some ad147) l0_5.length c0_5] 24 (0, 0)) (by refine bkA ?_; refine blk_far ?_ NB146_148.out _; refine bkA ?_; refine blk_far ?_ NB146_148.out _; refine bkA ?_; refine blk_far ?_ NB146_148.out _; refine bkA ?_; refine blk_far ?_ NB146_148.out _; refine bkA ?_; refine blk_far ?_ NB146_148.out _; refine bkA ?_; exact BK146.out) hb); have n1_ := Aside0.mk (blk_below (g := gb148) (o := .cells #[.int .i64 ((rd_T105 l0_5 x79_3).f0), .int .i64 ((rd_T105 l0_5 x79_3).f1), .int .i64 ((rd_T105 l0_5 x79_3).f2), .int .i64 ((rd_T105 l0_5 x79_3).f3), .int .i64 ((rd_T105 l0_5 x79_3).f4)] 105 (0, 0)) (by refine bkA ?_; refine blk_put (cs := #[.int .i64 ((rd_T105 l0_5 x79_3).f0), .int .i64 ((rd_T105 l0_5 x79_3).f1), .int .i64 ((rd_T105 l0_5 x79_3).f2), .int .i64 ((rd_T105 l0_5 x79_3).f3), .int .i64 0]) ?_ 4 _ rfl; refine bkA ?_; refine blk_put (cs := #[.int .i64 ((rd_T105 l0_5 x79_3).f0), .int .i64 ((rd_T105 l0_5 x79_3).f1), .int .i64 ((rd_T105 l0_5 x79_3).f2), .int .i64 0, .int .i64 0]) ?_ 3 _ rfl; refine bkA ?_; refine blk_put (cs := #[.int .i64 ((rd_T105 l0_5 x79_3).f0), .int .i64 ((rd_T105 l0_5 x79_3).f1), .int .i64 0, .int .i64 0, .int .i64 0]) ?_ 2 _ rfl; refine bkA ?_; refine blk_put (cs := #[.int .i64 ((rd_T105 l0_5 x79_3).f0), .int .i64 0, .int .i64 0, .int .i64 0, .int .i64 0]) ?_ 1 _ rfl; refine bkA ?_; refine blk_put (cs := #[.int .i64 0, .int .i64 0, .int .i64 0, .int .i64 0, .int .i64 0]) ?_ 0 _ rfl; refine bkA ?_; exact BK148.out) hb); have n2_ := Aside0.mk (below_step (blA HB.out) hb); clear BK146; clear BK148; clear HB; have BK146 := n0_; have BK148 := n1_; have HB := n2_; clear n0_ n1_ n2_; (try clear hb))))
              go_ret2
              exact ⟨by first | rfl | (simp [errW_none, errW_some] <;> rfl) | (simp [*, errW_none, errW_some] <;> rfl), blA HB.out⟩
            ·rw [if_neg c33] at H
             exact absurd H (by simp)
           ·rw [if_neg c32] at H
            exact absurd H (by simp)
          ·rw [if_neg c31] at H
           have c31b0 : decide (x79_3 < (l0_5.length : Int)) = false := decide_eq_false c31; clear c31
           simp only [Option.some.injEq, Prod.mk.injEq] at H
           obtain ⟨rfl, rfl⟩ := H
           go_wp2
           repeat (go_quiet (fail); try go_wp2)
           go_ret2
           exact ⟨by first | rfl | (simp [errW_none, errW_some] <;> rfl) | (simp [*, errW_none, errW_some] <;> rfl), blA HB.out⟩
end Go.Proofs.Ythiiodgpdoljoaa.PLw
namespace Go.Proofs.Ythiiodgpdoljoaa.PLw
open Go.RowKit Go.Proofs.YthiiodgpdoljoaaW.PrintWords Go.Proofs.YthiiodgpdoljoaaW.PrintLast Go.Proofs.YthiiodgpdoljoaaW.PrintMore
attribute [local go_sem] max2_int min2_int max_two min_two max_three min_three max_four min_four   -- for this text's walks alone
set_option linter.unusedVariables false
set_option linter.unusedSimpArgs false
/-! ### steepleref25_shifts: function 90 -/
def steepleref25_shifts.f (a0 : Int) : Option (Bool) := if a0 ≥ 4 then (some (decide (a0 ≤ 6))) else (some false)
set_option maxHeartbeats 8000000 in
set_option maxRecDepth 100000 in
theorem steepleref25_shifts.calls (a0 : Int) (r : Bool) (w : World) (h : steepleref25_shifts.f a0 = some r) :
  Calls Try.prog 90 #[.int .i64 a0] w fun e w' => e = .returned (.bool r) ∧ Drawn0 w w' := by
 have H : (if a0 ≥ 4 then (some (decide (a0 ≤ 6))) else (some false)) = some r := h
 clear h
 by_cases c2 : a0 ≥ 4
 ·rw [if_pos c2] at H
  have c2b0 : decide (4 ≤ a0) = true := decide_eq_true c2; clear c2; obtain rfl := Option.some.inj H
  go_enter Try.func90, Try.ntmps90
  go_wp2
  go_ret
  exact ⟨eqA, dwA⟩
 ·rw [if_neg c2] at H
  have c2b0 : decide (4 ≤ a0) = false := decide_eq_false c2; clear c2; obtain rfl := Option.some.inj H
  go_enter Try.func90, Try.ntmps90
  go_wp2
  go_ret
  exact ⟨eqA, dwA⟩
end Go.Proofs.Ythiiodgpdoljoaa.PLw
