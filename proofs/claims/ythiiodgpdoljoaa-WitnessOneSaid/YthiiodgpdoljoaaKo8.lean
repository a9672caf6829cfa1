import Derived.Test.YthiiodgpdoljoaaKo2
import Derived.Test.YthiiodgpdoljoaaKo1
import Derived.Test.YthiiodgpdoljoaaKo7
-- Words and walks that the kit's print has laid for this seat, cut down, and our own texts, merged.
namespace Go.Proofs.Ythiiodgpdoljoaa.PLw
open Go.RowKit Go.Proofs.YthiiodgpdoljoaaW.PrintWords Go.Proofs.YthiiodgpdoljoaaW.PrintLast Go.Proofs.YthiiodgpdoljoaaW.PrintMore
attribute [local go_sem] max2_int min2_int max_two min_two max_three min_three max_four min_four   -- for this text's walks alone
set_option linter.unusedVariables false
set_option linter.unusedSimpArgs false
/-! ### witness_Run: function 28 -/
mutual
def witness_Run.l0 : Nat → List (List Int) → List (List Int) → Int → Int → Int → Int → Int → Int → Int → List (S105) → Option ((List (List Int)) × Int)
 | 0, _, _, _, _, _, _, _, _, _, _ => none
 | k + 1, x8, x34, x35, x36, x166000, x166001, x166002, x166003, x166004, x166005 => if x36 < x35 then (if 0 ≤ x36 then (if x36 < (x34.length : Int) then ((slices_Clone_uint64_uint64.f (rd_L4 x34 x36)).bind fun t169 => (if x8.length < 5864062014805 then (witness_Run.l0 k (x8 ++ [t169]) x34 x35 (wrap64 (x36 + 1)) x166000 x166001 x166002 x166003 x166004 x166005) else (none))) else (none)) else (none)) else (witness_Run.l1 k x8 x166005 (x166005.length : Int) 0 x166000 x166001 x166002 x166003 x166004 x166005)
def witness_Run.l1 : Nat → List (List Int) → List (S105) → Int → Int → Int → Int → Int → Int → Int → List (S105) → Option ((List (List Int)) × Int)
 | 0, _, _, _, _, _, _, _, _, _, _ => none
 | k + 1, x8, x47, x48, x49, x166000, x166001, x166002, x166003, x166004, x166005 => if x49 < x48 then (if 0 ≤ x49 then (if x49 < (x47.length : Int) then (if ((rd_T105 x47 x49).f0) = 8 then (if 0 ≤ ((rd_T105 x47 x49).f2) then (if ((rd_T105 x47 x49).f2) < (x8.length : Int) then (if 0 ≤ ((rd_T105 x47 x49).f3) then (if ((rd_T105 x47 x49).f3) < (x8.length : Int) then ((slices_Equal_uint64_uint64.f k (rd_L4 x8 ((rd_T105 x47 x49).f2)) (rd_L4 x8 ((rd_T105 x47 x49).f3))).bind fun t179 => (if t179 = true then (witness_Run.l1 k x8 x47 x48 (wrap64 (x49 + 1)) x166000 x166001 x166002 x166003 x166004 x166005) else (some (([] : List (List Int)), 7)))) else (none)) else (none)) else (none)) else (none)) else (if 0 ≤ x166001 then (witness_Run.l2 k x8 ([] : List Int) ([] : List Int) x47 x48 x49 (shl .i64 1 x166001) 0 x166000 x166001 x166002 x166003 x166004 x166005 ((rd_T105 x47 x49).f0) ((rd_T105 x47 x49).f1) ((rd_T105 x47 x49).f2) ((rd_T105 x47 x49).f3) ((rd_T105 x47 x49).f4)) else (none))) else (none)) else (none)) else (witness_Run.l3 k x8 x166000 x166001 x166002 x166003 x166004 x166005)
def witness_Run.l2 : Nat → List (List Int) → List Int → List Int → List (S105) → Int → Int → Int → Int → Int → Int → Int → Int → Int → List (S105) → Int → Int → Int → Int → Int → Option ((List (List Int)) × Int)
 | 0, _, _, _, _, _, _, _, _, _, _, _, _, _, _, _, _, _, _, _ => none
 | k + 1, x8, x13, x14, x47, x48, x49, x70, x71, x166000, x166001, x166002, x166003, x166004, x166005, x177000, x177001, x177002, x177003, x177004 => if x71 < x70 then (if 0 ≤ x177002 then (if x177002 < (x8.length : Int) then (if 0 ≤ x71 then (if x71 < ((rd_L4 x8 x177002).length : Int) then (if 0 ≤ x177003 then (if x177003 < (x8.length : Int) then (if x71 < ((rd_L4 x8 x177003).length : Int) then ((witness_made.f x166000 x166001 x166002 x166003 x166004 x166005 x177000 x177001 x177002 x177003 x177004 (rd (rd_L4 x8 x177002) x71) (rd (rd_L4 x8 x177003) x71)).bind fun bt184 => (if x13.length < 17592186044416 then (if x14.length < 17592186044416 then (witness_Run.l2 k x8 (x13 ++ [bt184.1]) (x14 ++ [bt184.2]) x47 x48 x49 x70 (wrap64 (x71 + 1)) x166000 x166001 x166002 x166003 x166004 x166005 x177000 x177001 x177002 x177003 x177004) else (none)) else (none))) else (none)) else (none)) else (none)) else (none)) else (none)) else (none)) else (none)) else (if x8.length < 5864062014805 then ((some (x8 ++ [x13] : List (List Int))).bind fun y192 => (if x177000 = 7 then (if y192.length < 5864062014805 then (witness_Run.l1 k (y192 ++ [x14]) x47 x48 (wrap64 (x49 + 1)) x166000 x166001 x166002 x166003 x166004 x166005) else (none)) else (witness_Run.l1 k y192 x47 x48 (wrap64 (x49 + 1)) x166000 x166001 x166002 x166003 x166004 x166005))) else (none))
def witness_Run.l3 : Nat → List (List Int) → Int → Int → Int → Int → Int → List (S105) → Option ((List (List Int)) × Int)
 | 0, _, _, _, _, _, _, _ => none
 | k + 1, x8, x166000, x166001, x166002, x166003, x166004, x166005 => if 0 ≤ x166002 then (if (x8.length : Int) < (shl .i64 1 x166002) then (if 0 ≤ x166001 then (if 0 ≤ (shl .i64 1 x166001) then (if (shl .i64 1 x166001 : Int).toNat ≤ 35184372088832 then (if x8.length < 5864062014805 then (witness_Run.l3 k (x8 ++ [(List.replicate (shl .i64 1 x166001 : Int).toNat 0)]) x166000 x166001 x166002 x166003 x166004 x166005) else (none)) else (none)) else (none)) else (none)) else (some (x8, 0))) else (none)
end
def witness_Run.f (k : Nat) (a0_0 : Int) (a0_1 : Int) (a0_2 : Int) (a0_3 : Int) (a0_4 : Int) (l0_5 : List (S105)) (l1 : List (List Int)) : Option ((List (List Int)) × Int) := (circuit_Check.f k a0_0 a0_1 a0_2 a0_3 a0_4 l0_5).bind fun t166 => (if t166 = 0 then ((witness_fits.f a0_0 a0_1 a0_2 a0_3 a0_4 l0_5 l1 (wrap64 (a0_3 + a0_4))).bind fun t167 => (if t167 = 0 then (witness_Run.l0 k ([] : List (List Int)) l1 (l1.length : Int) 0 a0_0 a0_1 a0_2 a0_3 a0_4 l0_5) else (some (([] : List (List Int)), t167)))) else (some (([] : List (List Int)), t166)))
theorem witness_Run.mono_l : ∀ k, (∀ y0 y1 y2 y3 y4 y5 y6 y7 y8 y9, LeO (witness_Run.l0 k y0 y1 y2 y3 y4 y5 y6 y7 y8 y9) (witness_Run.l0 (k + 1) y0 y1 y2 y3 y4 y5 y6 y7 y8 y9)) ∧ (∀ y0 y1 y2 y3 y4 y5 y6 y7 y8 y9, LeO (witness_Run.l1 k y0 y1 y2 y3 y4 y5 y6 y7 y8 y9) (witness_Run.l1 (k + 1) y0 y1 y2 y3 y4 y5 y6 y7 y8 y9)) ∧ (∀ y0 y1 y2 y3 y4 y5 y6 y7 y8 y9 y10 y11 y12 y13 y14 y15 y16 y17 y18, LeO (witness_Run.l2 k y0 y1 y2 y3 y4 y5 y6 y7 y8 y9 y10 y11 y12 y13 y14 y15 y16 y17 y18) (witness_Run.l2 (k + 1) y0 y1 y2 y3 y4 y5 y6 y7 y8 y9 y10 y11 y12 y13 y14 y15 y16 y17 y18)) ∧ (∀ y0 y1 y2 y3 y4 y5 y6, LeO (witness_Run.l3 k y0 y1 y2 y3 y4 y5 y6) (witness_Run.l3 (k + 1) y0 y1 y2 y3 y4 y5 y6))
 | 0 => ⟨fun _ _ _ _ _ _ _ _ _ _ r h => by simp [witness_Run.l0] at h, fun _ _ _ _ _ _ _ _ _ _ r h => by simp [witness_Run.l1] at h, fun _ _ _ _ _ _ _ _ _ _ _ _ _ _ _ _ _ _ _ r h => by simp [witness_Run.l2] at h, fun _ _ _ _ _ _ _ r h => by simp [witness_Run.l3] at h⟩
 | k + 1 => by
  obtain ⟨ih0, ih1, ih2, ih3⟩ := witness_Run.mono_l k
  refine ⟨?_, ?_, ?_, ?_⟩
  ·intro y0 y1 y2 y3 y4 y5 y6 y7 y8 y9
   unfold witness_Run.l0
   repeat' first
   | (with_reducible exact ih0 _ _ _ _ _ _ _ _ _ _)
   | (with_reducible exact ih1 _ _ _ _ _ _ _ _ _ _)
   | (with_reducible exact ih2 _ _ _ _ _ _ _ _ _ _ _ _ _ _ _ _ _ _ _)
   | (with_reducible exact ih3 _ _ _ _ _ _ _)
   | (with_reducible exact circuit_Check.mono _ _ _ _ _ _ _)
   | (with_reducible exact slices_Equal_uint64_uint64.mono _ _ _)
   | (with_reducible exact LeO.refl _)
   | (with_reducible exact LeO.none _)
   | (with_reducible refine LeO.ite ?_ ?_)
   | (with_reducible refine LeO.bind ?_ (fun _ => ?_))
   | exact ih0 _ _ _ _ _ _ _ _ _ _
   | exact ih1 _ _ _ _ _ _ _ _ _ _
   | exact ih2 _ _ _ _ _ _ _ _ _ _ _ _ _ _ _ _ _ _ _
   | exact ih3 _ _ _ _ _ _ _
   | exact circuit_Check.mono _ _ _ _ _ _ _
   | exact slices_Equal_uint64_uint64.mono _ _ _
   | exact LeO.none _
   | refine LeO.ite ?_ ?_
   | refine LeO.bind ?_ (fun _ => ?_)
  ·intro y0 y1 y2 y3 y4 y5 y6 y7 y8 y9
   unfold witness_Run.l1
   repeat' first
   | (with_reducible exact ih0 _ _ _ _ _ _ _ _ _ _)
   | (with_reducible exact ih1 _ _ _ _ _ _ _ _ _ _)
   | (with_reducible exact ih2 _ _ _ _ _ _ _ _ _ _ _ _ _ _ _ _ _ _ _)
   | (with_reducible exact ih3 _ _ _ _ _ _ _)
   | (with_reducible exact circuit_Check.mono _ _ _ _ _ _ _)
   | (with_reducible exact slices_Equal_uint64_uint64.mono _ _ _)
   | (with_reducible exact LeO.refl _)
   | (with_reducible exact LeO.none _)
   | (with_reducible refine LeO.ite ?_ ?_)
   | (with_reducible refine LeO.bind ?_ (fun _ => ?_))
   | exact ih0 _ _ _ _ _ _ _ _ _ _
   | exact ih1 _ _ _ _ _ _ _ _ _ _
   | exact ih2 _ _ _ _ _ _ _ _ _ _ _ _ _ _ _ _ _ _ _
   | exact ih3 _ _ _ _ _ _ _
   | exact circuit_Check.mono _ _ _ _ _ _ _
   | exact slices_Equal_uint64_uint64.mono _ _ _
   | exact LeO.none _
   | refine LeO.ite ?_ ?_
   | refine LeO.bind ?_ (fun _ => ?_)
  ·intro y0 y1 y2 y3 y4 y5 y6 y7 y8 y9 y10 y11 y12 y13 y14 y15 y16 y17 y18
   unfold witness_Run.l2
   repeat' first
   | (with_reducible exact ih0 _ _ _ _ _ _ _ _ _ _)
   | (with_reducible exact ih1 _ _ _ _ _ _ _ _ _ _)
   | (with_reducible exact ih2 _ _ _ _ _ _ _ _ _ _ _ _ _ _ _ _ _ _ _)
   | (with_reducible exact ih3 _ _ _ _ _ _ _)
   | (with_reducible exact circuit_Check.mono _ _ _ _ _ _ _)
   | (with_reducible exact slices_Equal_uint64_uint64.mono _ _ _)
   | (with_reducible exact LeO.refl _)
   | (with_reducible exact LeO.none _)
   | (with_reducible refine LeO.ite ?_ ?_)
   | (with_reducible refine LeO.bind ?_ (fun _ => ?_))
   | exact ih0 _ _ _ _ _ _ _ _ _ _
   | exact ih1 _ _ _ _ _ _ _ _ _ _
   | exact ih2 _ _ _ _ _ _ _ _ _ _ _ _ _ _ _ _ _ _ _
   | exact ih3 _ _ _ _ _ _ _
   | exact circuit_Check.mono _ _ _ _ _ _ _
   | exact slices_Equal_uint64_uint64.mono _ _ _
   | exact LeO.none _
   | refine LeO.ite ?_ ?_
   | refine LeO.bind ?_ (fun _ => ?_)
  ·intro y0 y1 y2 y3 y4 y5 y6
   unfold witness_Run.l3
   repeat' first
   | (with_reducible exact ih0 _ _ _ _ _ _ _ _ _ _)
   | (with_reducible exact ih1 _ _ _ _ _ _ _ _ _ _)
   | (with_reducible exact ih2 _ _ _ _ _ _ _ _ _ _ _ _ _ _ _ _ _ _ _)
   | (with_reducible exact ih3 _ _ _ _ _ _ _)
   | (with_reducible exact circuit_Check.mono _ _ _ _ _ _ _)
   | (with_reducible exact slices_Equal_uint64_uint64.mono _ _ _)
   | (with_reducible exact LeO.refl _)
   | (with_reducible exact LeO.none _)
   | (with_reducible refine LeO.ite ?_ ?_)
   | (with_reducible refine LeO.bind ?_ (fun _ => ?_))
   | exact ih0 _ _ _ _ _ _ _ _ _ _
   | exact ih1 _ _ _ _ _ _ _ _ _ _
   | exact ih2 _ _ _ _ _ _ _ _ _ _ _ _ _ _ _ _ _ _ _
   | exact ih3 _ _ _ _ _ _ _
   | exact circuit_Check.mono _ _ _ _ _ _ _
   | exact slices_Equal_uint64_uint64.mono _ _ _
   | exact LeO.none _
   | refine LeO.ite ?_ ?_
   | refine LeO.bind ?_ (fun _ => ?_)
theorem witness_Run.mono : ∀ a0 a1 a2 a3 a4 a5 a6 k, LeO (witness_Run.f k a0 a1 a2 a3 a4 a5 a6) (witness_Run.f (k + 1) a0 a1 a2 a3 a4 a5 a6) := by
 intro a0 a1 a2 a3 a4 a5 a6 k
 obtain ⟨ih0, ih1, ih2, ih3⟩ := witness_Run.mono_l k
 unfold witness_Run.f
 repeat' first
   | (with_reducible exact ih0 _ _ _ _ _ _ _ _ _ _)
   | (with_reducible exact ih1 _ _ _ _ _ _ _ _ _ _)
   | (with_reducible exact ih2 _ _ _ _ _ _ _ _ _ _ _ _ _ _ _ _ _ _ _)
   | (with_reducible exact ih3 _ _ _ _ _ _ _)
   | (with_reducible exact circuit_Check.mono _ _ _ _ _ _ _)
   | (with_reducible exact slices_Equal_uint64_uint64.mono _ _ _)
   | (with_reducible exact LeO.refl _)
   | (with_reducible exact LeO.none _)
   | (with_reducible refine LeO.ite ?_ ?_)
   | (with_reducible refine LeO.bind ?_ (fun _ => ?_))
   | exact ih0 _ _ _ _ _ _ _ _ _ _
   | exact ih1 _ _ _ _ _ _ _ _ _ _
   | exact ih2 _ _ _ _ _ _ _ _ _ _ _ _ _ _ _ _ _ _ _
   | exact ih3 _ _ _ _ _ _ _
   | exact circuit_Check.mono _ _ _ _ _ _ _
   | exact slices_Equal_uint64_uint64.mono _ _ _
   | exact LeO.none _
   | refine LeO.ite ?_ ?_
   | refine LeO.bind ?_ (fun _ => ?_)
def witness_Run.T17 : Bool × List (List Nat × List Nat) := (true, [([], []), ([], []), ([1], [1]), ([0, 2], [0, 2]), ([3], [3]), ([], []), ([], []), ([6], [6]), ([5, 7], [5, 7]), ([8], [8]), ([4, 9], [4, 9]), ([10], [10])])
def witness_Run.B17 : List Nat := [0, 0, 2, 7, 15, 0, 0, 64, 224, 480, 1023, 2047]
theorem witness_Run.tab17 : rtab .any (opsOf Try.f28 17) = witness_Run.T17 := by kernel_rfl
theorem witness_Run.bits17 : waitsOk witness_Run.T17.2 witness_Run.B17 = true := by kernel_rfl
def witness_Run.T23 : Bool × List (List Nat × List Nat) := (true, [([], []), ([], []), ([], []), ([], []), ([3], [3]), ([2, 4], [2, 4]), ([5], [5]), ([], []), ([6, 7], [6, 7]), ([8], [8]), ([], []), ([], []), ([11], [11]), ([10, 12], [10, 12]), ([13], [13]), ([], []), ([14, 15], [14, 15]), ([16], [16]), ([0, 1, 9, 17], [0, 1, 9, 17]), ([18], [18]), ([19], [19]), ([19], [19]), ([20, 18, 0, 1, 2, 3, 4, 5, 6, 7, 8, 9, 10, 11, 12, 13, 14, 15, 16, 17, 18, 19, 20], [20]), ([21, 22, 0, 1, 2, 3, 4, 5, 6, 7, 8, 9, 10, 11, 12, 13, 14, 15, 16, 17, 18, 19, 20, 21, 22], [21])])
def witness_Run.B23 : List Nat := [0, 0, 0, 0, 8, 28, 60, 0, 252, 508, 0, 0, 2048, 7168, 15360, 0, 64512, 130048, 262143, 524287, 1048575, 1048575, 2097151, 8388607]
theorem witness_Run.tab23 : rtab .any (opsOf Try.f28 23) = witness_Run.T23 := by kernel_rfl
theorem witness_Run.bits23 : waitsOk witness_Run.T23.2 witness_Run.B23 = true := by kernel_rfl
set_option maxHeartbeats 8000000 in
set_option maxRecDepth 100000 in
theorem witness_Run.calls (k : Nat) (a0_0 : Int) (a0_1 : Int) (a0_2 : Int) (a0_3 : Int) (a0_4 : Int) (A0_5 : Option Addr) (c0_5 : Nat) (l0_5 : List (S105)) (A1 : Option Addr) (c1 : Nat) (l1 : List (List Int)) (r1 : List (List Int)) (r2 : Int) (w : World) (hr0_5 : Kd.C k105 w A0_5 l0_5.length l0_5) (hc0_5 : l0_5.length ≤ c0_5) (hr1 : Kd.C (Kd.slice 43 (Kd.int .u64)) w A1 l1.length l1) (hc1 : l1.length ≤ c1) (h : witness_Run.f k a0_0 a0_1 a0_2 a0_3 a0_4 l0_5 l1 = some (r1, r2)) :
  Calls Try.prog 28 #[.agg #[.int .i64 a0_0, .int .i64 a0_1, .int .i64 a0_2, .int .i64 a0_3, .int .i64 a0_4, .slice A0_5 l0_5.length c0_5], .slice A1 l1.length c1] w fun e w' => ∃ v0_ : Value, e = .returned (.tuple #[v0_, .int .i64 r2]) ∧ Kd.S (Kd.slice 43 (Kd.int .u64)) 68 w' w.heap.size (fun _ => True) v0_ r1 ∧ Below w.heap.size w w' := by
 have hu24 := Try.underlying24; have hu105 := Try.underlying105; have HR0_5 := Aside0.mk hr0_5; have HC0_5 := Aside0.mk hc0_5; clear hr0_5 hc0_5; have HR1 := Aside0.mk hr1; have HC1 := Aside0.mk hc1; clear hr1 hc1; have HB := Aside0.mk (Below.refl w.heap.size w)
 have H : ((circuit_Check.f k a0_0 a0_1 a0_2 a0_3 a0_4 l0_5).bind fun t166 => (if t166 = 0 then ((witness_fits.f a0_0 a0_1 a0_2 a0_3 a0_4 l0_5 l1 (wrap64 (a0_3 + a0_4))).bind fun t167 => (if t167 = 0 then (witness_Run.l0 k ([] : List (List Int)) l1 (l1.length : Int) 0 a0_0 a0_1 a0_2 a0_3 a0_4 l0_5) else (some (([] : List (List Int)), t167)))) else (some (([] : List (List Int)), t166)))) = some (r1, r2) := h
 clear h; replace H := Option.bind_eq_some_iff.mp H; obtain ⟨t166, A30, H⟩ := H
 replace H : (if t166 = 0 then ((witness_fits.f a0_0 a0_1 a0_2 a0_3 a0_4 l0_5 l1 (wrap64 (a0_3 + a0_4))).bind fun t167 => (if t167 = 0 then (witness_Run.l0 k ([] : List (List Int)) l1 (l1.length : Int) 0 a0_0 a0_1 a0_2 a0_3 a0_4 l0_5) else (some (([] : List (List Int)), t167)))) else (some (([] : List (List Int)), t166))) = some (r1, r2) := H
 have A3 := Aside0.mk A30; clear A30
 by_cases c4 : t166 = 0
 ·rw [if_pos c4] at H
  have c4b0 : (t166 == 0) = true := beq_iff_eq.mpr c4; have c4b1 : (t166 != 0) = false := bne_eq_false_iff_eq.mpr c4; clear c4; replace H := Option.bind_eq_some_iff.mp H; obtain ⟨t167, A50, H⟩ := H
  replace H : (if t167 = 0 then (witness_Run.l0 k ([] : List (List Int)) l1 (l1.length : Int) 0 a0_0 a0_1 a0_2 a0_3 a0_4 l0_5) else (some (([] : List (List Int)), t167))) = some (r1, r2) := H
  have A5 := Aside0.mk A50; clear A50
  by_cases c6 : t167 = 0
  ·rw [if_pos c6] at H
   have c6b0 : (t167 == 0) = true := beq_iff_eq.mpr c6; have c6b1 : (t167 != 0) = false := bne_eq_false_iff_eq.mpr c6; clear c6; have H' := Aside0.mk H; clear H
   go_enter Try.func28, Try.ntmps28
   go_wp2_with (first | ((with_reducible refine gate_dst (N := 2) rfl ?_); refine box_event ?hg (N := 2) ?hd (cs := #[.int .i64 a0_0, .int .i64 a0_1, .int .i64 a0_2, .int .i64 a0_3, .int .i64 a0_4, .slice A0_5 l0_5.length c0_5]) (t := 24) ?hr ?_; (case hd => rfl); (case hg => rfl); (case hr => first | (go_simp; done) | (go_simp; rfl)); intro gb165 hg w7 hbox hb; have n0_ := Aside0.mk (below_step (blA HB.out) hb); have n1_ := Aside0.mk (hbox); have n2_ := Aside0.mk ((by rw [hg]; exact (below_size (blA HB.out)) : w.heap.size ≤ gb165)); have n3_ := Aside0.mk ((by rw [hg]; exact (below_size (blA HB.out)) : w.heap.size ≤ gb165)); clear HB; have HB := n0_; have BK165 := n1_; have GW165 := n2_; have GE165 := n3_; clear n0_ n1_ n2_ n3_; clear hb hbox hg; have hcz8 := fun i => blk_cell BK165.out i; have hfz8 := fun i => blk_frozen BK165.out i; ) | ((with_reducible refine gate_callee (f := 21) rfl ?_); refine goesL_ (some 19) rfl rfl Try.func21 (by kernel_rfl) rfl #[.agg #[.int .i64 a0_0, .int .i64 a0_1, .int .i64 a0_2, .int .i64 a0_3, .int .i64 a0_4, .slice A0_5 l0_5.length c0_5]] rfl gsA ?_; (with_reducible refine (circuit_Check.calls k a0_0 a0_1 a0_2 a0_3 a0_4 _ _ l0_5 t166 _ ?side1 ?side2 A3.out).mono ?_); (case side1 => repeat (first | exact (Kd.C_below HR0_5.out HB.out) | (with_reducible refine Kd.C_alloc ?_ _) | (with_reducible refine Kd.C_drewN ?_ _) | (with_reducible refine Kd.C_drew ?_))); (case side2 => exact HC0_5.out); rintro e w9 ⟨rfl, hb⟩; refine ⟨_, rfl, ?_⟩; have n0_ := Aside0.mk (blk_below (bkA BK165.out) hb); have n1_ := Aside0.mk (below_step (blA HB.out) hb); clear BK165; clear HB; have BK165 := n0_; have HB := n1_; clear n0_ n1_; (try clear hb); have hcz10 := fun i => blk_cell BK165.out i; have hfz10 := fun i => blk_frozen BK165.out i; ) | ((with_reducible refine gate_callee (f := 65) rfl ?_); refine goesL_ (some 30) rfl rfl Try.func65 (by kernel_rfl) rfl #[.agg #[.int .i64 a0_0, .int .i64 a0_1, .int .i64 a0_2, .int .i64 a0_3, .int .i64 a0_4, .slice A0_5 l0_5.length c0_5], .slice A1 l1.length c1, .int .i64 (wrap64 (a0_3 + a0_4))] rfl gsA ?_; (with_reducible refine (witness_fits.calls a0_0 a0_1 a0_2 a0_3 a0_4 _ _ l0_5 _ _ l1 (wrap64 (a0_3 + a0_4)) t167 _ ?side1 ?side2 ?side3 ?side4 A5.out).mono ?_); (case side1 => repeat (first | exact (Kd.C_below HR0_5.out HB.out) | (with_reducible refine Kd.C_alloc ?_ _) | (with_reducible refine Kd.C_drewN ?_ _) | (with_reducible refine Kd.C_drew ?_))); (case side2 => exact HC0_5.out); (case side3 => repeat (first | exact (Kd.C_below HR1.out HB.out) | (with_reducible refine Kd.C_alloc ?_ _) | (with_reducible refine Kd.C_drewN ?_ _) | (with_reducible refine Kd.C_drew ?_))); (case side4 => exact HC1.out); rintro e w11 ⟨rfl, hb⟩; refine ⟨_, rfl, ?_⟩; have n0_ := Aside0.mk (blk_below (bkA BK165.out) hb); have n1_ := Aside0.mk (below_step (blA HB.out) hb); clear BK165; clear HB; have BK165 := n0_; have HB := n1_; clear n0_ n1_; (try clear hb)))
   go_loopg [8, 36] k (fun kq v8 v36 w' => ∃ (x8_1 : List (List Int)) (x36_1 : Int), v36 = .int .i64 x36_1 ∧ Aside0 (witness_Run.l0 kq x8_1 l1 (l1.length : Int) x36_1 a0_0 a0_1 a0_2 a0_3 a0_4 l0_5 = some (r1, r2)) ∧ Aside0 (kq ≤ k) ∧ Aside0 (Kd.S (Kd.slice 43 (Kd.int .u64)) 68 w' w.heap.size (fun _ => True) v8 x8_1) ∧ Aside0 (w'.heap[gb165]? = some (.cells #[.int .i64 a0_0, .int .i64 a0_1, .int .i64 a0_2, .int .i64 a0_3, .int .i64 a0_4, (.slice A0_5 l0_5.length c0_5)] 24 (0, 0))) ∧ Aside0 (Below w.heap.size w w'))
   case atStart => exact ⟨(([] : List (List Int))), (0), eqA, H', ⟨Nat.le_refl _⟩, ⟨by first | exact Kd.S_nil _ _ _ _ _ | exact Kd.N_nil _ _ _ _ _ | exact Kd.V_nil _ _ _ _ _ | exact Kd.Q_nil _ _ _ _ _ | exact Kd.R_nil _ _ _ _ _⟩, ⟨bkA BK165.out⟩, ⟨blA HB.out⟩⟩
   case round =>
    clear H'; (try clear c1); (try clear c2); (try clear p2); (try clear c4); (try clear c4b0); (try clear c4b1); (try clear c6); (try clear c6b0); (try clear c6b1); (try clear p6); (try clear hcz10); (try clear hcz8); (try clear hfz10); (try clear hfz8); obtain ⟨x8_1, x36_1, rfl, HA, HK1, HO_8, BK165, HB⟩ := hrel
    cases gk with
    | zero => exact absurd HA.out (by simp [witness_Run.l0])
    | succ k1 =>
     have H := HA.out; clear HA
     simp only [witness_Run.l0] at H
     by_cases c12 : x36_1 < (l1.length : Int)
     ·rw [if_pos c12] at H
      have c12b0 : decide (x36_1 < (l1.length : Int)) = true := decide_eq_true c12; clear c12
      by_cases c13 : 0 ≤ x36_1
      ·rw [if_pos c13] at H
       have c13b0 : decide (0 ≤ x36_1) = true := decide_eq_true c13; clear c13
       by_cases c14 : x36_1 < (l1.length : Int)
       ·rw [if_pos c14] at H
        have c14b0 : decide (x36_1 < (l1.length : Int)) = true := decide_eq_true c14; clear c14; replace H := Option.bind_eq_some_iff.mp H; obtain ⟨t169, A150, H⟩ := H
        replace H : (if x8_1.length < 5864062014805 then (witness_Run.l0 k1 (x8_1 ++ [t169]) l1 (l1.length : Int) (wrap64 (x36_1 + 1)) a0_0 a0_1 a0_2 a0_3 a0_4 l0_5) else (none)) = some (r1, r2) := H
        have A15 := Aside0.mk A150; clear A150
        by_cases c16 : x8_1.length < 5864062014805
        ·rw [if_pos c16] at H
         have LMc16 := Aside0.mk c16; clear c16
         obtain ⟨y172, hy172⟩ : ∃ y_ : List (List Int), y_ = (x8_1 ++ [t169]) := ⟨_, rfl⟩
         replace H : (witness_Run.l0 k1 y172 l1 (l1.length : Int) (wrap64 (x36_1 + 1)) a0_0 a0_1 a0_2 a0_3 a0_4 l0_5) = some (r1, r2) := by first | (rw [hy172]; with_reducible exact H) | (have H2_ := (Option.bind_some _ _).symm.trans H; rw [hy172]; with_reducible exact H2_) | (have H2_ := (Option.bind_some _ _).symm.trans H; with_reducible exact H2_) | with_reducible exact H | (rw [hy172]; exact H) | exact H
         have Ny172 := Aside0.mk hy172; clear hy172; have H' := Aside0.mk H; clear H
         have p168 : 0 ≤ (x36_1 : Int) := of_decide_eq_true (by first | (with_reducible assumption) | assumption)
         have q168 : x36_1 < (l1.length : Int) := of_decide_eq_true (by first | (with_reducible assumption) | assumption)
         obtain ⟨ad168, A168_0, c168_0, e168, hx168_0, hl168_0, hi168_0⟩ := at_L4 HR1.out x36_1 p168 q168
         cases e168
         replace hx168_0 := (HB.out.cell (World.block_lt_of_cell? w _ hx168_0)).trans hx168_0; have HR168_0 := Aside0.mk hi168_0; have HC168_0 := Aside0.mk hl168_0; clear hi168_0 hl168_0; replace p168 := eq_true p168; replace q168 := eq_true q168
         go_wp2_with (first | ((with_reducible refine gate_callee (f := 66) rfl ?_); refine goesL_ (some 42) rfl rfl Try.func66 (by kernel_rfl) rfl #[.slice A168_0 (rd_L4 l1 x36_1).length c168_0] rfl gsA ?_; (with_reducible refine (slices_Clone_uint64_uint64.calls _ _ (rd_L4 l1 x36_1) t169 _ ?side1 ?side2 A15.out).mono ?_); (case side1 => repeat (first | exact (Kd.C_below HR168_0.out HB.out) | (with_reducible refine Kd.C_alloc ?_ _) | (with_reducible refine Kd.C_drewN ?_ _) | (with_reducible refine Kd.C_drew ?_))); (case side2 => exact HC168_0.out); rintro e w17 ⟨v170, rfl, ho0, hb⟩; refine ⟨_, rfl, ?_⟩; have n0_ := Aside0.mk (Kd.S_elder' (by (with_reducible repeat (first | apply Kd.S_alloc | apply Kd.S_drewN | apply Kd.S_drew)); exact HO_8.out) (Kd.R_base ho0) hb); have n1_ := Aside0.mk (Kd.R_lower ho0 (below_size (blA HB.out))); have n2_ := Aside0.mk (blk_below (bkA BK165.out) hb); have n3_ := Aside0.mk (below_step (blA HB.out) hb); clear HO_8; clear BK165; clear HB; have HO_8 := n0_; have HO171 := n1_; have BK165 := n2_; have HB := n3_; clear n0_ n1_ n2_ n3_; (try clear hb); (try clear ho0); obtain ⟨Ao19, co19, eo19⟩ := Kd.R_slice HO171.out; subst eo19) | ((with_reducible refine gate_builtin (b := .append) (xs := #[.tmp 40, .tmp 43]) rfl ?_); at_builtin; refine Kd.S_append (Kd.slice 43 (Kd.int .u64)) (w0 := w) w.heap.size rfl (.tmp 40) (.tmp 43) 56 68 (.slice none 0 0) 24 rfl Try.underlying56 info68 rfl (by decide) (by omega) u8 x8_1 t169 [.slice Ao19 t169.length co19] (fun _ => True) (fun k_ => some k_ = (.slice Ao19 t169.length co19 : Value).ownBlock) rfl rfl ?aP (fun k_ hk_ => ((Kd.R_mono (ok' := fun k_ => ((fun _ => True)) k_ ∧ some k_ ≠ (u8 : Value).ownBlock) (Kd.R_apart' (HO171.out) (Kd.S_typed HO_8.out) (by decide)) (fun k_ hk => ⟨trivial, hk.2⟩))).1 k_ hk_.symm) ?aF ?aO ?aB ?aS ?aL ?_; (case aP => exact Kd.M_row (Kd.R_mono (Kd.R_tight rfl (Kd.R_mono (ok' := fun k_ => ((fun _ => True)) k_ ∧ some k_ ≠ (u8 : Value).ownBlock) (Kd.R_apart' (HO171.out) (Kd.S_typed HO_8.out) (by decide)) (fun k_ hk => ⟨trivial, hk.2⟩))) (fun _ h_ => h_))); (case aB => exact (blA HB.out)); (case aF => exact (fun _ _ => trivial)); (case aO => exact (by (with_reducible repeat (first | apply Kd.S_alloc | apply Kd.S_drewN | apply Kd.S_drew)); exact Kd.S_mono HO_8.out (fun k_ hk => ⟨trivial, fun e_ => hk.2 e_⟩))); (case aS => exact (below_size (blA HB.out))); (case aL => have := LMc16.out; omega); intro v173 w18 ho hb hg hat; rw [← Ny172.out] at ho; have n0_ := Aside0.mk (blk_grown (bkA BK165.out) hg (Kd.S_ne HO_8.out BK165.out (by decide))); have n1_ := Aside0.mk (hb); have n2_ := Aside0.mk (ho); clear BK165; clear HB; clear HO_8; clear HO171; have BK165 := n0_; have HB := n1_; have HO174 := n2_; clear n0_ n1_ n2_; clear ho hb hg hat))
         go_roundg k1
         case measure => have := HK1.out; omega
         case rel => exact ⟨(y172), (wrap64 (x36_1 + 1)), eqA, H', ⟨by have := HK1.out; omega⟩, ⟨by (with_reducible repeat (first | apply Kd.S_alloc | apply Kd.S_drewN | apply Kd.S_drew)); exact HO174.out⟩, ⟨bkA BK165.out⟩, ⟨blA HB.out⟩⟩
        ·rw [if_neg c16] at H
         exact absurd H (by simp)
       ·rw [if_neg c14] at H
        exact absurd H (by simp)
      ·rw [if_neg c13] at H
       exact absurd H (by simp)
     ·rw [if_neg c12] at H
      have c12b0 : decide (x36_1 < (l1.length : Int)) = false := decide_eq_false c12; clear c12; have H' := Aside0.mk H; clear H
      have hcz20 := fun i => blk_cell BK165.out i
      have hfz20 := fun i => blk_frozen BK165.out i
      go_wp2
      go_loopg [8, 49] k1 (fun kq v8 v49 w' => ∃ (x8_2 : List (List Int)) (x49_2 : Int), v49 = .int .i64 x49_2 ∧ Aside0 (witness_Run.l1 kq x8_2 l0_5 (l0_5.length : Int) x49_2 a0_0 a0_1 a0_2 a0_3 a0_4 l0_5 = some (r1, r2)) ∧ Aside0 (kq ≤ k1) ∧ Aside0 (Kd.S (Kd.slice 43 (Kd.int .u64)) 68 w' w.heap.size (fun _ => True) v8 x8_2) ∧ Aside0 (w'.heap[gb165]? = some (.cells #[.int .i64 a0_0, .int .i64 a0_1, .int .i64 a0_2, .int .i64 a0_3, .int .i64 a0_4, (.slice A0_5 l0_5.length c0_5)] 24 (0, 0))) ∧ Aside0 (Below w.heap.size w w'))
      case atStart => exact ⟨(x8_1), (0), eqA, H', ⟨Nat.le_refl _⟩, ⟨by (with_reducible repeat (first | apply Kd.S_alloc | apply Kd.S_drewN | apply Kd.S_drew)); exact HO_8.out⟩, ⟨bkA BK165.out⟩, ⟨blA HB.out⟩⟩
      case round =>
       clear H'; (try clear c1); (try clear p1); (try clear q1); (try clear hx1); (try clear c2); (try clear p2); (try clear c4); (try clear c4b0); (try clear c4b1); (try clear c6); (try clear c6b0); (try clear c6b1); (try clear p6); (try clear c12); (try clear c12b0); (try clear c13); (try clear c13b0); (try clear c14); (try clear c14b0); (try clear c16); (try clear p16); (try clear q16); (try clear hx16); (try clear hcz10); (try clear hcz20); (try clear hcz8); (try clear hfz10); (try clear hfz20); (try clear hfz8); (try clear hx168_0); (try clear p168); (try clear p2); (try clear p6); (try clear q168); obtain ⟨x8_2, x49_2, rfl, HA, HK2, HO_8, BK165, HB⟩ := hrel
       cases gk with
       | zero => exact absurd HA.out (by simp [witness_Run.l1])
       | succ k2 =>
        have H := HA.out; clear HA
        simp only [witness_Run.l1] at H
        by_cases c21 : x49_2 < (l0_5.length : Int)
        ·rw [if_pos c21] at H
         have c21b0 : decide (x49_2 < (l0_5.length : Int)) = true := decide_eq_true c21; clear c21
         by_cases c22 : 0 ≤ x49_2
         ·rw [if_pos c22] at H
          have c22b0 : decide (0 ≤ x49_2) = true := decide_eq_true c22; clear c22
          by_cases c23 : x49_2 < (l0_5.length : Int)
          ·rw [if_pos c23] at H
           have c23b0 : decide (x49_2 < (l0_5.length : Int)) = true := decide_eq_true c23; clear c23
           by_cases c24 : ((rd_T105 l0_5 x49_2).f0) = 8
           ·rw [if_pos c24] at H
            have c24b0 : (((rd_T105 l0_5 x49_2).f0) == 8) = true := beq_iff_eq.mpr c24; have c24b1 : (((rd_T105 l0_5 x49_2).f0) != 8) = false := bne_eq_false_iff_eq.mpr c24; clear c24
            by_cases c25 : 0 ≤ ((rd_T105 l0_5 x49_2).f2)
            ·rw [if_pos c25] at H
             have c25b0 : decide (0 ≤ ((rd_T105 l0_5 x49_2).f2)) = true := decide_eq_true c25; clear c25
             by_cases c26 : ((rd_T105 l0_5 x49_2).f2) < (x8_2.length : Int)
             ·rw [if_pos c26] at H
              have c26b0 : decide (((rd_T105 l0_5 x49_2).f2) < (x8_2.length : Int)) = true := decide_eq_true c26; clear c26
              by_cases c27 : 0 ≤ ((rd_T105 l0_5 x49_2).f3)
              ·rw [if_pos c27] at H
               have c27b0 : decide (0 ≤ ((rd_T105 l0_5 x49_2).f3)) = true := decide_eq_true c27; clear c27
               by_cases c28 : ((rd_T105 l0_5 x49_2).f3) < (x8_2.length : Int)
               ·rw [if_pos c28] at H
                have c28b0 : decide (((rd_T105 l0_5 x49_2).f3) < (x8_2.length : Int)) = true := decide_eq_true c28; clear c28; replace H := Option.bind_eq_some_iff.mp H; obtain ⟨t179, A290, H⟩ := H
                replace H : (if t179 = true then (witness_Run.l1 k2 x8_2 l0_5 (l0_5.length : Int) (wrap64 (x49_2 + 1)) a0_0 a0_1 a0_2 a0_3 a0_4 l0_5) else (some (([] : List (List Int)), 7))) = some (r1, r2) := H
                have A29 := Aside0.mk A290; clear A290
                by_cases c30 : t179 = true
                ·subst c30
                 have H1 : (witness_Run.l1 k2 x8_2 l0_5 (l0_5.length : Int) (wrap64 (x49_2 + 1)) a0_0 a0_1 a0_2 a0_3 a0_4 l0_5) = some (r1, r2) := by rw [if_pos rfl] at H; exact H
                 clear H; have H := H1; clear H1; have H' := Aside0.mk H; clear H
                 have p175 : 0 ≤ (x49_2 : Int) := of_decide_eq_true (by first | (with_reducible assumption) | assumption)
                 have q175 : x49_2 < (l0_5.length : Int) := of_decide_eq_true (by first | (with_reducible assumption) | assumption)
                 obtain ⟨ad175, e175, hx175_0, hx175_1, hx175_2, hx175_3, hx175_4⟩ := at_T105 HR0_5.out x49_2 p175 q175
                 cases e175
                 replace hx175_0 := (HB.out.cell (World.block_lt_of_cell? w _ hx175_0)).trans hx175_0; replace hx175_1 := (HB.out.cell (World.block_lt_of_cell? w _ hx175_1)).trans hx175_1; replace hx175_2 := (HB.out.cell (World.block_lt_of_cell? w _ hx175_2)).trans hx175_2; replace hx175_3 := (HB.out.cell (World.block_lt_of_cell? w _ hx175_3)).trans hx175_3; replace hx175_4 := (HB.out.cell (World.block_lt_of_cell? w _ hx175_4)).trans hx175_4; replace p175 := eq_true p175; replace q175 := eq_true q175
                 try go_wp2_with (first | ((with_reducible refine gate_dst (N := 12) rfl ?_); refine box_event ?hg (N := 12) ?hd (cs := #[.int .i64 0, .int .i64 0, .int .i64 0, .int .i64 0, .int .i64 0]) (t := 105) ?hr ?_; (case hd => rfl); (case hg => rfl); (case hr => first | (go_simp; done) | (go_simp; rfl)); intro gb176 hg w31 hbox hb; have n0_ := Aside0.mk (Kd.S_below (by (with_reducible repeat (first | apply Kd.S_alloc | apply Kd.S_drewN | apply Kd.S_drew)); exact HO_8.out) hb); have n1_ := Aside0.mk (blk_below (bkA BK165.out) hb); have n2_ := Aside0.mk (below_step (blA HB.out) hb); have n3_ := Aside0.mk (hbox); have n4_ := Aside0.mk ((by rw [hg]; exact (below_size (blA HB.out)) : w.heap.size ≤ gb176)); have n5_ := Aside0.mk ((by rw [hg]; exact (below_size (blA HB.out)) : w.heap.size ≤ gb176)); have n6_ := Aside0.mk ((by rw [hg]; exact Nat.ne_of_lt (blk_lt (bkA BK165.out)) : gb165 ≠ gb176)); have n7_ := Aside0.mk ((by rw [hg]; exact Nat.ne_of_gt (blk_lt (bkA BK165.out)) : gb176 ≠ gb165)); clear HO_8; clear BK165; clear HB; have HO_8 := n0_; have BK165 := n1_; have HB := n2_; have BK176 := n3_; have GW176 := n4_; have GE176 := n5_; have NB165_176 := n6_; have NB176_165 := n7_; clear n0_ n1_ n2_ n3_ n4_ n5_ n6_ n7_; clear hb hbox hg; have hnb32 := NB176_165.out; have hnc32 := NB165_176.out; have hcz33 := fun i => blk_cell BK176.out i; have hfz33 := fun i => blk_frozen BK176.out i; ))
                 have n0_ : Aside0 (Kd.S (Kd.slice 43 (Kd.int .u64)) 68 (((((w31.setCell ⟨gb176, 0, none⟩ (.int .i64 ((rd_T105 l0_5 x49_2).f0))).setCell ⟨gb176, 1, none⟩ (.int .i64 ((rd_T105 l0_5 x49_2).f1))).setCell ⟨gb176, 2, none⟩ (.int .i64 ((rd_T105 l0_5 x49_2).f2))).setCell ⟨gb176, 3, none⟩ (.int .i64 ((rd_T105 l0_5 x49_2).f3))).setCell ⟨gb176, 4, none⟩ (.int .i64 ((rd_T105 l0_5 x49_2).f4))) w.heap.size (fun _ => True) u8 x8_2) := ⟨by (with_reducible repeat (first | apply Kd.S_alloc | apply Kd.S_drewN | apply Kd.S_drew)); exact Kd.S_mono (Kd.S_far (p := ⟨gb176, 4, none⟩) (Kd.S_far (p := ⟨gb176, 3, none⟩) (Kd.S_far (p := ⟨gb176, 2, none⟩) (Kd.S_far (p := ⟨gb176, 1, none⟩) (Kd.S_far (p := ⟨gb176, 0, none⟩) (Kd.S_types HO_8.out BK176.out (by decide)) (fun _ hk => hk.2) (.int .i64 ((rd_T105 l0_5 x49_2).f0))) (fun _ hk => hk.2) (.int .i64 ((rd_T105 l0_5 x49_2).f1))) (fun _ hk => hk.2) (.int .i64 ((rd_T105 l0_5 x49_2).f2))) (fun _ hk => hk.2) (.int .i64 ((rd_T105 l0_5 x49_2).f3))) (fun _ hk => hk.2) (.int .i64 ((rd_T105 l0_5 x49_2).f4))) (fun _ hk => trivial)⟩
                 have n1_ : Aside0 ((((((w31.setCell ⟨gb176, 0, none⟩ (.int .i64 ((rd_T105 l0_5 x49_2).f0))).setCell ⟨gb176, 1, none⟩ (.int .i64 ((rd_T105 l0_5 x49_2).f1))).setCell ⟨gb176, 2, none⟩ (.int .i64 ((rd_T105 l0_5 x49_2).f2))).setCell ⟨gb176, 3, none⟩ (.int .i64 ((rd_T105 l0_5 x49_2).f3))).setCell ⟨gb176, 4, none⟩ (.int .i64 ((rd_T105 l0_5 x49_2).f4))).heap[gb165]? = some (.cells #[.int .i64 a0_0, .int .i64 a0_1, .int .i64 a0_2, .int .i64 a0_3, .int .i64 a0_4, .slice (some ad175) l0_5.length c0_5] 24 (0, 0))) := ⟨by refine bkA ?_; refine blk_far ?_ NB165_176.out _; refine bkA ?_; refine blk_far ?_ NB165_176.out _; refine bkA ?_; refine blk_far ?_ NB165_176.out _; refine bkA ?_; refine blk_far ?_ NB165_176.out _; refine bkA ?_; refine blk_far ?_ NB165_176.out _; refine bkA ?_; exact BK165.out⟩
                 have n2_ : Aside0 ((((((w31.setCell ⟨gb176, 0, none⟩ (.int .i64 ((rd_T105 l0_5 x49_2).f0))).setCell ⟨gb176, 1, none⟩ (.int .i64 ((rd_T105 l0_5 x49_2).f1))).setCell ⟨gb176, 2, none⟩ (.int .i64 ((rd_T105 l0_5 x49_2).f2))).setCell ⟨gb176, 3, none⟩ (.int .i64 ((rd_T105 l0_5 x49_2).f3))).setCell ⟨gb176, 4, none⟩ (.int .i64 ((rd_T105 l0_5 x49_2).f4))).heap[gb176]? = some (.cells #[.int .i64 ((rd_T105 l0_5 x49_2).f0), .int .i64 ((rd_T105 l0_5 x49_2).f1), .int .i64 ((rd_T105 l0_5 x49_2).f2), .int .i64 ((rd_T105 l0_5 x49_2).f3), .int .i64 ((rd_T105 l0_5 x49_2).f4)] 105 (0, 0))) := ⟨by refine bkA ?_; refine blk_put (cs := #[.int .i64 ((rd_T105 l0_5 x49_2).f0), .int .i64 ((rd_T105 l0_5 x49_2).f1), .int .i64 ((rd_T105 l0_5 x49_2).f2), .int .i64 ((rd_T105 l0_5 x49_2).f3), .int .i64 0]) ?_ 4 _ rfl; refine bkA ?_; refine blk_put (cs := #[.int .i64 ((rd_T105 l0_5 x49_2).f0), .int .i64 ((rd_T105 l0_5 x49_2).f1), .int .i64 ((rd_T105 l0_5 x49_2).f2), .int .i64 0, .int .i64 0]) ?_ 3 _ rfl; refine bkA ?_; refine blk_put (cs := #[.int .i64 ((rd_T105 l0_5 x49_2).f0), .int .i64 ((rd_T105 l0_5 x49_2).f1), .int .i64 0, .int .i64 0, .int .i64 0]) ?_ 2 _ rfl; refine bkA ?_; refine blk_put (cs := #[.int .i64 ((rd_T105 l0_5 x49_2).f0), .int .i64 0, .int .i64 0, .int .i64 0, .int .i64 0]) ?_ 1 _ rfl; refine bkA ?_; refine blk_put (cs := #[.int .i64 0, .int .i64 0, .int .i64 0, .int .i64 0, .int .i64 0]) ?_ 0 _ rfl; refine bkA ?_; exact BK176.out⟩
                 have n3_ : Aside0 (Below w.heap.size w (((((w31.setCell ⟨gb176, 0, none⟩ (.int .i64 ((rd_T105 l0_5 x49_2).f0))).setCell ⟨gb176, 1, none⟩ (.int .i64 ((rd_T105 l0_5 x49_2).f1))).setCell ⟨gb176, 2, none⟩ (.int .i64 ((rd_T105 l0_5 x49_2).f2))).setCell ⟨gb176, 3, none⟩ (.int .i64 ((rd_T105 l0_5 x49_2).f3))).setCell ⟨gb176, 4, none⟩ (.int .i64 ((rd_T105 l0_5 x49_2).f4)))) := ⟨blA HB.out⟩
                 (try clear HO_8)
                 (try clear BK165)
                 (try clear BK176)
                 (try clear HB)
                 generalize (((((w31.setCell ⟨gb176, 0, none⟩ (.int .i64 ((rd_T105 l0_5 x49_2).f0))).setCell ⟨gb176, 1, none⟩ (.int .i64 ((rd_T105 l0_5 x49_2).f1))).setCell ⟨gb176, 2, none⟩ (.int .i64 ((rd_T105 l0_5 x49_2).f2))).setCell ⟨gb176, 3, none⟩ (.int .i64 ((rd_T105 l0_5 x49_2).f3))).setCell ⟨gb176, 4, none⟩ (.int .i64 ((rd_T105 l0_5 x49_2).f4))) = w34 at n0_ n1_ n2_ n3_ ⊢
                 have HO_8 := n0_; have BK165 := n1_; have BK176 := n2_; have HB := n3_; clear n0_ n1_ n2_ n3_; have n0_ := Aside0.mk (Kd.S_drew HO_8.out); have n1_ := Aside0.mk (blk_drew BK165.out); have n2_ := Aside0.mk (blk_drew BK176.out); have n3_ := Aside0.mk (below_drew1 HB.out); clear HO_8; clear BK165; clear BK176; clear HB; have HO_8 := n0_; have BK165 := n1_; have BK176 := n2_; have HB := n3_; clear n0_ n1_ n2_ n3_; obtain ⟨Ao36, co36, eo36⟩ := Kd.S_slice HO_8.out
                 (first | subst eo36 | (injection eo36 with f1_ f2_ f3_; have f4_ := f1_.symm; have f5_ := f3_.symm; clear f1_ f2_ f3_; subst f4_; subst f5_))
                 have p177 : 0 ≤ (((rd_T105 l0_5 x49_2).f2) : Int) := of_decide_eq_true (by first | (with_reducible assumption) | assumption)
                 have q177 : ((rd_T105 l0_5 x49_2).f2) < (x8_2.length : Int) := of_decide_eq_true (by first | (with_reducible assumption) | assumption)
                 obtain ⟨ad177, A177_0, c177_0, e177, hx177_0, hl177_0, hi177_0⟩ := at_L4 (Kd.S_reads' HO_8.out).2.2 ((rd_T105 l0_5 x49_2).f2) p177 q177
                 cases e177
                 obtain ⟨ce177, hce177, hMe177, hcc177⟩ := Kd.S_get HO_8.out [] ((rd_T105 l0_5 x49_2).f2) p177 (by first | exact q177 | exact of_decide_eq_true (by first | (with_reducible assumption) | assumption) | (have e_ := (Kd.S_reads' HO_8.out).1; omega))
                 obtain ⟨ve177_0, rfl, ge177_0⟩ := hMe177; have hv177_0 := hcc177 0 _ rfl
                 rw [Nat.add_zero, show ((Kd.slice 43 (Kd.int .u64))).sz = 1 from rfl, Nat.mul_one] at hv177_0
                 replace hv177_0 := Option.some.inj (hv177_0.symm.trans hx177_0)
                 rw [hv177_0] at ge177_0
                 have HL177_0 := Aside0.mk (show Kd.R (Kd.int .u64) 43 _ _ _ _ (rd_L4 x8_2 ((rd_T105 l0_5 x49_2).f2)) from ge177_0)
                 clear hv177_0 ge177_0; clear hcc177 hce177; have HR177_0 := Aside0.mk hi177_0; have HC177_0 := Aside0.mk hl177_0; clear hi177_0 hl177_0; replace p177 := eq_true p177; replace q177 := eq_true q177
                 have p178 : 0 ≤ (((rd_T105 l0_5 x49_2).f3) : Int) := of_decide_eq_true (by first | (with_reducible assumption) | assumption)
                 have q178 : ((rd_T105 l0_5 x49_2).f3) < (x8_2.length : Int) := of_decide_eq_true (by first | (with_reducible assumption) | assumption)
                 obtain ⟨ad178, A178_0, c178_0, e178, hx178_0, hl178_0, hi178_0⟩ := at_L4 (Kd.S_reads' HO_8.out).2.2 ((rd_T105 l0_5 x49_2).f3) p178 q178
                 obtain rfl : ad177 = ad178 := (by injection e178)
                 obtain ⟨ce178, hce178, hMe178, hcc178⟩ := Kd.S_get HO_8.out [] ((rd_T105 l0_5 x49_2).f3) p178 (by first | exact q178 | exact of_decide_eq_true (by first | (with_reducible assumption) | assumption) | (have e_ := (Kd.S_reads' HO_8.out).1; omega))
                 obtain ⟨ve178_0, rfl, ge178_0⟩ := hMe178; have hv178_0 := hcc178 0 _ rfl
                 rw [Nat.add_zero, show ((Kd.slice 43 (Kd.int .u64))).sz = 1 from rfl, Nat.mul_one] at hv178_0
                 replace hv178_0 := Option.some.inj (hv178_0.symm.trans hx178_0)
                 rw [hv178_0] at ge178_0
                 have HL178_0 := Aside0.mk (show Kd.R (Kd.int .u64) 43 _ _ _ _ (rd_L4 x8_2 ((rd_T105 l0_5 x49_2).f3)) from ge178_0)
                 clear hv178_0 ge178_0; clear hcc178 hce178; have HR178_0 := Aside0.mk hi178_0; have HC178_0 := Aside0.mk hl178_0; clear hi178_0 hl178_0; replace p178 := eq_true p178; replace q178 := eq_true q178
                 refine start_ (n := 12) (S := fun w' => w'.cell? ⟨gb176, 0, none⟩ = some (.int .i64 ((rd_T105 l0_5 x49_2).f0)) ∧ w'.cell? ⟨gb176, 1, none⟩ = some (.int .i64 ((rd_T105 l0_5 x49_2).f1)) ∧ w'.cell? ⟨gb176, 2, none⟩ = some (.int .i64 ((rd_T105 l0_5 x49_2).f2)) ∧ w'.cell? ⟨gb176, 3, none⟩ = some (.int .i64 ((rd_T105 l0_5 x49_2).f3)) ∧ w'.cell? ⟨gb176, 4, none⟩ = some (.int .i64 ((rd_T105 l0_5 x49_2).f4)) ∧ w'.cell? (ad177.add (((rd_T105 l0_5 x49_2).f2)).toNat) = some (.slice A177_0 (rd_L4 x8_2 ((rd_T105 l0_5 x49_2).f2)).length c177_0) ∧ w'.cell? (ad177.add (((rd_T105 l0_5 x49_2).f3)).toNat) = some (.slice A178_0 (rd_L4 x8_2 ((rd_T105 l0_5 x49_2).f3)).length c178_0)) (ds := []) #[false, false, false, false, false, false, false, false, false, false, false, false] (by kernel_rfl) rfl rfl ⟨(blk_cell BK176.out 0).trans rfl, (blk_cell BK176.out 1).trans rfl, (blk_cell BK176.out 2).trans rfl, (blk_cell BK176.out 3).trans rfl, (blk_cell BK176.out 4).trans rfl, hx177_0, hx178_0⟩ (fun hHeld => ?_); refine with_tabW witness_Run.tab17 witness_Run.bits17 (fun HT_ HW_ => ?_)
                 generalize w34.drew = w35 at HO_8 BK165 BK176 HB HL177_0 HL178_0 HR177_0 HR178_0 hx177_0 hx178_0 hHeld ⊢
                 refine pureA 0 (some 56) HT_.out ?_
                 refine pureA 1 (some 57) HT_.out ?_
                 refine pureA 5 (some 61) HT_.out ?_
                 refine pureA 6 (some 62) HT_.out ?_
                 refine takeA 2 (some 58) rfl HT_.out HW_.out hHeld (Or.inl ⟨by rfl, by rintro w' ⟨s0, s1, s2, s3, s4, s5, s6⟩; go_simp; with_reducible rfl⟩) ?_
                 refine pureA 3 (some 59) HT_.out ?_
                 refine takeA 4 (some 60) rfl HT_.out HW_.out hHeld (Or.inl ⟨by rfl, by rintro w' ⟨s0, s1, s2, s3, s4, s5, s6⟩; go_simp; with_reducible rfl⟩) ?_
                 refine takeA 7 (some 63) rfl HT_.out HW_.out hHeld (Or.inl ⟨by rfl, by rintro w' ⟨s0, s1, s2, s3, s4, s5, s6⟩; go_simp; with_reducible rfl⟩) ?_
                 refine pureA 8 (some 64) HT_.out ?_
                 refine takeA 9 (some 65) rfl HT_.out HW_.out hHeld (Or.inl ⟨by rfl, by rintro w' ⟨s0, s1, s2, s3, s4, s5, s6⟩; go_simp; with_reducible rfl⟩) ?_
                 refine one_ (i := 10) (N := some 66) #[true, true, true, true, true, true, true, true, true, true, true, false] rfl rfl (one_of HT_.out (by kernel_rfl)) (by decide) (fun K hK => ?_)
                 refine goes_ Try.func67 (by kernel_rfl) rfl #[.slice A177_0 (rd_L4 x8_2 ((rd_T105 l0_5 x49_2).f2)).length c177_0, .slice A178_0 (rd_L4 x8_2 ((rd_T105 l0_5 x49_2).f3)).length c178_0] (by rfl) rfl rfl gsA ?_
                 with_reducible refine (slices_Equal_uint64_uint64.calls k2 _ _ (rd_L4 x8_2 ((rd_T105 l0_5 x49_2).f2)) _ _ (rd_L4 x8_2 ((rd_T105 l0_5 x49_2).f3)) true _ ?side1 ?side2 ?side3 ?side4 A29.out).mono ?_
                 (case side1 => repeat (first | exact (by repeat (first | (with_reducible exact HR177_0.out) | (with_reducible refine Kd.C_alloc ?_ _) | (with_reducible refine Kd.C_drewN ?_ _) | (with_reducible refine Kd.C_drew ?_) | exact HR177_0.out)) | (with_reducible refine Kd.C_alloc ?_ _) | (with_reducible refine Kd.C_drewN ?_ _) | (with_reducible refine Kd.C_drew ?_)))
                 (case side2 => exact HC177_0.out)
                 (case side3 => repeat (first | exact (by repeat (first | (with_reducible exact HR178_0.out) | (with_reducible refine Kd.C_alloc ?_ _) | (with_reducible refine Kd.C_drewN ?_ _) | (with_reducible refine Kd.C_drew ?_) | exact HR178_0.out)) | (with_reducible refine Kd.C_alloc ?_ _) | (with_reducible refine Kd.C_drewN ?_ _) | (with_reducible refine Kd.C_drew ?_)))
                 (case side4 => exact HC178_0.out)
                 rintro e w' ⟨rfl, ⟨nd, rfl⟩⟩
                 refine ⟨_, rfl, ?_⟩
                 refine hK.out _ _ ⟨(blk_cell BK176.out 0).trans rfl, (blk_cell BK176.out 1).trans rfl, (blk_cell BK176.out 2).trans rfl, (blk_cell BK176.out 3).trans rfl, (blk_cell BK176.out 4).trans rfl, hHeld.2.2.2.2.2.1, hHeld.2.2.2.2.2.2⟩ (fun hHeld => ?_)
                 clear hK K
                 refine normA ?_
                 refine pureA 11 (some 67) HT_.out ?_
                 refine done_ (done_of HT_.out (by kernel_rfl)) ?_
                 try go_wp2
                 go_roundg k2
                 case measure => have := HK1.out; have := HK2.out; omega
                 case rel => exact ⟨(x8_2), (wrap64 (x49_2 + 1)), eqA, H', ⟨by have := HK1.out; have := HK2.out; omega⟩, ⟨by (with_reducible repeat (first | apply Kd.S_alloc | apply Kd.S_drewN | apply Kd.S_drew)); exact HO_8.out⟩, ⟨bkA BK165.out⟩, ⟨blA HB.out⟩⟩
                ·replace c30 := Bool.eq_false_iff.mpr c30; subst c30
                 have H1 : (some (([] : List (List Int)), 7)) = some (r1, r2) := by rw [if_neg (show ¬ (false = true) by decide)] at H; exact H
                 clear H; have H := H1; clear H1
                 simp only [Option.some.injEq, Prod.mk.injEq] at H
                 obtain ⟨rfl, rfl⟩ := H
                 have p175 : 0 ≤ (x49_2 : Int) := of_decide_eq_true (by first | (with_reducible assumption) | assumption)
                 have q175 : x49_2 < (l0_5.length : Int) := of_decide_eq_true (by first | (with_reducible assumption) | assumption)
                 obtain ⟨ad175, e175, hx175_0, hx175_1, hx175_2, hx175_3, hx175_4⟩ := at_T105 HR0_5.out x49_2 p175 q175
                 cases e175
                 replace hx175_0 := (HB.out.cell (World.block_lt_of_cell? w _ hx175_0)).trans hx175_0; replace hx175_1 := (HB.out.cell (World.block_lt_of_cell? w _ hx175_1)).trans hx175_1; replace hx175_2 := (HB.out.cell (World.block_lt_of_cell? w _ hx175_2)).trans hx175_2; replace hx175_3 := (HB.out.cell (World.block_lt_of_cell? w _ hx175_3)).trans hx175_3; replace hx175_4 := (HB.out.cell (World.block_lt_of_cell? w _ hx175_4)).trans hx175_4; replace p175 := eq_true p175; replace q175 := eq_true q175
                 try go_wp2_with (first | ((with_reducible refine gate_dst (N := 12) rfl ?_); refine box_event ?hg (N := 12) ?hd (cs := #[.int .i64 0, .int .i64 0, .int .i64 0, .int .i64 0, .int .i64 0]) (t := 105) ?hr ?_; (case hd => rfl); (case hg => rfl); (case hr => first | (go_simp; done) | (go_simp; rfl)); intro gb176 hg w37 hbox hb; have n0_ := Aside0.mk (Kd.S_below (by (with_reducible repeat (first | apply Kd.S_alloc | apply Kd.S_drewN | apply Kd.S_drew)); exact HO_8.out) hb); have n1_ := Aside0.mk (blk_below (bkA BK165.out) hb); have n2_ := Aside0.mk (below_step (blA HB.out) hb); have n3_ := Aside0.mk (hbox); have n4_ := Aside0.mk ((by rw [hg]; exact (below_size (blA HB.out)) : w.heap.size ≤ gb176)); have n5_ := Aside0.mk ((by rw [hg]; exact (below_size (blA HB.out)) : w.heap.size ≤ gb176)); have n6_ := Aside0.mk ((by rw [hg]; exact Nat.ne_of_lt (blk_lt (bkA BK165.out)) : gb165 ≠ gb176)); have n7_ := Aside0.mk ((by rw [hg]; exact Nat.ne_of_gt (blk_lt (bkA BK165.out)) : gb176 ≠ gb165)); clear HO_8; clear BK165; clear HB; have HO_8 := n0_; have BK165 := n1_; have HB := n2_; have BK176 := n3_; have GW176 := n4_; have GE176 := n5_; have NB165_176 := n6_; have NB176_165 := n7_; clear n0_ n1_ n2_ n3_ n4_ n5_ n6_ n7_; clear hb hbox hg; have hnb38 := NB176_165.out; have hnc38 := NB165_176.out; have hcz39 := fun i => blk_cell BK176.out i; have hfz39 := fun i => blk_frozen BK176.out i; ))
                 have n0_ : Aside0 (Kd.S (Kd.slice 43 (Kd.int .u64)) 68 (((((w37.setCell ⟨gb176, 0, none⟩ (.int .i64 ((rd_T105 l0_5 x49_2).f0))).setCell ⟨gb176, 1, none⟩ (.int .i64 ((rd_T105 l0_5 x49_2).f1))).setCell ⟨gb176, 2, none⟩ (.int .i64 ((rd_T105 l0_5 x49_2).f2))).setCell ⟨gb176, 3, none⟩ (.int .i64 ((rd_T105 l0_5 x49_2).f3))).setCell ⟨gb176, 4, none⟩ (.int .i64 ((rd_T105 l0_5 x49_2).f4))) w.heap.size (fun _ => True) u8 x8_2) := ⟨by (with_reducible repeat (first | apply Kd.S_alloc | apply Kd.S_drewN | apply Kd.S_drew)); exact Kd.S_mono (Kd.S_far (p := ⟨gb176, 4, none⟩) (Kd.S_far (p := ⟨gb176, 3, none⟩) (Kd.S_far (p := ⟨gb176, 2, none⟩) (Kd.S_far (p := ⟨gb176, 1, none⟩) (Kd.S_far (p := ⟨gb176, 0, none⟩) (Kd.S_types HO_8.out BK176.out (by decide)) (fun _ hk => hk.2) (.int .i64 ((rd_T105 l0_5 x49_2).f0))) (fun _ hk => hk.2) (.int .i64 ((rd_T105 l0_5 x49_2).f1))) (fun _ hk => hk.2) (.int .i64 ((rd_T105 l0_5 x49_2).f2))) (fun _ hk => hk.2) (.int .i64 ((rd_T105 l0_5 x49_2).f3))) (fun _ hk => hk.2) (.int .i64 ((rd_T105 l0_5 x49_2).f4))) (fun _ hk => trivial)⟩
                 have n1_ : Aside0 ((((((w37.setCell ⟨gb176, 0, none⟩ (.int .i64 ((rd_T105 l0_5 x49_2).f0))).setCell ⟨gb176, 1, none⟩ (.int .i64 ((rd_T105 l0_5 x49_2).f1))).setCell ⟨gb176, 2, none⟩ (.int .i64 ((rd_T105 l0_5 x49_2).f2))).setCell ⟨gb176, 3, none⟩ (.int .i64 ((rd_T105 l0_5 x49_2).f3))).setCell ⟨gb176, 4, none⟩ (.int .i64 ((rd_T105 l0_5 x49_2).f4))).heap[gb165]? = some (.cells #[.int .i64 a0_0, .int .i64 a0_1, .int .i64 a0_2, .int .i64 a0_3, .int .i64 a0_4, .slice (some ad175) l0_5.length c0_5] 24 (0, 0))) := ⟨by refine bkA ?_; refine blk_far ?_ NB165_176.out _; refine bkA ?_; refine blk_far ?_ NB165_176.out _; refine bkA ?_; refine blk_far ?_ NB165_176.out _; refine bkA ?_; refine blk_far ?_ NB165_176.out _; refine bkA ?_; refine blk_far ?_ NB165_176.out _; refine bkA ?_; exact BK165.out⟩
                 have n2_ : Aside0 ((((((w37.setCell ⟨gb176, 0, none⟩ (.int .i64 ((rd_T105 l0_5 x49_2).f0))).setCell ⟨gb176, 1, none⟩ (.int .i64 ((rd_T105 l0_5 x49_2).f1))).setCell ⟨gb176, 2, none⟩ (.int .i64 ((rd_T105 l0_5 x49_2).f2))).setCell ⟨gb176, 3, none⟩ (.int .i64 ((rd_T105 l0_5 x49_2).f3))).setCell ⟨gb176, 4, none⟩ (.int .i64 ((rd_T105 l0_5 x49_2).f4))).heap[gb176]? = some (.cells #[.int .i64 ((rd_T105 l0_5 x49_2).f0), .int .i64 ((rd_T105 l0_5 x49_2).f1), .int .i64 ((rd_T105 l0_5 x49_2).f2), .int .i64 ((rd_T105 l0_5 x49_2).f3), .int .i64 ((rd_T105 l0_5 x49_2).f4)] 105 (0, 0))) := ⟨by refine bkA ?_; refine blk_put (cs := #[.int .i64 ((rd_T105 l0_5 x49_2).f0), .int .i64 ((rd_T105 l0_5 x49_2).f1), .int .i64 ((rd_T105 l0_5 x49_2).f2), .int .i64 ((rd_T105 l0_5 x49_2).f3), .int .i64 0]) ?_ 4 _ rfl; refine bkA ?_; refine blk_put (cs := #[.int .i64 ((rd_T105 l0_5 x49_2).f0), .int .i64 ((rd_T105 l0_5 x49_2).f1), .int .i64 ((rd_T105 l0_5 x49_2).f2), .int .i64 0, .int .i64 0]) ?_ 3 _ rfl; refine bkA ?_; refine blk_put (cs := #[.int .i64 ((rd_T105 l0_5 x49_2).f0), .int .i64 ((rd_T105 l0_5 x49_2).f1), .int .i64 0, .int .i64 0, .int .i64 0]) ?_ 2 _ rfl; refine bkA ?_; refine blk_put (cs := #[.int .i64 ((rd_T105 l0_5 x49_2).f0), .int .i64 0, .int .i64 0, .int .i64 0, .int .i64 0]) ?_ 1 _ rfl; refine bkA ?_; refine blk_put (cs := #[.int .i64 0, .int .i64 0, .int .i64 0, .int .i64 0, .int .i64 0]) ?_ 0 _ rfl; refine bkA ?_; exact BK176.out⟩
                 have n3_ : Aside0 (Below w.heap.size w (((((w37.setCell ⟨gb176, 0, none⟩ (.int .i64 ((rd_T105 l0_5 x49_2).f0))).setCell ⟨gb176, 1, none⟩ (.int .i64 ((rd_T105 l0_5 x49_2).f1))).setCell ⟨gb176, 2, none⟩ (.int .i64 ((rd_T105 l0_5 x49_2).f2))).setCell ⟨gb176, 3, none⟩ (.int .i64 ((rd_T105 l0_5 x49_2).f3))).setCell ⟨gb176, 4, none⟩ (.int .i64 ((rd_T105 l0_5 x49_2).f4)))) := ⟨blA HB.out⟩
                 (try clear HO_8)
                 (try clear BK165)
                 (try clear BK176)
                 (try clear HB)
                 generalize (((((w37.setCell ⟨gb176, 0, none⟩ (.int .i64 ((rd_T105 l0_5 x49_2).f0))).setCell ⟨gb176, 1, none⟩ (.int .i64 ((rd_T105 l0_5 x49_2).f1))).setCell ⟨gb176, 2, none⟩ (.int .i64 ((rd_T105 l0_5 x49_2).f2))).setCell ⟨gb176, 3, none⟩ (.int .i64 ((rd_T105 l0_5 x49_2).f3))).setCell ⟨gb176, 4, none⟩ (.int .i64 ((rd_T105 l0_5 x49_2).f4))) = w40 at n0_ n1_ n2_ n3_ ⊢
                 have HO_8 := n0_; have BK165 := n1_; have BK176 := n2_; have HB := n3_; clear n0_ n1_ n2_ n3_; have n0_ := Aside0.mk (Kd.S_drew HO_8.out); have n1_ := Aside0.mk (blk_drew BK165.out); have n2_ := Aside0.mk (blk_drew BK176.out); have n3_ := Aside0.mk (below_drew1 HB.out); clear HO_8; clear BK165; clear BK176; clear HB; have HO_8 := n0_; have BK165 := n1_; have BK176 := n2_; have HB := n3_; clear n0_ n1_ n2_ n3_; obtain ⟨Ao42, co42, eo42⟩ := Kd.S_slice HO_8.out
                 (first | subst eo42 | (injection eo42 with f1_ f2_ f3_; have f4_ := f1_.symm; have f5_ := f3_.symm; clear f1_ f2_ f3_; subst f4_; subst f5_))
                 have p177 : 0 ≤ (((rd_T105 l0_5 x49_2).f2) : Int) := of_decide_eq_true (by first | (with_reducible assumption) | assumption)
                 have q177 : ((rd_T105 l0_5 x49_2).f2) < (x8_2.length : Int) := of_decide_eq_true (by first | (with_reducible assumption) | assumption)
                 obtain ⟨ad177, A177_0, c177_0, e177, hx177_0, hl177_0, hi177_0⟩ := at_L4 (Kd.S_reads' HO_8.out).2.2 ((rd_T105 l0_5 x49_2).f2) p177 q177
                 cases e177
                 obtain ⟨ce177, hce177, hMe177, hcc177⟩ := Kd.S_get HO_8.out [] ((rd_T105 l0_5 x49_2).f2) p177 (by first | exact q177 | exact of_decide_eq_true (by first | (with_reducible assumption) | assumption) | (have e_ := (Kd.S_reads' HO_8.out).1; omega))
                 obtain ⟨ve177_0, rfl, ge177_0⟩ := hMe177; have hv177_0 := hcc177 0 _ rfl
                 rw [Nat.add_zero, show ((Kd.slice 43 (Kd.int .u64))).sz = 1 from rfl, Nat.mul_one] at hv177_0
                 replace hv177_0 := Option.some.inj (hv177_0.symm.trans hx177_0)
                 rw [hv177_0] at ge177_0
                 have HL177_0 := Aside0.mk (show Kd.R (Kd.int .u64) 43 _ _ _ _ (rd_L4 x8_2 ((rd_T105 l0_5 x49_2).f2)) from ge177_0)
                 clear hv177_0 ge177_0; clear hcc177 hce177; have HR177_0 := Aside0.mk hi177_0; have HC177_0 := Aside0.mk hl177_0; clear hi177_0 hl177_0; replace p177 := eq_true p177; replace q177 := eq_true q177
                 have p178 : 0 ≤ (((rd_T105 l0_5 x49_2).f3) : Int) := of_decide_eq_true (by first | (with_reducible assumption) | assumption)
                 have q178 : ((rd_T105 l0_5 x49_2).f3) < (x8_2.length : Int) := of_decide_eq_true (by first | (with_reducible assumption) | assumption)
                 obtain ⟨ad178, A178_0, c178_0, e178, hx178_0, hl178_0, hi178_0⟩ := at_L4 (Kd.S_reads' HO_8.out).2.2 ((rd_T105 l0_5 x49_2).f3) p178 q178
                 obtain rfl : ad177 = ad178 := (by injection e178)
                 obtain ⟨ce178, hce178, hMe178, hcc178⟩ := Kd.S_get HO_8.out [] ((rd_T105 l0_5 x49_2).f3) p178 (by first | exact q178 | exact of_decide_eq_true (by first | (with_reducible assumption) | assumption) | (have e_ := (Kd.S_reads' HO_8.out).1; omega))
                 obtain ⟨ve178_0, rfl, ge178_0⟩ := hMe178; have hv178_0 := hcc178 0 _ rfl
                 rw [Nat.add_zero, show ((Kd.slice 43 (Kd.int .u64))).sz = 1 from rfl, Nat.mul_one] at hv178_0
                 replace hv178_0 := Option.some.inj (hv178_0.symm.trans hx178_0)
                 rw [hv178_0] at ge178_0
                 have HL178_0 := Aside0.mk (show Kd.R (Kd.int .u64) 43 _ _ _ _ (rd_L4 x8_2 ((rd_T105 l0_5 x49_2).f3)) from ge178_0)
                 clear hv178_0 ge178_0; clear hcc178 hce178; have HR178_0 := Aside0.mk hi178_0; have HC178_0 := Aside0.mk hl178_0; clear hi178_0 hl178_0; replace p178 := eq_true p178; replace q178 := eq_true q178
                 refine start_ (n := 12) (S := fun w' => w'.cell? ⟨gb176, 0, none⟩ = some (.int .i64 ((rd_T105 l0_5 x49_2).f0)) ∧ w'.cell? ⟨gb176, 1, none⟩ = some (.int .i64 ((rd_T105 l0_5 x49_2).f1)) ∧ w'.cell? ⟨gb176, 2, none⟩ = some (.int .i64 ((rd_T105 l0_5 x49_2).f2)) ∧ w'.cell? ⟨gb176, 3, none⟩ = some (.int .i64 ((rd_T105 l0_5 x49_2).f3)) ∧ w'.cell? ⟨gb176, 4, none⟩ = some (.int .i64 ((rd_T105 l0_5 x49_2).f4)) ∧ w'.cell? (ad177.add (((rd_T105 l0_5 x49_2).f2)).toNat) = some (.slice A177_0 (rd_L4 x8_2 ((rd_T105 l0_5 x49_2).f2)).length c177_0) ∧ w'.cell? (ad177.add (((rd_T105 l0_5 x49_2).f3)).toNat) = some (.slice A178_0 (rd_L4 x8_2 ((rd_T105 l0_5 x49_2).f3)).length c178_0)) (ds := []) #[false, false, false, false, false, false, false, false, false, false, false, false] (by kernel_rfl) rfl rfl ⟨(blk_cell BK176.out 0).trans rfl, (blk_cell BK176.out 1).trans rfl, (blk_cell BK176.out 2).trans rfl, (blk_cell BK176.out 3).trans rfl, (blk_cell BK176.out 4).trans rfl, hx177_0, hx178_0⟩ (fun hHeld => ?_); refine with_tabW witness_Run.tab17 witness_Run.bits17 (fun HT_ HW_ => ?_)
                 generalize w40.drew = w41 at HO_8 BK165 BK176 HB HL177_0 HL178_0 HR177_0 HR178_0 hx177_0 hx178_0 hHeld ⊢
                 refine pureA 0 (some 56) HT_.out ?_
                 refine pureA 1 (some 57) HT_.out ?_
                 refine pureA 5 (some 61) HT_.out ?_
                 refine pureA 6 (some 62) HT_.out ?_
                 refine takeA 2 (some 58) rfl HT_.out HW_.out hHeld (Or.inl ⟨by rfl, by rintro w' ⟨s0, s1, s2, s3, s4, s5, s6⟩; go_simp; with_reducible rfl⟩) ?_
                 refine pureA 3 (some 59) HT_.out ?_
                 refine takeA 4 (some 60) rfl HT_.out HW_.out hHeld (Or.inl ⟨by rfl, by rintro w' ⟨s0, s1, s2, s3, s4, s5, s6⟩; go_simp; with_reducible rfl⟩) ?_
                 refine takeA 7 (some 63) rfl HT_.out HW_.out hHeld (Or.inl ⟨by rfl, by rintro w' ⟨s0, s1, s2, s3, s4, s5, s6⟩; go_simp; with_reducible rfl⟩) ?_
                 refine pureA 8 (some 64) HT_.out ?_
                 refine takeA 9 (some 65) rfl HT_.out HW_.out hHeld (Or.inl ⟨by rfl, by rintro w' ⟨s0, s1, s2, s3, s4, s5, s6⟩; go_simp; with_reducible rfl⟩) ?_
                 refine one_ (i := 10) (N := some 66) #[true, true, true, true, true, true, true, true, true, true, true, false] rfl rfl (one_of HT_.out (by kernel_rfl)) (by decide) (fun K hK => ?_)
                 refine goes_ Try.func67 (by kernel_rfl) rfl #[.slice A177_0 (rd_L4 x8_2 ((rd_T105 l0_5 x49_2).f2)).length c177_0, .slice A178_0 (rd_L4 x8_2 ((rd_T105 l0_5 x49_2).f3)).length c178_0] (by rfl) rfl rfl gsA ?_
                 with_reducible refine (slices_Equal_uint64_uint64.calls k2 _ _ (rd_L4 x8_2 ((rd_T105 l0_5 x49_2).f2)) _ _ (rd_L4 x8_2 ((rd_T105 l0_5 x49_2).f3)) false _ ?side1 ?side2 ?side3 ?side4 A29.out).mono ?_
                 (case side1 => repeat (first | exact (by repeat (first | (with_reducible exact HR177_0.out) | (with_reducible refine Kd.C_alloc ?_ _) | (with_reducible refine Kd.C_drewN ?_ _) | (with_reducible refine Kd.C_drew ?_) | exact HR177_0.out)) | (with_reducible refine Kd.C_alloc ?_ _) | (with_reducible refine Kd.C_drewN ?_ _) | (with_reducible refine Kd.C_drew ?_)))
                 (case side2 => exact HC177_0.out)
                 (case side3 => repeat (first | exact (by repeat (first | (with_reducible exact HR178_0.out) | (with_reducible refine Kd.C_alloc ?_ _) | (with_reducible refine Kd.C_drewN ?_ _) | (with_reducible refine Kd.C_drew ?_) | exact HR178_0.out)) | (with_reducible refine Kd.C_alloc ?_ _) | (with_reducible refine Kd.C_drewN ?_ _) | (with_reducible refine Kd.C_drew ?_)))
                 (case side4 => exact HC178_0.out)
                 rintro e w' ⟨rfl, ⟨nd, rfl⟩⟩
                 refine ⟨_, rfl, ?_⟩
                 refine hK.out _ _ ⟨(blk_cell BK176.out 0).trans rfl, (blk_cell BK176.out 1).trans rfl, (blk_cell BK176.out 2).trans rfl, (blk_cell BK176.out 3).trans rfl, (blk_cell BK176.out 4).trans rfl, hHeld.2.2.2.2.2.1, hHeld.2.2.2.2.2.2⟩ (fun hHeld => ?_)
                 clear hK K
                 refine normA ?_
                 refine pureA 11 (some 67) HT_.out ?_
                 refine done_ (done_of HT_.out (by kernel_rfl)) ?_
                 try go_wp2
                 go_ret2
                 exact ⟨_, by first | rfl | (simp [errW_none, errW_some] <;> rfl) | (simp [*, errW_none, errW_some] <;> rfl), by first | exact Kd.S_nil _ _ _ _ _ | exact Kd.N_nil _ _ _ _ _ | exact Kd.V_nil _ _ _ _ _ | exact Kd.Q_nil _ _ _ _ _ | exact Kd.R_nil _ _ _ _ _, blA HB.out⟩
               ·rw [if_neg c28] at H
                exact absurd H (by simp)
              ·rw [if_neg c27] at H
               exact absurd H (by simp)
             ·rw [if_neg c26] at H
              exact absurd H (by simp)
            ·rw [if_neg c25] at H
             exact absurd H (by simp)
           ·rw [if_neg c24] at H
            have c24b0 : (((rd_T105 l0_5 x49_2).f0) == 8) = false := beq_eq_false_iff_ne.mpr c24; have c24b1 : (((rd_T105 l0_5 x49_2).f0) != 8) = true := bne_iff_ne.mpr c24
            by_cases c43 : 0 ≤ a0_1
            ·rw [if_pos c43] at H
             have c43b0 := eq_true c43; have c43b1 : decide (0 ≤ a0_1) = true := decide_eq_true c43; clear c43
             obtain ⟨ji44, hji44⟩ : ∃ j_ : Int, (shl .i64 1 a0_1) = j_ := ⟨_, rfl⟩
             replace H : (witness_Run.l2 k2 x8_2 ([] : List Int) ([] : List Int) l0_5 (l0_5.length : Int) x49_2 ji44 0 a0_0 a0_1 a0_2 a0_3 a0_4 l0_5 ((rd_T105 l0_5 x49_2).f0) ((rd_T105 l0_5 x49_2).f1) ((rd_T105 l0_5 x49_2).f2) ((rd_T105 l0_5 x49_2).f3) ((rd_T105 l0_5 x49_2).f4)) = some (r1, r2) := by first | (rw [hji44] at H; exact H) | (simp only [hji44] at H ⊢; exact H)
             have hji44_ : (IntKind.i64.wrap (1 * 2 ^ min a0_1.toNat 64)) = ji44 := hji44; have hji44z : a0_1 ≤ 64 → (IntKind.i64.wrap (1 * 2 ^ a0_1.toNat)) = ji44 := shl_small hji44
             have hji44u : (IntKind.i64.wrap (2 ^ min a0_1.toNat 64)) = ji44 := by have h_ := hji44_; rw [Int.one_mul] at h_; exact h_
             have hji44v : a0_1 ≤ 64 → (IntKind.i64.wrap (2 ^ a0_1.toNat)) = ji44 := fun hle_ => by have h_ := hji44z hle_; rw [Int.one_mul] at h_; exact h_
             have hji44y : (wrap64 (1 * 2 ^ min a0_1.toNat 64)) = ji44 := (i64_w _).symm.trans hji44_
             have hji44x : a0_1 ≤ 64 → (wrap64 (1 * 2 ^ a0_1.toNat)) = ji44 := fun h_ => (i64_w _).symm.trans (hji44z h_)
             have H' := Aside0.mk H; clear H
             have p175 : 0 ≤ (x49_2 : Int) := of_decide_eq_true (by first | (with_reducible assumption) | assumption)
             have q175 : x49_2 < (l0_5.length : Int) := of_decide_eq_true (by first | (with_reducible assumption) | assumption)
             obtain ⟨ad175, e175, hx175_0, hx175_1, hx175_2, hx175_3, hx175_4⟩ := at_T105 HR0_5.out x49_2 p175 q175
             cases e175
             replace hx175_0 := (HB.out.cell (World.block_lt_of_cell? w _ hx175_0)).trans hx175_0; replace hx175_1 := (HB.out.cell (World.block_lt_of_cell? w _ hx175_1)).trans hx175_1; replace hx175_2 := (HB.out.cell (World.block_lt_of_cell? w _ hx175_2)).trans hx175_2; replace hx175_3 := (HB.out.cell (World.block_lt_of_cell? w _ hx175_3)).trans hx175_3; replace hx175_4 := (HB.out.cell (World.block_lt_of_cell? w _ hx175_4)).trans hx175_4; replace p175 := eq_true p175; replace q175 := eq_true q175
             go_wp2_with (first | ((with_reducible refine gate_dst (N := 12) rfl ?_); refine box_event ?hg (N := 12) ?hd (cs := #[.int .i64 0, .int .i64 0, .int .i64 0, .int .i64 0, .int .i64 0]) (t := 105) ?hr ?_; (case hd => rfl); (case hg => rfl); (case hr => first | (go_simp; done) | (go_simp; rfl)); intro gb176 hg w45 hbox hb; have n0_ := Aside0.mk (Kd.S_below (by (with_reducible repeat (first | apply Kd.S_alloc | apply Kd.S_drewN | apply Kd.S_drew)); exact HO_8.out) hb); have n1_ := Aside0.mk (blk_below (bkA BK165.out) hb); have n2_ := Aside0.mk (below_step (blA HB.out) hb); have n3_ := Aside0.mk (hbox); have n4_ := Aside0.mk ((by rw [hg]; exact (below_size (blA HB.out)) : w.heap.size ≤ gb176)); have n5_ := Aside0.mk ((by rw [hg]; exact (below_size (blA HB.out)) : w.heap.size ≤ gb176)); have n6_ := Aside0.mk ((by rw [hg]; exact Nat.ne_of_lt (blk_lt (bkA BK165.out)) : gb165 ≠ gb176)); have n7_ := Aside0.mk ((by rw [hg]; exact Nat.ne_of_gt (blk_lt (bkA BK165.out)) : gb176 ≠ gb165)); clear HO_8; clear BK165; clear HB; have HO_8 := n0_; have BK165 := n1_; have HB := n2_; have BK176 := n3_; have GW176 := n4_; have GE176 := n5_; have NB165_176 := n6_; have NB176_165 := n7_; clear n0_ n1_ n2_ n3_ n4_ n5_ n6_ n7_; clear hb hbox hg; have hnb46 := NB176_165.out; have hnc46 := NB165_176.out; have hcz47 := fun i => blk_cell BK176.out i; have hfz47 := fun i => blk_frozen BK176.out i; have hcz48 := fun i => blk_cell BK165.out i; have hfz48 := fun i => blk_frozen BK165.out i; ))
             go_loopg [13, 14, 71] k2 (fun kq v13 v14 v71 w' => ∃ (x13_3 : List Int) (x14_3 : List Int) (x71_3 : Int), v71 = .int .i64 x71_3 ∧ Aside0 (witness_Run.l2 kq x8_2 x13_3 x14_3 l0_5 (l0_5.length : Int) x49_2 ji44 x71_3 a0_0 a0_1 a0_2 a0_3 a0_4 l0_5 ((rd_T105 l0_5 x49_2).f0) ((rd_T105 l0_5 x49_2).f1) ((rd_T105 l0_5 x49_2).f2) ((rd_T105 l0_5 x49_2).f3) ((rd_T105 l0_5 x49_2).f4) = some (r1, r2)) ∧ Aside0 (kq ≤ k2) ∧ Aside0 (Kd.S (Kd.slice 43 (Kd.int .u64)) 68 w' w.heap.size (fun k_ => some k_ ≠ (v13 : Value).ownBlock ∧ some k_ ≠ (v14 : Value).ownBlock) u8 x8_2) ∧ Aside0 (Kd.R (Kd.int .u64) 43 w' w.heap.size (fun k_ => some k_ ≠ (v14 : Value).ownBlock) v13 x13_3) ∧ Aside0 (Kd.R (Kd.int .u64) 43 w' w.heap.size (fun k_ => some k_ ≠ (v13 : Value).ownBlock) v14 x14_3) ∧ Aside0 (w'.heap[gb165]? = some (.cells #[.int .i64 a0_0, .int .i64 a0_1, .int .i64 a0_2, .int .i64 a0_3, .int .i64 a0_4, (.slice (some ad175) l0_5.length c0_5)] 24 (0, 0))) ∧ Aside0 (w'.heap[gb176]? = some (.cells #[.int .i64 ((rd_T105 l0_5 x49_2).f0), .int .i64 ((rd_T105 l0_5 x49_2).f1), .int .i64 ((rd_T105 l0_5 x49_2).f2), .int .i64 ((rd_T105 l0_5 x49_2).f3), .int .i64 ((rd_T105 l0_5 x49_2).f4)] 105 (0, 0))) ∧ Aside0 (Below w.heap.size w w'))
             case atStart => exact ⟨(([] : List Int)), (([] : List Int)), (0), eqA, H', ⟨Nat.le_refl _⟩, ⟨by (with_reducible repeat (first | apply Kd.S_alloc | apply Kd.S_drewN | apply Kd.S_drew)); exact Kd.S_mono (Kd.S_far (p := ⟨gb176, 4, none⟩) (Kd.S_far (p := ⟨gb176, 3, none⟩) (Kd.S_far (p := ⟨gb176, 2, none⟩) (Kd.S_far (p := ⟨gb176, 1, none⟩) (Kd.S_far (p := ⟨gb176, 0, none⟩) (Kd.S_types HO_8.out BK176.out (by decide)) (fun _ hk => hk.2) (.int .i64 ((rd_T105 l0_5 x49_2).f0))) (fun _ hk => hk.2) (.int .i64 ((rd_T105 l0_5 x49_2).f1))) (fun _ hk => hk.2) (.int .i64 ((rd_T105 l0_5 x49_2).f2))) (fun _ hk => hk.2) (.int .i64 ((rd_T105 l0_5 x49_2).f3))) (fun _ hk => hk.2) (.int .i64 ((rd_T105 l0_5 x49_2).f4))) (fun _ hk => ⟨(by simp [Value.ownBlock]), (by simp [Value.ownBlock])⟩)⟩, ⟨by first | exact Kd.R_nil _ _ _ _ _ | exact Kd.N_nil _ _ _ _ _ | exact Kd.V_nil _ _ _ _ _ | exact Kd.Q_nil _ _ _ _ _ | exact Kd.S_nil _ _ _ _ _⟩, ⟨by first | exact Kd.R_nil _ _ _ _ _ | exact Kd.N_nil _ _ _ _ _ | exact Kd.V_nil _ _ _ _ _ | exact Kd.Q_nil _ _ _ _ _ | exact Kd.S_nil _ _ _ _ _⟩, ⟨by refine bkA ?_; refine blk_far ?_ NB165_176.out _; refine bkA ?_; refine blk_far ?_ NB165_176.out _; refine bkA ?_; refine blk_far ?_ NB165_176.out _; refine bkA ?_; refine blk_far ?_ NB165_176.out _; refine bkA ?_; refine blk_far ?_ NB165_176.out _; refine bkA ?_; exact BK165.out⟩, ⟨by refine bkA ?_; refine blk_put (cs := #[.int .i64 ((rd_T105 l0_5 x49_2).f0), .int .i64 ((rd_T105 l0_5 x49_2).f1), .int .i64 ((rd_T105 l0_5 x49_2).f2), .int .i64 ((rd_T105 l0_5 x49_2).f3), .int .i64 0]) ?_ 4 _ rfl; refine bkA ?_; refine blk_put (cs := #[.int .i64 ((rd_T105 l0_5 x49_2).f0), .int .i64 ((rd_T105 l0_5 x49_2).f1), .int .i64 ((rd_T105 l0_5 x49_2).f2), .int .i64 0, .int .i64 0]) ?_ 3 _ rfl; refine bkA ?_; refine blk_put (cs := #[.int .i64 ((rd_T105 l0_5 x49_2).f0), .int .i64 ((rd_T105 l0_5 x49_2).f1), .int .i64 0, .int .i64 0, .int .i64 0]) ?_ 2 _ rfl; refine bkA ?_; refine blk_put (cs := #[.int .i64 ((rd_T105 l0_5 x49_2).f0), .int .i64 0, .int .i64 0, .int .i64 0, .int .i64 0]) ?_ 1 _ rfl; refine bkA ?_; refine blk_put (cs := #[.int .i64 0, .int .i64 0, .int .i64 0, .int .i64 0, .int .i64 0]) ?_ 0 _ rfl; refine bkA ?_; exact BK176.out⟩, ⟨blA HB.out⟩⟩
             case round =>
              clear H'; (try clear c1); (try clear p1); (try clear q1); (try clear hx1); (try clear c2); (try clear p2); (try clear c3); (try clear c4); (try clear c4b0); (try clear c4b1); (try clear c6); (try clear c6b0); (try clear c6b1); (try clear p6); (try clear c12); (try clear c12b0); (try clear c13); (try clear c13b0); (try clear c14); (try clear c14b0); (try clear c16); (try clear p16); (try clear q16); (try clear hx16); (try clear c17); (try clear p17); (try clear q17); (try clear hx17); (try clear c21); (try clear c21b0); (try clear c22); (try clear c22b0); (try clear c23); (try clear c23b0); (try clear c24); (try clear c24b0); (try clear c24b1); (try clear c25); (try clear c25b0); (try clear c26); (try clear c26b0); (try clear c27); (try clear c27b0); (try clear c28); (try clear c28b0); (try clear c30); (try clear c32); (try clear c38); (try clear c43); (try clear c43b0); (try clear c43b1); (try clear c46); (try clear hcz10); (try clear hcz20); (try clear hcz33); (try clear hcz39); (try clear hcz47); (try clear hcz48); (try clear hcz8); (try clear hfz10); (try clear hfz20); (try clear hfz33); (try clear hfz39); (try clear hfz47); (try clear hfz48); (try clear hfz8); (try clear hx168_0); (try clear hx175_0); (try clear hx175_1); (try clear hx175_2); (try clear hx175_3); (try clear hx175_4); (try clear hx177_0); (try clear hx178_0); (try clear p1); (try clear p16); (try clear p168); (try clear p175); (try clear p177); (try clear p178); (try clear p2); (try clear p6); (try clear q1); (try clear q16); (try clear q168); (try clear q175); (try clear q177); (try clear q178); obtain ⟨x13_3, x14_3, x71_3, rfl, HA, HK3, HO_8, HO_13, HO_14, BK165, BK176, HB⟩ := hrel
              cases gk with
              | zero => exact absurd HA.out (by simp [witness_Run.l2])
              | succ k3 =>
               have H := HA.out; clear HA
               simp only [witness_Run.l2] at H
               by_cases c49 : x71_3 < ji44
               ·rw [if_pos c49] at H
                have c49b0 : decide (x71_3 < ji44) = true := decide_eq_true c49; clear c49
                by_cases c50 : 0 ≤ ((rd_T105 l0_5 x49_2).f2)
                ·rw [if_pos c50] at H
                 have c50b0 : decide (0 ≤ ((rd_T105 l0_5 x49_2).f2)) = true := decide_eq_true c50; clear c50
                 by_cases c51 : ((rd_T105 l0_5 x49_2).f2) < (x8_2.length : Int)
                 ·rw [if_pos c51] at H
                  have c51b0 : decide (((rd_T105 l0_5 x49_2).f2) < (x8_2.length : Int)) = true := decide_eq_true c51; clear c51
                  by_cases c52 : 0 ≤ x71_3
                  ·rw [if_pos c52] at H
                   have c52b0 : decide (0 ≤ x71_3) = true := decide_eq_true c52; clear c52
                   by_cases c53 : x71_3 < ((rd_L4 x8_2 ((rd_T105 l0_5 x49_2).f2)).length : Int)
                   ·rw [if_pos c53] at H
                    have c53b0 : decide (x71_3 < ((rd_L4 x8_2 ((rd_T105 l0_5 x49_2).f2)).length : Int)) = true := decide_eq_true c53; clear c53
                    by_cases c54 : 0 ≤ ((rd_T105 l0_5 x49_2).f3)
                    ·rw [if_pos c54] at H
                     have c54b0 : decide (0 ≤ ((rd_T105 l0_5 x49_2).f3)) = true := decide_eq_true c54; clear c54
                     by_cases c55 : ((rd_T105 l0_5 x49_2).f3) < (x8_2.length : Int)
                     ·rw [if_pos c55] at H
                      have c55b0 : decide (((rd_T105 l0_5 x49_2).f3) < (x8_2.length : Int)) = true := decide_eq_true c55; clear c55
                      by_cases c56 : x71_3 < ((rd_L4 x8_2 ((rd_T105 l0_5 x49_2).f3)).length : Int)
                      ·rw [if_pos c56] at H
                       have c56b0 : decide (x71_3 < ((rd_L4 x8_2 ((rd_T105 l0_5 x49_2).f3)).length : Int)) = true := decide_eq_true c56; clear c56; replace H := Option.bind_eq_some_iff.mp H
                       obtain ⟨⟨t184, t185⟩, A570, H⟩ := H
                       replace H : (if x13_3.length < 17592186044416 then (if x14_3.length < 17592186044416 then (witness_Run.l2 k3 x8_2 (x13_3 ++ [t184]) (x14_3 ++ [t185]) l0_5 (l0_5.length : Int) x49_2 ji44 (wrap64 (x71_3 + 1)) a0_0 a0_1 a0_2 a0_3 a0_4 l0_5 ((rd_T105 l0_5 x49_2).f0) ((rd_T105 l0_5 x49_2).f1) ((rd_T105 l0_5 x49_2).f2) ((rd_T105 l0_5 x49_2).f3) ((rd_T105 l0_5 x49_2).f4)) else (none)) else (none)) = some (r1, r2) := H
                       have A57 := Aside0.mk A570; clear A570
                       by_cases c58 : x13_3.length < 17592186044416
                       ·rw [if_pos c58] at H
                        have LMc58 := Aside0.mk c58; clear c58
                        obtain ⟨y186, hy186⟩ : ∃ y_ : List Int, y_ = (x13_3 ++ [t184]) := ⟨_, rfl⟩
                        replace H : (if x14_3.length < 17592186044416 then (witness_Run.l2 k3 x8_2 y186 (x14_3 ++ [t185]) l0_5 (l0_5.length : Int) x49_2 ji44 (wrap64 (x71_3 + 1)) a0_0 a0_1 a0_2 a0_3 a0_4 l0_5 ((rd_T105 l0_5 x49_2).f0) ((rd_T105 l0_5 x49_2).f1) ((rd_T105 l0_5 x49_2).f2) ((rd_T105 l0_5 x49_2).f3) ((rd_T105 l0_5 x49_2).f4)) else (none)) = some (r1, r2) := by first | (rw [hy186]; with_reducible exact H) | (have H2_ := (Option.bind_some _ _).symm.trans H; rw [hy186]; with_reducible exact H2_) | (have H2_ := (Option.bind_some _ _).symm.trans H; with_reducible exact H2_) | with_reducible exact H | (rw [hy186]; exact H) | exact H
                        have Ny186 := Aside0.mk hy186; clear hy186
                        by_cases c59 : x14_3.length < 17592186044416
                        ·rw [if_pos c59] at H
                         have LMc59 := Aside0.mk c59; clear c59
                         obtain ⟨y189, hy189⟩ : ∃ y_ : List Int, y_ = (x14_3 ++ [t185]) := ⟨_, rfl⟩
                         replace H : (witness_Run.l2 k3 x8_2 y186 y189 l0_5 (l0_5.length : Int) x49_2 ji44 (wrap64 (x71_3 + 1)) a0_0 a0_1 a0_2 a0_3 a0_4 l0_5 ((rd_T105 l0_5 x49_2).f0) ((rd_T105 l0_5 x49_2).f1) ((rd_T105 l0_5 x49_2).f2) ((rd_T105 l0_5 x49_2).f3) ((rd_T105 l0_5 x49_2).f4)) = some (r1, r2) := by first | (rw [hy189]; with_reducible exact H) | (have H2_ := (Option.bind_some _ _).symm.trans H; rw [hy189]; with_reducible exact H2_) | (have H2_ := (Option.bind_some _ _).symm.trans H; with_reducible exact H2_) | with_reducible exact H | (rw [hy189]; exact H) | exact H
                         have Ny189 := Aside0.mk hy189; clear hy189; have H' := Aside0.mk H; clear H
                         try go_wp2
                         have n0_ := Aside0.mk (Kd.S_drew HO_8.out); have n1_ := Aside0.mk (Kd.R_drew HO_13.out); have n2_ := Aside0.mk (Kd.R_drew HO_14.out); have n3_ := Aside0.mk (blk_drew BK165.out); have n4_ := Aside0.mk (blk_drew BK176.out); have n5_ := Aside0.mk (below_drew1 HB.out); clear HO_8; clear HO_13; clear HO_14; clear BK165; clear BK176; clear HB; have HO_8 := n0_; have HO_13 := n1_; have HO_14 := n2_; have BK165 := n3_; have BK176 := n4_; have HB := n5_; clear n0_ n1_ n2_ n3_ n4_ n5_; obtain ⟨Ao61, co61, eo61⟩ := Kd.S_slice HO_8.out
                         (first | subst eo61 | (injection eo61 with f1_ f2_ f3_; have f4_ := f1_.symm; have f5_ := f3_.symm; clear f1_ f2_ f3_; subst f4_; subst f5_))
                         have p180 : 0 ≤ (((rd_T105 l0_5 x49_2).f2) : Int) := of_decide_eq_true (by first | (with_reducible assumption) | assumption)
                         have q180 : ((rd_T105 l0_5 x49_2).f2) < (x8_2.length : Int) := of_decide_eq_true (by first | (with_reducible assumption) | assumption)
                         obtain ⟨ad180, A180_0, c180_0, e180, hx180_0, hl180_0, hi180_0⟩ := at_L4 (Kd.S_reads' HO_8.out).2.2 ((rd_T105 l0_5 x49_2).f2) p180 q180
                         cases e180
                         obtain ⟨ce180, hce180, hMe180, hcc180⟩ := Kd.S_get HO_8.out [] ((rd_T105 l0_5 x49_2).f2) p180 (by first | exact q180 | exact of_decide_eq_true (by first | (with_reducible assumption) | assumption) | (have e_ := (Kd.S_reads' HO_8.out).1; omega))
                         obtain ⟨ve180_0, rfl, ge180_0⟩ := hMe180; have hv180_0 := hcc180 0 _ rfl
                         rw [Nat.add_zero, show ((Kd.slice 43 (Kd.int .u64))).sz = 1 from rfl, Nat.mul_one] at hv180_0
                         replace hv180_0 := Option.some.inj (hv180_0.symm.trans hx180_0)
                         rw [hv180_0] at ge180_0
                         have HL180_0 := Aside0.mk (show Kd.R (Kd.int .u64) 43 _ _ _ _ (rd_L4 x8_2 ((rd_T105 l0_5 x49_2).f2)) from ge180_0)
                         clear hv180_0 ge180_0; clear hcc180 hce180; have HR180_0 := Aside0.mk hi180_0; have HC180_0 := Aside0.mk hl180_0; clear hi180_0 hl180_0; replace p180 := eq_true p180; replace q180 := eq_true q180
                         have p181 : 0 ≤ (x71_3 : Int) := of_decide_eq_true (by first | (with_reducible assumption) | assumption)
                         have q181 : x71_3 < ((rd_L4 x8_2 ((rd_T105 l0_5 x49_2).f2)).length : Int) := of_decide_eq_true (by first | (with_reducible assumption) | assumption)
                         obtain ⟨ad181, e181, hx181_0⟩ := Kd.at_int (by repeat (first | (with_reducible exact HR180_0.out) | (with_reducible refine Kd.C_alloc ?_ _) | (with_reducible refine Kd.C_drewN ?_ _) | (with_reducible refine Kd.C_drew ?_) | exact HR180_0.out)) x71_3 p181 q181
                         cases e181
                         replace p181 := eq_true p181; replace q181 := eq_true q181
                         have p182 : 0 ≤ (((rd_T105 l0_5 x49_2).f3) : Int) := of_decide_eq_true (by first | (with_reducible assumption) | assumption)
                         have q182 : ((rd_T105 l0_5 x49_2).f3) < (x8_2.length : Int) := of_decide_eq_true (by first | (with_reducible assumption) | assumption)
                         obtain ⟨ad182, A182_0, c182_0, e182, hx182_0, hl182_0, hi182_0⟩ := at_L4 (Kd.S_reads' HO_8.out).2.2 ((rd_T105 l0_5 x49_2).f3) p182 q182
                         obtain rfl : ad180 = ad182 := (by injection e182)
                         obtain ⟨ce182, hce182, hMe182, hcc182⟩ := Kd.S_get HO_8.out [] ((rd_T105 l0_5 x49_2).f3) p182 (by first | exact q182 | exact of_decide_eq_true (by first | (with_reducible assumption) | assumption) | (have e_ := (Kd.S_reads' HO_8.out).1; omega))
                         obtain ⟨ve182_0, rfl, ge182_0⟩ := hMe182; have hv182_0 := hcc182 0 _ rfl
                         rw [Nat.add_zero, show ((Kd.slice 43 (Kd.int .u64))).sz = 1 from rfl, Nat.mul_one] at hv182_0
                         replace hv182_0 := Option.some.inj (hv182_0.symm.trans hx182_0)
                         rw [hv182_0] at ge182_0
                         have HL182_0 := Aside0.mk (show Kd.R (Kd.int .u64) 43 _ _ _ _ (rd_L4 x8_2 ((rd_T105 l0_5 x49_2).f3)) from ge182_0)
                         clear hv182_0 ge182_0; clear hcc182 hce182; have HR182_0 := Aside0.mk hi182_0; have HC182_0 := Aside0.mk hl182_0; clear hi182_0 hl182_0; replace p182 := eq_true p182; replace q182 := eq_true q182
                         have p183 : 0 ≤ (x71_3 : Int) := of_decide_eq_true (by first | (with_reducible assumption) | assumption)
                         have q183 : x71_3 < ((rd_L4 x8_2 ((rd_T105 l0_5 x49_2).f3)).length : Int) := of_decide_eq_true (by first | (with_reducible assumption) | assumption)
                         obtain ⟨ad183, e183, hx183_0⟩ := Kd.at_int (by repeat (first | (with_reducible exact HR182_0.out) | (with_reducible refine Kd.C_alloc ?_ _) | (with_reducible refine Kd.C_drewN ?_ _) | (with_reducible refine Kd.C_drew ?_) | exact HR182_0.out)) x71_3 p183 q183
                         cases e183
                         replace p183 := eq_true p183; replace q183 := eq_true q183
                         refine start_ (n := 24) (S := fun w' => w'.cell? ⟨gb165, 0, none⟩ = some (.int .i64 a0_0) ∧ w'.cell? ⟨gb165, 1, none⟩ = some (.int .i64 a0_1) ∧ w'.cell? ⟨gb165, 2, none⟩ = some (.int .i64 a0_2) ∧ w'.cell? ⟨gb165, 3, none⟩ = some (.int .i64 a0_3) ∧ w'.cell? ⟨gb165, 4, none⟩ = some (.int .i64 a0_4) ∧ w'.cell? ⟨gb165, 5, none⟩ = some (.slice (some ad175) l0_5.length c0_5) ∧ w'.cell? ⟨gb176, 0, none⟩ = some (.int .i64 ((rd_T105 l0_5 x49_2).f0)) ∧ w'.cell? ⟨gb176, 1, none⟩ = some (.int .i64 ((rd_T105 l0_5 x49_2).f1)) ∧ w'.cell? ⟨gb176, 2, none⟩ = some (.int .i64 ((rd_T105 l0_5 x49_2).f2)) ∧ w'.cell? ⟨gb176, 3, none⟩ = some (.int .i64 ((rd_T105 l0_5 x49_2).f3)) ∧ w'.cell? ⟨gb176, 4, none⟩ = some (.int .i64 ((rd_T105 l0_5 x49_2).f4)) ∧ w'.cell? (ad180.add (((rd_T105 l0_5 x49_2).f2)).toNat) = some (.slice (some ad181) (rd_L4 x8_2 ((rd_T105 l0_5 x49_2).f2)).length c180_0) ∧ w'.cell? (ad181.add (x71_3).toNat) = some (.int .u64 (rd (rd_L4 x8_2 ((rd_T105 l0_5 x49_2).f2)) x71_3)) ∧ w'.cell? (ad180.add (((rd_T105 l0_5 x49_2).f3)).toNat) = some (.slice (some ad183) (rd_L4 x8_2 ((rd_T105 l0_5 x49_2).f3)).length c182_0) ∧ w'.cell? (ad183.add (x71_3).toNat) = some (.int .u64 (rd (rd_L4 x8_2 ((rd_T105 l0_5 x49_2).f3)) x71_3))) (ds := []) #[false, false, false, false, false, false, false, false, false, false, false, false, false, false, false, false, false, false, false, false, false, false, false, false] (by kernel_rfl) rfl rfl ⟨(blk_cell BK165.out 0).trans rfl, (blk_cell BK165.out 1).trans rfl, (blk_cell BK165.out 2).trans rfl, (blk_cell BK165.out 3).trans rfl, (blk_cell BK165.out 4).trans rfl, (blk_cell BK165.out 5).trans rfl, (blk_cell BK176.out 0).trans rfl, (blk_cell BK176.out 1).trans rfl, (blk_cell BK176.out 2).trans rfl, (blk_cell BK176.out 3).trans rfl, (blk_cell BK176.out 4).trans rfl, hx180_0, hx181_0, hx182_0, hx183_0⟩ (fun hHeld => ?_); refine with_tabW witness_Run.tab23 witness_Run.bits23 (fun HT_ HW_ => ?_)
                         generalize wr.drew = w60 at HO_8 HO_13 HO_14 BK165 BK176 HB HL180_0 HL182_0 HR180_0 HR182_0 hx180_0 hx181_0 hx182_0 hx183_0 hHeld ⊢
                         refine pureA 2 (some 77) HT_.out ?_
                         refine pureA 3 (some 78) HT_.out ?_
                         refine pureA 7 (some 82) HT_.out ?_
                         refine pureA 10 (some 85) HT_.out ?_
                         refine pureA 11 (some 86) HT_.out ?_
                         refine pureA 15 (some 90) HT_.out ?_
                         refine takeA 0 (some 75) rfl HT_.out HW_.out hHeld (Or.inl ⟨by rfl, by rintro w' ⟨s0, s1, s2, s3, s4, s5, s6, s7, s8, s9, s10, s11, s12, s13, s14⟩; go_simp; with_reducible rfl⟩) ?_
                         refine takeA 1 (some 76) rfl HT_.out HW_.out hHeld (Or.inl ⟨by rfl, by rintro w' ⟨s0, s1, s2, s3, s4, s5, s6, s7, s8, s9, s10, s11, s12, s13, s14⟩; go_simp; with_reducible rfl⟩) ?_
                         refine takeA 4 (some 79) rfl HT_.out HW_.out hHeld (Or.inl ⟨by rfl, by rintro w' ⟨s0, s1, s2, s3, s4, s5, s6, s7, s8, s9, s10, s11, s12, s13, s14⟩; go_simp; with_reducible rfl⟩) ?_
                         refine pureA 5 (some 80) HT_.out ?_
                         refine takeA 6 (some 81) rfl HT_.out HW_.out hHeld (Or.inl ⟨by rfl, by rintro w' ⟨s0, s1, s2, s3, s4, s5, s6, s7, s8, s9, s10, s11, s12, s13, s14⟩; go_simp; with_reducible rfl⟩) ?_
                         refine pureA 8 (some 83) HT_.out ?_
                         refine takeA 9 (some 84) rfl HT_.out HW_.out hHeld (Or.inl ⟨by rfl, by rintro w' ⟨s0, s1, s2, s3, s4, s5, s6, s7, s8, s9, s10, s11, s12, s13, s14⟩; go_simp; with_reducible rfl⟩) ?_
                         refine takeA 12 (some 87) rfl HT_.out HW_.out hHeld (Or.inl ⟨by rfl, by rintro w' ⟨s0, s1, s2, s3, s4, s5, s6, s7, s8, s9, s10, s11, s12, s13, s14⟩; go_simp; with_reducible rfl⟩) ?_
                         refine pureA 13 (some 88) HT_.out ?_
                         refine takeA 14 (some 89) rfl HT_.out HW_.out hHeld (Or.inl ⟨by rfl, by rintro w' ⟨s0, s1, s2, s3, s4, s5, s6, s7, s8, s9, s10, s11, s12, s13, s14⟩; go_simp; with_reducible rfl⟩) ?_
                         refine pureA 16 (some 91) HT_.out ?_
                         refine takeA 17 (some 92) rfl HT_.out HW_.out hHeld (Or.inl ⟨by rfl, by rintro w' ⟨s0, s1, s2, s3, s4, s5, s6, s7, s8, s9, s10, s11, s12, s13, s14⟩; go_simp; with_reducible rfl⟩) ?_
                         refine one_ (i := 18) (N := some 93) #[true, true, true, true, true, true, true, true, true, true, true, true, true, true, true, true, true, true, true, false, false, false, false, false] rfl rfl (one_of HT_.out (by kernel_rfl)) (by decide) (fun K hK => ?_)
                         refine goes_ Try.func68 (by kernel_rfl) rfl #[.agg #[.int .i64 a0_0, .int .i64 a0_1, .int .i64 a0_2, .int .i64 a0_3, .int .i64 a0_4, .slice (some ad175) l0_5.length c0_5], .agg #[.int .i64 ((rd_T105 l0_5 x49_2).f0), .int .i64 ((rd_T105 l0_5 x49_2).f1), .int .i64 ((rd_T105 l0_5 x49_2).f2), .int .i64 ((rd_T105 l0_5 x49_2).f3), .int .i64 ((rd_T105 l0_5 x49_2).f4)], .int .u64 (rd (rd_L4 x8_2 ((rd_T105 l0_5 x49_2).f2)) x71_3), .int .u64 (rd (rd_L4 x8_2 ((rd_T105 l0_5 x49_2).f3)) x71_3)] (by rfl) rfl rfl gsA ?_
                         with_reducible refine (witness_made.calls a0_0 a0_1 a0_2 a0_3 a0_4 _ _ l0_5 ((rd_T105 l0_5 x49_2).f0) ((rd_T105 l0_5 x49_2).f1) ((rd_T105 l0_5 x49_2).f2) ((rd_T105 l0_5 x49_2).f3) ((rd_T105 l0_5 x49_2).f4) (rd (rd_L4 x8_2 ((rd_T105 l0_5 x49_2).f2)) x71_3) (rd (rd_L4 x8_2 ((rd_T105 l0_5 x49_2).f3)) x71_3) t184 t185 _ ?side1 ?side2 A57.out).mono ?_
                         (case side1 => repeat (first | exact (Kd.C_below HR0_5.out HB.out) | (with_reducible refine Kd.C_alloc ?_ _) | (with_reducible refine Kd.C_drewN ?_ _) | (with_reducible refine Kd.C_drew ?_)))
                         (case side2 => exact HC0_5.out)
                         rintro e w62 ⟨rfl, hb⟩
                         have HS11_ := (hb.cell (World.block_lt_of_cell? _ _ (hHeld.2.2.2.2.2.2.2.2.2.2.2.1))).trans (hHeld.2.2.2.2.2.2.2.2.2.2.2.1); have HS12_ := (hb.cell (World.block_lt_of_cell? _ _ (hHeld.2.2.2.2.2.2.2.2.2.2.2.2.1))).trans (hHeld.2.2.2.2.2.2.2.2.2.2.2.2.1); have HS13_ := (hb.cell (World.block_lt_of_cell? _ _ (hHeld.2.2.2.2.2.2.2.2.2.2.2.2.2.1))).trans (hHeld.2.2.2.2.2.2.2.2.2.2.2.2.2.1); have HS14_ := (hb.cell (World.block_lt_of_cell? _ _ (hHeld.2.2.2.2.2.2.2.2.2.2.2.2.2.2))).trans (hHeld.2.2.2.2.2.2.2.2.2.2.2.2.2.2)
                         refine ⟨_, rfl, ?_⟩
                         have n0_ := Aside0.mk (Kd.S_below (by (with_reducible repeat (first | apply Kd.S_alloc | apply Kd.S_drewN | apply Kd.S_drew)); exact HO_8.out) hb)
                         have n1_ := Aside0.mk (Kd.R_below (raA HO_13.out) hb)
                         have n2_ := Aside0.mk (Kd.R_below (raA HO_14.out) hb)
                         have n3_ := Aside0.mk (Kd.R_below (raA HL180_0.out) hb)
                         have n4_ := Aside0.mk (Kd.R_below (raA HL182_0.out) hb)
                         have n5_ := Aside0.mk (blk_below (bkA BK165.out) hb); have n6_ := Aside0.mk (blk_below (bkA BK176.out) hb)
                         have n7_ := Aside0.mk (Kd.C_below (by repeat (first | (with_reducible exact HR180_0.out) | (with_reducible refine Kd.C_alloc ?_ _) | (with_reducible refine Kd.C_drewN ?_ _) | (with_reducible refine Kd.C_drew ?_) | exact HR180_0.out)) hb)
                         have n8_ := Aside0.mk (Kd.C_below (by repeat (first | (with_reducible exact HR182_0.out) | (with_reducible refine Kd.C_alloc ?_ _) | (with_reducible refine Kd.C_drewN ?_ _) | (with_reducible refine Kd.C_drew ?_) | exact HR182_0.out)) hb)
                         have n9_ := Aside0.mk (below_step (blA HB.out) hb); clear HO_8; clear HO_13; clear HO_14; clear HL180_0; clear HL182_0; clear BK165; clear BK176; clear HR180_0; clear HR182_0; clear HB; have HO_8 := n0_; have HO_13 := n1_; have HO_14 := n2_; have HL180_0 := n3_; have HL182_0 := n4_; have BK165 := n5_; have BK176 := n6_; have HR180_0 := n7_; have HR182_0 := n8_; have HB := n9_; clear n0_ n1_ n2_ n3_ n4_ n5_ n6_ n7_ n8_ n9_
                         (try clear hb)
                         refine hK.out _ _ ⟨(blk_cell BK165.out 0).trans rfl, (blk_cell BK165.out 1).trans rfl, (blk_cell BK165.out 2).trans rfl, (blk_cell BK165.out 3).trans rfl, (blk_cell BK165.out 4).trans rfl, (blk_cell BK165.out 5).trans rfl, (blk_cell BK176.out 0).trans rfl, (blk_cell BK176.out 1).trans rfl, (blk_cell BK176.out 2).trans rfl, (blk_cell BK176.out 3).trans rfl, (blk_cell BK176.out 4).trans rfl, HS11_, HS12_, HS13_, HS14_⟩ (fun hHeld => ?_)
                         clear hK K
                         refine normA ?_
                         refine pureA 19 (some 74) HT_.out ?_
                         refine pureA 20 (some 94) HT_.out ?_
                         refine pureA 21 (some 95) HT_.out ?_
                         refine pureA 22 (some 16) HT_.out ?_
                         refine pureA 23 (some 17) HT_.out ?_
                         refine done_ (done_of HT_.out (by kernel_rfl)) ?_
                         try go_wp2_with (first | ((with_reducible refine gate_builtin (b := .append) (xs := #[.tmp 96, .tmp 98]) rfl ?_); at_builtin; refine Kd.R_append (Kd.int .u64) (w0 := w) w.heap.size rfl (.tmp 96) (.tmp 98) 68 43 (.int .u64 0) 8 rfl Try.underlying68 info43 rfl (by decide) (by omega) u13 x13_3 t184 [.int .u64 t184] (fun k_ => some k_ ≠ (u14 : Value).ownBlock) (fun _ => False) rfl rfl ?aP (fun _ hk => hk.elim) ?aF ?aO ?aB ?aS ?aL ?_; (case aP => exact rfl); (case aB => exact (blA HB.out)); (case aF => exact (fun k_ hk => Kd.fresh' (Kd.R_lt (raA HO_14.out)) k_ hk)); (case aO => exact (raA HO_13.out)); (case aS => exact (below_size (blA HB.out))); (case aL => have := LMc58.out; omega); intro v187 w63 ho hb hg hat; rw [← Ny186.out] at ho; have n0_ := Aside0.mk (Kd.S_after (ok := (fun k_ => some k_ ≠ (u14 : Value).ownBlock)) (by (with_reducible repeat (first | apply Kd.S_alloc | apply Kd.S_drewN | apply Kd.S_drew)); exact Kd.S_mono HO_8.out (fun _ hk => ⟨hk.2, hk.1⟩)) hg hat); have n1_ := Aside0.mk (Kd.R_after (ok := (fun _ => True)) (by (with_reducible repeat (first | apply Kd.R_alloc | apply Kd.R_drewN | apply Kd.R_drew)); exact Kd.R_mono HO_14.out (fun _ hk => ⟨trivial, hk⟩)) hg hat); have n2_ := Aside0.mk (blk_grown (bkA BK165.out) hg (Kd.R_ne HO_13.out BK165.out (by decide))); have n3_ := Aside0.mk (blk_grown (bkA BK176.out) hg (Kd.R_ne HO_13.out BK176.out (by decide))); have n4_ := Aside0.mk (Kd.R_after (ok := (fun k_ => some k_ ≠ (.slice (some ad180) x8_2.length co61 : Value).ownBlock ∧ some k_ ≠ (u14 : Value).ownBlock)) (by (with_reducible repeat (first | apply Kd.R_alloc | apply Kd.R_drewN | apply Kd.R_drew)); exact Kd.R_mono HL180_0.out (fun _ hk => ⟨⟨hk.2, hk.1.2⟩, hk.1.1⟩)) hg hat); have n5_ := Aside0.mk (Kd.R_after (ok := (fun k_ => some k_ ≠ (.slice (some ad180) x8_2.length co61 : Value).ownBlock ∧ some k_ ≠ (u14 : Value).ownBlock)) (by (with_reducible repeat (first | apply Kd.R_alloc | apply Kd.R_drewN | apply Kd.R_drew)); exact Kd.R_mono HL182_0.out (fun _ hk => ⟨⟨hk.2, hk.1.2⟩, hk.1.1⟩)) hg hat); have n6_ := Aside0.mk (hb); have n7_ := Aside0.mk (ho); clear HO_8; clear HO_14; clear BK165; clear BK176; clear HL180_0; clear HL182_0; clear HB; clear HO_13; have HO_8 := n0_; have HO_14 := n1_; have BK165 := n2_; have BK176 := n3_; have HL180_0 := n4_; have HL182_0 := n5_; have HB := n6_; have HO188 := n7_; clear n0_ n1_ n2_ n3_ n4_ n5_ n6_ n7_; clear ho hb hg hat) | ((with_reducible refine gate_builtin (b := .append) (xs := #[.tmp 100, .tmp 102]) rfl ?_); at_builtin; refine Kd.R_append (Kd.int .u64) (w0 := w) w.heap.size rfl (.tmp 100) (.tmp 102) 68 43 (.int .u64 0) 8 rfl Try.underlying68 info43 rfl (by decide) (by omega) u14 x14_3 t185 [.int .u64 t185] (fun k_ => some k_ ≠ (v187 : Value).ownBlock) (fun _ => False) rfl rfl ?aP (fun _ hk => hk.elim) ?aF ?aO ?aB ?aS ?aL ?_; (case aP => exact rfl); (case aB => exact (blA HB.out)); (case aF => exact (fun k_ hk => Kd.fresh' (Kd.R_lt (raA HO188.out)) k_ hk)); (case aO => exact (by (with_reducible repeat (first | apply Kd.R_alloc | apply Kd.R_drewN | apply Kd.R_drew)); exact Kd.R_mono HO_14.out (fun _ hk => hk.2))); (case aS => exact (below_size (blA HB.out))); (case aL => have := LMc59.out; omega); intro v190 w64 ho hb hg hat; rw [← Ny189.out] at ho; have n0_ := Aside0.mk (Kd.S_after (ok := (fun k_ => some k_ ≠ (v187 : Value).ownBlock)) (by (with_reducible repeat (first | apply Kd.S_alloc | apply Kd.S_drewN | apply Kd.S_drew)); exact Kd.S_mono HO_8.out (fun _ hk => ⟨hk.2, hk.1⟩)) hg hat); have n1_ := Aside0.mk (blk_grown (bkA BK165.out) hg (Kd.R_ne HO_14.out BK165.out (by decide))); have n2_ := Aside0.mk (blk_grown (bkA BK176.out) hg (Kd.R_ne HO_14.out BK176.out (by decide))); have n3_ := Aside0.mk (Kd.R_after (ok := (fun k_ => some k_ ≠ (.slice (some ad180) x8_2.length co61 : Value).ownBlock ∧ some k_ ≠ (v187 : Value).ownBlock)) (by (with_reducible repeat (first | apply Kd.R_alloc | apply Kd.R_drewN | apply Kd.R_drew)); exact Kd.R_mono HL180_0.out (fun _ hk => ⟨⟨hk.1.1, hk.2⟩, hk.1.2⟩)) hg hat); have n4_ := Aside0.mk (Kd.R_after (ok := (fun k_ => some k_ ≠ (.slice (some ad180) x8_2.length co61 : Value).ownBlock ∧ some k_ ≠ (v187 : Value).ownBlock)) (by (with_reducible repeat (first | apply Kd.R_alloc | apply Kd.R_drewN | apply Kd.R_drew)); exact Kd.R_mono HL182_0.out (fun _ hk => ⟨⟨hk.1.1, hk.2⟩, hk.1.2⟩)) hg hat); have n5_ := Aside0.mk (Kd.R_after (ok := (fun _ => True)) (by (with_reducible repeat (first | apply Kd.R_alloc | apply Kd.R_drewN | apply Kd.R_drew)); exact Kd.R_mono HO188.out (fun _ hk => ⟨trivial, hk⟩)) hg hat); have n6_ := Aside0.mk (hb); have n7_ := Aside0.mk (ho); clear HO_8; clear BK165; clear BK176; clear HL180_0; clear HL182_0; clear HO188; clear HB; clear HO_14; have HO_8 := n0_; have BK165 := n1_; have BK176 := n2_; have HL180_0 := n3_; have HL182_0 := n4_; have HO188 := n5_; have HB := n6_; have HO191 := n7_; clear n0_ n1_ n2_ n3_ n4_ n5_ n6_ n7_; clear ho hb hg hat))
                         go_roundg k3
                         case measure => have := HK1.out; have := HK2.out; have := HK3.out; omega
                         case rel => exact ⟨(y186), (y189), (wrap64 (x71_3 + 1)), eqA, H', ⟨by have := HK1.out; have := HK2.out; have := HK3.out; omega⟩, ⟨by (with_reducible repeat (first | apply Kd.S_alloc | apply Kd.S_drewN | apply Kd.S_drew)); exact HO_8.out⟩, ⟨by (with_reducible repeat (first | apply Kd.R_alloc | apply Kd.R_drewN | apply Kd.R_drew)); exact Kd.R_mono HO188.out (fun _ hk => hk.2)⟩, ⟨raA HO191.out⟩, ⟨bkA BK165.out⟩, ⟨bkA BK176.out⟩, ⟨blA HB.out⟩⟩
                        ·rw [if_neg c59] at H
                         exact absurd H (by simp)
                       ·rw [if_neg c58] at H
                        exact absurd H (by simp)
                      ·rw [if_neg c56] at H
                       exact absurd H (by simp)
                     ·rw [if_neg c55] at H
                      exact absurd H (by simp)
                    ·rw [if_neg c54] at H
                     exact absurd H (by simp)
                   ·rw [if_neg c53] at H
                    exact absurd H (by simp)
                  ·rw [if_neg c52] at H
                   exact absurd H (by simp)
                 ·rw [if_neg c51] at H
                  exact absurd H (by simp)
                ·rw [if_neg c50] at H
                 exact absurd H (by simp)
               ·rw [if_neg c49] at H
                have c49b0 : decide (x71_3 < ji44) = false := decide_eq_false c49; clear c49
                by_cases c65 : x8_2.length < 5864062014805
                ·rw [if_pos c65] at H
                 have LMc65 := Aside0.mk c65; clear c65
                 obtain ⟨y192, hy192⟩ : ∃ y_ : List (List Int), y_ = (x8_2 ++ [x13_3]) := ⟨_, rfl⟩
                 replace H : (if ((rd_T105 l0_5 x49_2).f0) = 7 then (if y192.length < 5864062014805 then (witness_Run.l1 k3 (y192 ++ [x14_3]) l0_5 (l0_5.length : Int) (wrap64 (x49_2 + 1)) a0_0 a0_1 a0_2 a0_3 a0_4 l0_5) else (none)) else (witness_Run.l1 k3 y192 l0_5 (l0_5.length : Int) (wrap64 (x49_2 + 1)) a0_0 a0_1 a0_2 a0_3 a0_4 l0_5)) = some (r1, r2) := by first | (rw [hy192]; with_reducible exact H) | (have H2_ := (Option.bind_some _ _).symm.trans H; rw [hy192]; with_reducible exact H2_) | (have H2_ := (Option.bind_some _ _).symm.trans H; with_reducible exact H2_) | with_reducible exact H | (rw [hy192]; exact H) | exact H
                 have Ny192 := Aside0.mk hy192; clear hy192
                 by_cases c66 : ((rd_T105 l0_5 x49_2).f0) = 7
                 ·rw [if_pos c66] at H
                  have c66b0 : (((rd_T105 l0_5 x49_2).f0) == 7) = true := beq_iff_eq.mpr c66; have c66b1 : (((rd_T105 l0_5 x49_2).f0) != 7) = false := bne_eq_false_iff_eq.mpr c66; clear c66
                  by_cases c67 : y192.length < 5864062014805
                  ·rw [if_pos c67] at H
                   have LMc67 := Aside0.mk c67; clear c67
                   obtain ⟨y195, hy195⟩ : ∃ y_ : List (List Int), y_ = (y192 ++ [x14_3]) := ⟨_, rfl⟩
                   replace H : (witness_Run.l1 k3 y195 l0_5 (l0_5.length : Int) (wrap64 (x49_2 + 1)) a0_0 a0_1 a0_2 a0_3 a0_4 l0_5) = some (r1, r2) := by first | (rw [hy195]; with_reducible exact H) | (have H2_ := (Option.bind_some _ _).symm.trans H; rw [hy195]; with_reducible exact H2_) | (have H2_ := (Option.bind_some _ _).symm.trans H; with_reducible exact H2_) | with_reducible exact H | (rw [hy195]; exact H) | exact H
                   have Ny195 := Aside0.mk hy195; clear hy195; have H' := Aside0.mk H; clear H; obtain ⟨Ao69, co69, eo69⟩ := Kd.R_slice HO_13.out; subst eo69
                   go_wp2_with (first | ((with_reducible refine gate_builtin (b := .append) (xs := #[.tmp 105, .tmp 107]) rfl ?_); at_builtin; refine Kd.S_append (Kd.slice 43 (Kd.int .u64)) (w0 := w) w.heap.size rfl (.tmp 105) (.tmp 107) 56 68 (.slice none 0 0) 24 rfl Try.underlying56 info68 rfl (by decide) (by omega) u8 x8_2 x13_3 [.slice Ao69 x13_3.length co69] (fun k_ => some k_ ≠ (u14 : Value).ownBlock) (fun k_ => some k_ = (.slice Ao69 x13_3.length co69 : Value).ownBlock) rfl rfl ?aP (fun k_ hk_ => ((Kd.R_mono (ok' := fun k_ => ((fun k_ => some k_ ≠ (u14 : Value).ownBlock)) k_ ∧ some k_ ≠ (u8 : Value).ownBlock) (Kd.R_apart' (HO_13.out) (Kd.S_typed HO_8.out) (by decide)) (fun k_ hk => ⟨hk.1, hk.2⟩))).1 k_ hk_.symm) ?aF ?aO ?aB ?aS ?aL ?_; (case aP => exact Kd.M_row (Kd.R_mono (Kd.R_tight rfl (Kd.R_mono (ok' := fun k_ => ((fun k_ => some k_ ≠ (u14 : Value).ownBlock)) k_ ∧ some k_ ≠ (u8 : Value).ownBlock) (Kd.R_apart' (HO_13.out) (Kd.S_typed HO_8.out) (by decide)) (fun k_ hk => ⟨hk.1, hk.2⟩))) (fun _ h_ => h_))); (case aB => exact (blA HB.out)); (case aF => exact (fun k_ hk => Kd.fresh' (Kd.R_lt (raA HO_14.out)) k_ hk)); (case aO => exact (by (with_reducible repeat (first | apply Kd.S_alloc | apply Kd.S_drewN | apply Kd.S_drew)); exact Kd.S_mono HO_8.out (fun k_ hk => ⟨hk.2, fun e_ => hk.1 e_⟩))); (case aS => exact (below_size (blA HB.out))); (case aL => have := LMc65.out; omega); intro v193 w68 ho hb hg hat; rw [← Ny192.out] at ho; have n0_ := Aside0.mk (Kd.R_over' (raA HO_14.out) (Kd.S_typed (by (with_reducible repeat (first | apply Kd.S_alloc | apply Kd.S_drewN | apply Kd.S_drew)); exact HO_8.out)) (by decide) hg); have n1_ := Aside0.mk (blk_grown (bkA BK165.out) hg (Kd.S_ne HO_8.out BK165.out (by decide))); have n2_ := Aside0.mk (blk_grown (bkA BK176.out) hg (Kd.S_ne HO_8.out BK176.out (by decide))); have n3_ := Aside0.mk (hb); have n4_ := Aside0.mk (ho); clear HO_14; clear BK165; clear BK176; clear HB; clear HO_8; clear HO_13; have HO_14 := n0_; have BK165 := n1_; have BK176 := n2_; have HB := n3_; have HO194 := n4_; clear n0_ n1_ n2_ n3_ n4_; clear ho hb hg hat; have hnb70 := NB176_165.out; have hnc70 := NB165_176.out; have hcz71 := fun i => blk_cell BK176.out i; have hfz71 := fun i => blk_frozen BK176.out i; obtain ⟨Ao73, co73, eo73⟩ := Kd.R_slice HO_14.out; subst eo73) | ((with_reducible refine gate_builtin (b := .append) (xs := #[.tmp 112, .tmp 114]) rfl ?_); at_builtin; refine Kd.S_append (Kd.slice 43 (Kd.int .u64)) (w0 := w) w.heap.size rfl (.tmp 112) (.tmp 114) 56 68 (.slice none 0 0) 24 rfl Try.underlying56 info68 rfl (by decide) (by omega) v193 y192 x14_3 [.slice Ao73 x14_3.length co73] (fun _ => True) (fun k_ => some k_ = (.slice Ao73 x14_3.length co73 : Value).ownBlock) rfl rfl ?aP (fun k_ hk_ => ((Kd.R_mono (ok' := fun k_ => ((fun _ => True)) k_ ∧ some k_ ≠ (v193 : Value).ownBlock) (Kd.R_apart' (HO_14.out) (Kd.S_typed HO194.out) (by decide)) (fun k_ hk => ⟨trivial, hk.2⟩))).1 k_ hk_.symm) ?aF ?aO ?aB ?aS ?aL ?_; (case aP => exact Kd.M_row (Kd.R_mono (Kd.R_tight rfl (Kd.R_mono (ok' := fun k_ => ((fun _ => True)) k_ ∧ some k_ ≠ (v193 : Value).ownBlock) (Kd.R_apart' (HO_14.out) (Kd.S_typed HO194.out) (by decide)) (fun k_ hk => ⟨trivial, hk.2⟩))) (fun _ h_ => h_))); (case aB => exact (blA HB.out)); (case aF => exact (fun _ _ => trivial)); (case aO => exact (by (with_reducible repeat (first | apply Kd.S_alloc | apply Kd.S_drewN | apply Kd.S_drew)); exact Kd.S_mono HO194.out (fun k_ hk => ⟨trivial, fun e_ => hk e_⟩))); (case aS => exact (below_size (blA HB.out))); (case aL => have := LMc67.out; omega); intro v196 w72 ho hb hg hat; rw [← Ny195.out] at ho; have n0_ := Aside0.mk (blk_grown (bkA BK165.out) hg (Kd.S_ne HO194.out BK165.out (by decide))); have n1_ := Aside0.mk (blk_grown (bkA BK176.out) hg (Kd.S_ne HO194.out BK176.out (by decide))); have n2_ := Aside0.mk (hb); have n3_ := Aside0.mk (ho); clear BK165; clear BK176; clear HB; clear HO194; clear HO_14; have BK165 := n0_; have BK176 := n1_; have HB := n2_; have HO197 := n3_; clear n0_ n1_ n2_ n3_; clear ho hb hg hat))
                   go_roundg k3
                   case measure => have := HK1.out; have := HK2.out; have := HK3.out; omega
                   case rel => exact ⟨(y195), (wrap64 (x49_2 + 1)), eqA, H', ⟨by have := HK1.out; have := HK2.out; have := HK3.out; omega⟩, ⟨by (with_reducible repeat (first | apply Kd.S_alloc | apply Kd.S_drewN | apply Kd.S_drew)); exact HO197.out⟩, ⟨bkA BK165.out⟩, ⟨blA HB.out⟩⟩
                  ·rw [if_neg c67] at H
                   exact absurd H (by simp)
                 ·rw [if_neg c66] at H
                  have c66b0 : (((rd_T105 l0_5 x49_2).f0) == 7) = false := beq_eq_false_iff_ne.mpr c66; have c66b1 : (((rd_T105 l0_5 x49_2).f0) != 7) = true := bne_iff_ne.mpr c66; have H' := Aside0.mk H; clear H; obtain ⟨Ao75, co75, eo75⟩ := Kd.R_slice HO_13.out; subst eo75
                  go_wp2_with (first | ((with_reducible refine gate_builtin (b := .append) (xs := #[.tmp 105, .tmp 107]) rfl ?_); at_builtin; refine Kd.S_append (Kd.slice 43 (Kd.int .u64)) (w0 := w) w.heap.size rfl (.tmp 105) (.tmp 107) 56 68 (.slice none 0 0) 24 rfl Try.underlying56 info68 rfl (by decide) (by omega) u8 x8_2 x13_3 [.slice Ao75 x13_3.length co75] (fun k_ => some k_ ≠ (u14 : Value).ownBlock) (fun k_ => some k_ = (.slice Ao75 x13_3.length co75 : Value).ownBlock) rfl rfl ?aP (fun k_ hk_ => ((Kd.R_mono (ok' := fun k_ => ((fun k_ => some k_ ≠ (u14 : Value).ownBlock)) k_ ∧ some k_ ≠ (u8 : Value).ownBlock) (Kd.R_apart' (HO_13.out) (Kd.S_typed HO_8.out) (by decide)) (fun k_ hk => ⟨hk.1, hk.2⟩))).1 k_ hk_.symm) ?aF ?aO ?aB ?aS ?aL ?_; (case aP => exact Kd.M_row (Kd.R_mono (Kd.R_tight rfl (Kd.R_mono (ok' := fun k_ => ((fun k_ => some k_ ≠ (u14 : Value).ownBlock)) k_ ∧ some k_ ≠ (u8 : Value).ownBlock) (Kd.R_apart' (HO_13.out) (Kd.S_typed HO_8.out) (by decide)) (fun k_ hk => ⟨hk.1, hk.2⟩))) (fun _ h_ => h_))); (case aB => exact (blA HB.out)); (case aF => exact (fun k_ hk => Kd.fresh' (Kd.R_lt (raA HO_14.out)) k_ hk)); (case aO => exact (by (with_reducible repeat (first | apply Kd.S_alloc | apply Kd.S_drewN | apply Kd.S_drew)); exact Kd.S_mono HO_8.out (fun k_ hk => ⟨hk.2, fun e_ => hk.1 e_⟩))); (case aS => exact (below_size (blA HB.out))); (case aL => have := LMc65.out; omega); intro v193 w74 ho hb hg hat; rw [← Ny192.out] at ho; have n0_ := Aside0.mk (Kd.R_over' (raA HO_14.out) (Kd.S_typed (by (with_reducible repeat (first | apply Kd.S_alloc | apply Kd.S_drewN | apply Kd.S_drew)); exact HO_8.out)) (by decide) hg); have n1_ := Aside0.mk (blk_grown (bkA BK165.out) hg (Kd.S_ne HO_8.out BK165.out (by decide))); have n2_ := Aside0.mk (blk_grown (bkA BK176.out) hg (Kd.S_ne HO_8.out BK176.out (by decide))); have n3_ := Aside0.mk (hb); have n4_ := Aside0.mk (ho); clear HO_14; clear BK165; clear BK176; clear HB; clear HO_8; clear HO_13; have HO_14 := n0_; have BK165 := n1_; have BK176 := n2_; have HB := n3_; have HO194 := n4_; clear n0_ n1_ n2_ n3_ n4_; clear ho hb hg hat; have hnb76 := NB176_165.out; have hnc76 := NB165_176.out; have hcz77 := fun i => blk_cell BK176.out i; have hfz77 := fun i => blk_frozen BK176.out i; ))
                  go_roundg k3
                  case measure => have := HK1.out; have := HK2.out; have := HK3.out; omega
                  case rel => exact ⟨(y192), (wrap64 (x49_2 + 1)), eqA, H', ⟨by have := HK1.out; have := HK2.out; have := HK3.out; omega⟩, ⟨by (with_reducible repeat (first | apply Kd.S_alloc | apply Kd.S_drewN | apply Kd.S_drew)); exact Kd.S_mono HO194.out (fun _ hk => trivial)⟩, ⟨bkA BK165.out⟩, ⟨blA HB.out⟩⟩
                ·rw [if_neg c65] at H
                 exact absurd H (by simp)
            ·rw [if_neg c43] at H
             exact absurd H (by simp)
          ·rw [if_neg c23] at H
           exact absurd H (by simp)
         ·rw [if_neg c22] at H
          exact absurd H (by simp)
        ·rw [if_neg c21] at H
         have c21b0 : decide (x49_2 < (l0_5.length : Int)) = false := decide_eq_false c21; clear c21; have H' := Aside0.mk H; clear H
         go_wp2
         go_loopg [8] k2 (fun kq v8 w' => ∃ (x8_3 : List (List Int)), Aside0 (witness_Run.l3 kq x8_3 a0_0 a0_1 a0_2 a0_3 a0_4 l0_5 = some (r1, r2)) ∧ Aside0 (kq ≤ k2) ∧ Aside0 (Kd.S (Kd.slice 43 (Kd.int .u64)) 68 w' w.heap.size (fun _ => True) v8 x8_3) ∧ Aside0 (w'.heap[gb165]? = some (.cells #[.int .i64 a0_0, .int .i64 a0_1, .int .i64 a0_2, .int .i64 a0_3, .int .i64 a0_4, (.slice A0_5 l0_5.length c0_5)] 24 (0, 0))) ∧ Aside0 (Below w.heap.size w w'))
         case atStart => exact ⟨(x8_2), H', ⟨Nat.le_refl _⟩, ⟨by (with_reducible repeat (first | apply Kd.S_alloc | apply Kd.S_drewN | apply Kd.S_drew)); exact HO_8.out⟩, ⟨bkA BK165.out⟩, ⟨blA HB.out⟩⟩
         case round =>
          clear H'; (try clear c1); (try clear p1); (try clear q1); (try clear hx1); (try clear c2); (try clear p2); (try clear c3); (try clear c4); (try clear c4b1); (try clear c5); (try clear c6); (try clear c6b0); (try clear c6b1); (try clear p6); (try clear c7); (try clear c12); (try clear c12b0); (try clear c13); (try clear c13b0); (try clear c14); (try clear c14b0); (try clear c16); (try clear p16); (try clear q16); (try clear hx16); (try clear c17); (try clear p17); (try clear q17); (try clear hx17); (try clear c18); (try clear p18); (try clear q18); (try clear hx18); (try clear c21); (try clear c21b0); (try clear c22); (try clear c22b0); (try clear c23); (try clear c23b0); (try clear c24); (try clear c24b0); (try clear c24b1); (try clear c25); (try clear c25b0); (try clear c26); (try clear c26b0); (try clear c27); (try clear c27b0); (try clear c28); (try clear c28b0); (try clear c30); (try clear c32); (try clear c38); (try clear c43); (try clear c43b0); (try clear c43b1); (try clear c46); (try clear c49); (try clear c49b0); (try clear c50); (try clear c50b0); (try clear c51); (try clear c51b0); (try clear c52); (try clear c52b0); (try clear c53); (try clear c53b0); (try clear c54); (try clear c54b0); (try clear c55); (try clear c55b0); (try clear c56); (try clear c56b0); (try clear c58); (try clear c59); (try clear p64); (try clear c65); (try clear c66); (try clear c66b0); (try clear c66b1); (try clear c67); (try clear c68); (try clear c70); (try clear c76); (try clear hcz10); (try clear hcz20); (try clear hcz33); (try clear hcz39); (try clear hcz47); (try clear hcz48); (try clear hcz71); (try clear hcz77); (try clear hcz8); (try clear hfz10); (try clear hfz20); (try clear hfz33); (try clear hfz39); (try clear hfz47); (try clear hfz48); (try clear hfz71); (try clear hfz77); (try clear hfz8); (try clear hx168_0); (try clear hx175_0); (try clear hx175_1); (try clear hx175_2); (try clear hx175_3); (try clear hx175_4); (try clear hx177_0); (try clear hx178_0); (try clear hx180_0); (try clear hx181_0); (try clear hx182_0); (try clear hx183_0); (try clear p1); (try clear p16); (try clear p168); (try clear p17); (try clear p175); (try clear p177); (try clear p178); (try clear p180); (try clear p181); (try clear p182); (try clear p183); (try clear p2); (try clear p6); (try clear q1); (try clear q16); (try clear q168); (try clear q17); (try clear q175); (try clear q177); (try clear q178); (try clear q180); (try clear q181); (try clear q182); (try clear q183); obtain ⟨x8_3, HA, HK3, HO_8, BK165, HB⟩ := hrel
          cases gk with
          | zero => exact absurd HA.out (by simp [witness_Run.l3])
          | succ k3 =>
           have H := HA.out; clear HA
           simp only [witness_Run.l3] at H
           by_cases c78 : 0 ≤ a0_2
           ·rw [if_pos c78] at H
            have c78b0 := eq_true c78; have c78b1 : decide (0 ≤ a0_2) = true := decide_eq_true c78; clear c78
            obtain ⟨ji79, hji79⟩ : ∃ j_ : Int, (shl .i64 1 a0_2) = j_ := ⟨_, rfl⟩
            replace H : (if (x8_3.length : Int) < (ji79) then (if 0 ≤ a0_1 then (if 0 ≤ (shl .i64 1 a0_1) then (if (shl .i64 1 a0_1 : Int).toNat ≤ 35184372088832 then (if x8_3.length < 5864062014805 then (witness_Run.l3 k3 (x8_3 ++ [(List.replicate (shl .i64 1 a0_1 : Int).toNat 0)]) a0_0 a0_1 a0_2 a0_3 a0_4 l0_5) else (none)) else (none)) else (none)) else (none)) else (some (x8_3, 0))) = some (r1, r2) := by first | (rw [hji79] at H; exact H) | (simp only [hji79] at H ⊢; exact H)
            have hji79_ : (IntKind.i64.wrap (1 * 2 ^ min a0_2.toNat 64)) = ji79 := hji79; have hji79z : a0_2 ≤ 64 → (IntKind.i64.wrap (1 * 2 ^ a0_2.toNat)) = ji79 := shl_small hji79
            have hji79u : (IntKind.i64.wrap (2 ^ min a0_2.toNat 64)) = ji79 := by have h_ := hji79_; rw [Int.one_mul] at h_; exact h_
            have hji79v : a0_2 ≤ 64 → (IntKind.i64.wrap (2 ^ a0_2.toNat)) = ji79 := fun hle_ => by have h_ := hji79z hle_; rw [Int.one_mul] at h_; exact h_
            have hji79y : (wrap64 (1 * 2 ^ min a0_2.toNat 64)) = ji79 := (i64_w _).symm.trans hji79_
            have hji79x : a0_2 ≤ 64 → (wrap64 (1 * 2 ^ a0_2.toNat)) = ji79 := fun h_ => (i64_w _).symm.trans (hji79z h_)
            by_cases c80 : (x8_3.length : Int) < (ji79)
            ·rw [if_pos c80] at H
             have c80b0 : decide ((x8_3.length : Int) < (ji79)) = true := decide_eq_true c80; clear c80
             by_cases c81 : 0 ≤ a0_1
             ·rw [if_pos c81] at H
              have c81b0 := eq_true c81; have c81b1 : decide (0 ≤ a0_1) = true := decide_eq_true c81; clear c81
              obtain ⟨ji82, hji82⟩ : ∃ j_ : Int, (shl .i64 1 a0_1) = j_ := ⟨_, rfl⟩
              replace H : (if 0 ≤ (ji82) then (if (ji82 : Int).toNat ≤ 35184372088832 then (if x8_3.length < 5864062014805 then (witness_Run.l3 k3 (x8_3 ++ [(List.replicate (ji82 : Int).toNat 0)]) a0_0 a0_1 a0_2 a0_3 a0_4 l0_5) else (none)) else (none)) else (none)) = some (r1, r2) := by first | (rw [hji82] at H; exact H) | (simp only [hji82] at H ⊢; exact H)
              have hji82_ : (IntKind.i64.wrap (1 * 2 ^ min a0_1.toNat 64)) = ji82 := hji82; have hji82z : a0_1 ≤ 64 → (IntKind.i64.wrap (1 * 2 ^ a0_1.toNat)) = ji82 := shl_small hji82
              have hji82u : (IntKind.i64.wrap (2 ^ min a0_1.toNat 64)) = ji82 := by have h_ := hji82_; rw [Int.one_mul] at h_; exact h_
              have hji82v : a0_1 ≤ 64 → (IntKind.i64.wrap (2 ^ a0_1.toNat)) = ji82 := fun hle_ => by have h_ := hji82z hle_; rw [Int.one_mul] at h_; exact h_
              have hji82y : (wrap64 (1 * 2 ^ min a0_1.toNat 64)) = ji82 := (i64_w _).symm.trans hji82_
              have hji82x : a0_1 ≤ 64 → (wrap64 (1 * 2 ^ a0_1.toNat)) = ji82 := fun h_ => (i64_w _).symm.trans (hji82z h_)
              by_cases c83 : 0 ≤ (ji82)
              ·rw [if_pos c83] at H
               have c83b0 := eq_true c83; have c83b1 : decide (0 ≤ (ji82)) = true := decide_eq_true c83; clear c83
               by_cases c84 : (ji82 : Int).toNat ≤ 35184372088832
               ·rw [if_pos c84] at H
                have c84b0 := eq_true c84; have c84b1 : decide ((ji82 : Int).toNat ≤ 35184372088832) = true := decide_eq_true c84; clear c84
                obtain ⟨y198, hy198⟩ : ∃ y_ : List Int, y_ = (List.replicate (ji82 : Int).toNat 0) := ⟨_, rfl⟩
                replace H : (if x8_3.length < 5864062014805 then (witness_Run.l3 k3 (x8_3 ++ [y198]) a0_0 a0_1 a0_2 a0_3 a0_4 l0_5) else (none)) = some (r1, r2) := by first | (rw [hy198]; with_reducible exact H) | (have H2_ := (Option.bind_some _ _).symm.trans H; rw [hy198]; with_reducible exact H2_) | (have H2_ := (Option.bind_some _ _).symm.trans H; with_reducible exact H2_) | with_reducible exact H | (rw [hy198]; exact H) | exact H
                have Ny198 := Aside0.mk hy198; clear hy198
                by_cases c85 : x8_3.length < 5864062014805
                ·rw [if_pos c85] at H
                 have LMc85 := Aside0.mk c85; clear c85
                 obtain ⟨y201, hy201⟩ : ∃ y_ : List (List Int), y_ = (x8_3 ++ [y198]) := ⟨_, rfl⟩
                 replace H : (witness_Run.l3 k3 y201 a0_0 a0_1 a0_2 a0_3 a0_4 l0_5) = some (r1, r2) := by first | (rw [hy201]; with_reducible exact H) | (have H2_ := (Option.bind_some _ _).symm.trans H; rw [hy201]; with_reducible exact H2_) | (have H2_ := (Option.bind_some _ _).symm.trans H; with_reducible exact H2_) | with_reducible exact H | (rw [hy201]; exact H) | exact H
                 have Ny201 := Aside0.mk hy201; clear hy201; have H' := Aside0.mk H; clear H; obtain ⟨Ao86, co86, eo86⟩ := Kd.S_slice HO_8.out; subst eo86
                 have hcz87 := fun i => blk_cell BK165.out i
                 have hfz87 := fun i => blk_frozen BK165.out i
                 go_wp2_with (first | ((with_reducible refine gate_dst (N := 127) rfl ?_); refine Kd.R_make (Kd.int .u64) _ 43 rfl (N := 127) rfl 68 _ _ rfl ji82 rfl rfl Try.underlying68 (.int .u64 0) 8 info43 rfl (by decide) (by omega) 0 (ok := fun _ => True) (okp := fun _ => True) rfl (fun _ hk => hk) trivial (of_decide_eq_true (by first | (with_reducible assumption) | assumption)) (Nat.le_trans (Nat.mul_le_mul_right _ (of_decide_eq_true (by first | (with_reducible assumption) | assumption) : ji82.toNat ≤ 35184372088832)) (by omega)) (Below.refl _ _) (Nat.le_refl _) ?_; intro v199 w88 ho89 hb hg_ hnew_; clear hg_ hnew_; (first | rw [← Ny198.out] at ho89 | (simp only [Int.reduceToNat] at ho89; rw [← Ny198.out] at ho89)); have n0_ := Aside0.mk (Kd.S_elder' (by (with_reducible repeat (first | apply Kd.S_alloc | apply Kd.S_drewN | apply Kd.S_drew)); exact HO_8.out) (Kd.R_base ho89) hb); have n1_ := Aside0.mk (Kd.R_lower ho89 (below_size (blA HB.out))); have n2_ := Aside0.mk (blk_below (bkA BK165.out) hb); have n3_ := Aside0.mk (below_step (blA HB.out) hb); clear HO_8; clear BK165; clear HB; have HO_8 := n0_; have HO200 := n1_; have BK165 := n2_; have HB := n3_; clear n0_ n1_ n2_ n3_; clear hb ho89; obtain ⟨Ao91, co91, eo91⟩ := Kd.R_slice HO200.out; subst eo91) | ((with_reducible refine gate_builtin (b := .append) (xs := #[.tmp 123, .tmp 128]) rfl ?_); at_builtin; refine Kd.S_append (Kd.slice 43 (Kd.int .u64)) (w0 := w) w.heap.size rfl (.tmp 123) (.tmp 128) 56 68 (.slice none 0 0) 24 rfl Try.underlying56 info68 rfl (by decide) (by omega) (.slice Ao86 x8_3.length co86) x8_3 y198 [.slice Ao91 y198.length co91] (fun _ => True) (fun k_ => some k_ = (.slice Ao91 y198.length co91 : Value).ownBlock) rfl rfl ?aP (fun k_ hk_ => ((Kd.R_mono (ok' := fun k_ => ((fun _ => True)) k_ ∧ some k_ ≠ (.slice Ao86 x8_3.length co86 : Value).ownBlock) (Kd.R_apart' (HO200.out) (Kd.S_typed HO_8.out) (by decide)) (fun k_ hk => ⟨trivial, hk.2⟩))).1 k_ hk_.symm) ?aF ?aO ?aB ?aS ?aL ?_; (case aP => exact Kd.M_row (Kd.R_mono (Kd.R_tight rfl (Kd.R_mono (ok' := fun k_ => ((fun _ => True)) k_ ∧ some k_ ≠ (.slice Ao86 x8_3.length co86 : Value).ownBlock) (Kd.R_apart' (HO200.out) (Kd.S_typed HO_8.out) (by decide)) (fun k_ hk => ⟨trivial, hk.2⟩))) (fun _ h_ => h_))); (case aB => exact (blA HB.out)); (case aF => exact (fun _ _ => trivial)); (case aO => exact (by (with_reducible repeat (first | apply Kd.S_alloc | apply Kd.S_drewN | apply Kd.S_drew)); exact Kd.S_mono HO_8.out (fun k_ hk => ⟨trivial, fun e_ => hk.2 e_⟩))); (case aS => exact (below_size (blA HB.out))); (case aL => have := LMc85.out; omega); intro v202 w90 ho hb hg hat; rw [← Ny201.out] at ho; have n0_ := Aside0.mk (blk_grown (bkA BK165.out) hg (Kd.S_ne HO_8.out BK165.out (by decide))); have n1_ := Aside0.mk (hb); have n2_ := Aside0.mk (ho); clear BK165; clear HB; clear HO_8; clear HO200; have BK165 := n0_; have HB := n1_; have HO203 := n2_; clear n0_ n1_ n2_; clear ho hb hg hat))
                 go_roundg k3
                 case measure => have := HK1.out; have := HK2.out; have := HK3.out; omega
                 case rel => exact ⟨(y201), H', ⟨by have := HK1.out; have := HK2.out; have := HK3.out; omega⟩, ⟨by (with_reducible repeat (first | apply Kd.S_alloc | apply Kd.S_drewN | apply Kd.S_drew)); exact HO203.out⟩, ⟨bkA BK165.out⟩, ⟨blA HB.out⟩⟩
                ·rw [if_neg c85] at H
                 exact absurd H (by simp)
               ·rw [if_neg c84] at H
                exact absurd H (by simp)
              ·rw [if_neg c83] at H
               exact absurd H (by simp)
             ·rw [if_neg c81] at H
              exact absurd H (by simp)
            ·rw [if_neg c80] at H
             have c80b0 : decide ((x8_3.length : Int) < (ji79)) = false := decide_eq_false c80; clear c80
             simp only [Option.some.injEq, Prod.mk.injEq] at H
             obtain ⟨rfl, rfl⟩ := H; obtain ⟨Ao92, co92, eo92⟩ := Kd.S_slice HO_8.out; subst eo92
             have hcz93 := fun i => blk_cell BK165.out i
             have hfz93 := fun i => blk_frozen BK165.out i
             go_wp2
             go_ret2
             exact ⟨_, by first | rfl | (simp [errW_none, errW_some] <;> rfl) | (simp only [← hji79]; first | rfl | (simp [errW_none, errW_some] <;> rfl)) | (simp [*, errW_none, errW_some] <;> rfl), by (with_reducible repeat (first | apply Kd.S_alloc | apply Kd.S_drewN | apply Kd.S_drew)); exact HO_8.out, blA HB.out⟩
           ·rw [if_neg c78] at H
            exact absurd H (by simp)
  ·rw [if_neg c6] at H
   have c6b0 : (t167 == 0) = false := beq_eq_false_iff_ne.mpr c6; have c6b1 : (t167 != 0) = true := bne_iff_ne.mpr c6
   simp only [Option.some.injEq, Prod.mk.injEq] at H
   obtain ⟨rfl, rfl⟩ := H
   go_enter Try.func28, Try.ntmps28
   go_wp2_with (first | ((with_reducible refine gate_dst (N := 2) rfl ?_); refine box_event ?hg (N := 2) ?hd (cs := #[.int .i64 a0_0, .int .i64 a0_1, .int .i64 a0_2, .int .i64 a0_3, .int .i64 a0_4, .slice A0_5 l0_5.length c0_5]) (t := 24) ?hr ?_; (case hd => rfl); (case hg => rfl); (case hr => first | (go_simp; done) | (go_simp; rfl)); intro gb165 hg w94 hbox hb; have n0_ := Aside0.mk (below_step (blA HB.out) hb); have n1_ := Aside0.mk (hbox); have n2_ := Aside0.mk ((by rw [hg]; exact (below_size (blA HB.out)) : w.heap.size ≤ gb165)); have n3_ := Aside0.mk ((by rw [hg]; exact (below_size (blA HB.out)) : w.heap.size ≤ gb165)); clear HB; have HB := n0_; have BK165 := n1_; have GW165 := n2_; have GE165 := n3_; clear n0_ n1_ n2_ n3_; clear hb hbox hg; have hcz95 := fun i => blk_cell BK165.out i; have hfz95 := fun i => blk_frozen BK165.out i; ) | ((with_reducible refine gate_callee (f := 21) rfl ?_); refine goesL_ (some 19) rfl rfl Try.func21 (by kernel_rfl) rfl #[.agg #[.int .i64 a0_0, .int .i64 a0_1, .int .i64 a0_2, .int .i64 a0_3, .int .i64 a0_4, .slice A0_5 l0_5.length c0_5]] rfl gsA ?_; (with_reducible refine (circuit_Check.calls k a0_0 a0_1 a0_2 a0_3 a0_4 _ _ l0_5 t166 _ ?side1 ?side2 A3.out).mono ?_); (case side1 => repeat (first | exact (Kd.C_below HR0_5.out HB.out) | (with_reducible refine Kd.C_alloc ?_ _) | (with_reducible refine Kd.C_drewN ?_ _) | (with_reducible refine Kd.C_drew ?_))); (case side2 => exact HC0_5.out); rintro e w96 ⟨rfl, hb⟩; refine ⟨_, rfl, ?_⟩; have n0_ := Aside0.mk (blk_below (bkA BK165.out) hb); have n1_ := Aside0.mk (below_step (blA HB.out) hb); clear BK165; clear HB; have BK165 := n0_; have HB := n1_; clear n0_ n1_; (try clear hb); have hcz97 := fun i => blk_cell BK165.out i; have hfz97 := fun i => blk_frozen BK165.out i; ) | ((with_reducible refine gate_callee (f := 65) rfl ?_); refine goesL_ (some 30) rfl rfl Try.func65 (by kernel_rfl) rfl #[.agg #[.int .i64 a0_0, .int .i64 a0_1, .int .i64 a0_2, .int .i64 a0_3, .int .i64 a0_4, .slice A0_5 l0_5.length c0_5], .slice A1 l1.length c1, .int .i64 (wrap64 (a0_3 + a0_4))] rfl gsA ?_; (with_reducible refine (witness_fits.calls a0_0 a0_1 a0_2 a0_3 a0_4 _ _ l0_5 _ _ l1 (wrap64 (a0_3 + a0_4)) t167 _ ?side1 ?side2 ?side3 ?side4 A5.out).mono ?_); (case side1 => repeat (first | exact (Kd.C_below HR0_5.out HB.out) | (with_reducible refine Kd.C_alloc ?_ _) | (with_reducible refine Kd.C_drewN ?_ _) | (with_reducible refine Kd.C_drew ?_))); (case side2 => exact HC0_5.out); (case side3 => repeat (first | exact (Kd.C_below HR1.out HB.out) | (with_reducible refine Kd.C_alloc ?_ _) | (with_reducible refine Kd.C_drewN ?_ _) | (with_reducible refine Kd.C_drew ?_))); (case side4 => exact HC1.out); rintro e w98 ⟨rfl, hb⟩; refine ⟨_, rfl, ?_⟩; have n0_ := Aside0.mk (blk_below (bkA BK165.out) hb); have n1_ := Aside0.mk (below_step (blA HB.out) hb); clear BK165; clear HB; have BK165 := n0_; have HB := n1_; clear n0_ n1_; (try clear hb)))
   go_ret2
   exact ⟨_, by first | rfl | (simp [errW_none, errW_some] <;> rfl) | (simp [*, errW_none, errW_some] <;> rfl), by first | exact Kd.S_nil _ _ _ _ _ | exact Kd.N_nil _ _ _ _ _ | exact Kd.V_nil _ _ _ _ _ | exact Kd.Q_nil _ _ _ _ _ | exact Kd.R_nil _ _ _ _ _, blA HB.out⟩
 ·rw [if_neg c4] at H
  have c4b0 : (t166 == 0) = false := beq_eq_false_iff_ne.mpr c4; have c4b1 : (t166 != 0) = true := bne_iff_ne.mpr c4
  simp only [Option.some.injEq, Prod.mk.injEq] at H
  obtain ⟨rfl, rfl⟩ := H
  go_enter Try.func28, Try.ntmps28
  go_wp2_with (first | ((with_reducible refine gate_dst (N := 2) rfl ?_); refine box_event ?hg (N := 2) ?hd (cs := #[.int .i64 a0_0, .int .i64 a0_1, .int .i64 a0_2, .int .i64 a0_3, .int .i64 a0_4, .slice A0_5 l0_5.length c0_5]) (t := 24) ?hr ?_; (case hd => rfl); (case hg => rfl); (case hr => first | (go_simp; done) | (go_simp; rfl)); intro gb165 hg w99 hbox hb; have n0_ := Aside0.mk (below_step (blA HB.out) hb); have n1_ := Aside0.mk (hbox); have n2_ := Aside0.mk ((by rw [hg]; exact (below_size (blA HB.out)) : w.heap.size ≤ gb165)); have n3_ := Aside0.mk ((by rw [hg]; exact (below_size (blA HB.out)) : w.heap.size ≤ gb165)); clear HB; have HB := n0_; have BK165 := n1_; have GW165 := n2_; have GE165 := n3_; clear n0_ n1_ n2_ n3_; clear hb hbox hg; have hcz100 := fun i => blk_cell BK165.out i; have hfz100 := fun i => blk_frozen BK165.out i; ) | ((with_reducible refine gate_callee (f := 21) rfl ?_); refine goesL_ (some 19) rfl rfl Try.func21 (by kernel_rfl) rfl #[.agg #[.int .i64 a0_0, .int .i64 a0_1, .int .i64 a0_2, .int .i64 a0_3, .int .i64 a0_4, .slice A0_5 l0_5.length c0_5]] rfl gsA ?_; (with_reducible refine (circuit_Check.calls k a0_0 a0_1 a0_2 a0_3 a0_4 _ _ l0_5 t166 _ ?side1 ?side2 A3.out).mono ?_); (case side1 => repeat (first | exact (Kd.C_below HR0_5.out HB.out) | (with_reducible refine Kd.C_alloc ?_ _) | (with_reducible refine Kd.C_drewN ?_ _) | (with_reducible refine Kd.C_drew ?_))); (case side2 => exact HC0_5.out); rintro e w101 ⟨rfl, hb⟩; refine ⟨_, rfl, ?_⟩; have n0_ := Aside0.mk (blk_below (bkA BK165.out) hb); have n1_ := Aside0.mk (below_step (blA HB.out) hb); clear BK165; clear HB; have BK165 := n0_; have HB := n1_; clear n0_ n1_; (try clear hb)))
  go_ret2
  exact ⟨_, by first | rfl | (simp [errW_none, errW_some] <;> rfl) | (simp [*, errW_none, errW_some] <;> rfl), by first | exact Kd.S_nil _ _ _ _ _ | exact Kd.N_nil _ _ _ _ _ | exact Kd.V_nil _ _ _ _ _ | exact Kd.Q_nil _ _ _ _ _ | exact Kd.R_nil _ _ _ _ _, blA HB.out⟩
end Go.Proofs.Ythiiodgpdoljoaa.PLw
