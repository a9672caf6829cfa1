import Derived.Test.YthiiodgpdoljoaaKo9
import Derived.Test.YthiiodgpdoljoaaKo2
import Derived.Test.YthiiodgpdoljoaaKo1
import Derived.Test.YthiiodgpdoljoaaKo4
import Derived.Test.YthiiodgpdoljoaaKo7
-- Words and walks that the kit's print has laid for this seat, cut down, and our own texts, merged.
namespace Go.Proofs.Ythiiodgpdoljoaa.Bit
open Go Go.RowKit Go.Proofs.Ythiiodgpdoljoaa.PLw Go.Proofs.YthiiodgpdoljoaaW.PrintWords Go.Proofs.YthiiodgpdoljoaaW.PrintLast Go.Proofs.YthiiodgpdoljoaaW.PrintMore
set_option linter.unusedVariables false
set_option linter.unusedSimpArgs false
theorem runG_good {w R C : Nat} {cols : Int} (hC : p2 cols = (C : Int)) : ∀ (l : List S105) (all all' : List (List Int)), runG w R l all = some all' → Good w R all → all.length ≤ C → (walk (w : Int) cols l (all.length : Int)).2 = 0 → Good w R all' ∧ all'.length ≤ C
  | [], all, all', h, G, ha, hw => by
    obtain rfl := Option.some.inj h
    exact ⟨G, ha⟩
  | g :: gs, all, all', h, G, ha, hw => by
    unfold walk at hw
    by_cases hg : gErr (w : Int) cols g (all.length : Int) = 0
    case neg => simp only [hg, if_false] at hw
    simp only [hg, if_true] at hw
    obtain ⟨f1, f8, f2, f2', f3, f3', f4, fd, f7, fs, fn⟩ := gate_facts hg (Int.natCast_nonneg _)
    clear hg
    unfold runG at h
    by_cases h8 : g.f0 = 8
    · have hm0 : makes g.f0 = 0 := by rw [h8]; rfl
      rw [hm0, Int.add_zero] at hw
      rw [if_pos h8] at h
      by_cases heq : rd_L4 all g.f2 = rd_L4 all g.f3
      · rw [if_pos heq] at h
        exact runG_good hC gs all all' h G ha hw
      · rw [if_neg heq] at h; cases h
    · rw [← new_len w R g all h8] at hw
      rw [hC] at fn
      rw [if_neg h8] at h
      exact runG_good hC gs _ all' h (good_new G g f2 f2' f3 f3') (tail_open w R C g all h8 fn).2 hw
theorem finish_lens {w R C : Nat} (hR : R ≤ 64) (hC : C ≤ 64) (o : Option (List (List Int))) (h : ∀ all, o = some all → Good w R all ∧ all.length ≤ C) : Lens 1000 1000 (finish C R o).1 := by
  cases o with
  | none => exact ⟨Nat.zero_le _, fun c hc => by cases hc⟩
  | some all =>
    obtain ⟨G, hl⟩ := h all rfl
    refine ⟨?_, fun c hc => ?_⟩
    · show (all ++ List.replicate (C - all.length) (List.replicate R 0)).length ≤ 1000
      rw [List.length_append, List.length_replicate]; omega
    · rcases List.mem_append.mp hc with hc | hc
      · rw [(G c hc).1]; omega
      · rw [(List.mem_replicate.mp hc).2, List.length_replicate]; omega
theorem same1 (a : List (List Int)) (hL : Lens 1000 1000 a) (i : Nat) (hi : i < a.length) (r : Bool) (h : Ev (fun k => steeplelaw27_same.l0 k a a ((i + 1 : Nat) : Int)) r) (d : Nat) : ∀ j : Nat, a[i].length - j = d → j ≤ a[i].length →
    Ev (fun k => steeplelaw27_same.l1 k a a (i : Int) (j : Int)) r := by
  obtain ⟨wi, iL, i0⟩ := stepW hi hL.1
  have hl := hL.2 _ (List.getElem_mem hi)
  have hrd := rdL_nat a i hi
  induction d with
  | zero =>
    intro j hd hj
    have hjR : j = a[i].length := Nat.le_antisymm hj (Nat.sub_eq_zero_iff_le.mp hd)
    refine Ev.step (fun k => ?_) h
    simp only [steeplelaw27_same.l1]
    rw [if_pos i0, if_pos iL, hrd, if_neg (by rw [hjR]; exact Int.lt_irrefl _), wi]
  | succ d ih =>
    intro j hd hj
    obtain ⟨s1, s2, s3⟩ := stepD hd
    obtain ⟨w1, jR, j0⟩ := stepW s1 hl
    refine Ev.step (fun k => ?_) (ih (j + 1) s2 s3)
    simp only [steeplelaw27_same.l1]
    rw [if_pos i0, if_pos iL, hrd, if_pos jR, if_pos j0, if_pos iL, if_pos jR, if_pos trivial, w1]
theorem same0 (a : List (List Int)) (hL : Lens 1000 1000 a) (d : Nat) : ∀ i : Nat, a.length - i = d → i ≤ a.length → Ev (fun k => steeplelaw27_same.l0 k a a (i : Int)) true := by
  induction d with
  | zero =>
    intro i hd hi
    have hiC : i = a.length := Nat.le_antisymm hi (Nat.sub_eq_zero_iff_le.mp hd)
    refine evFuel 1 fun m => ?_
    simp only [steeplelaw27_same.l0]
    rw [if_neg (by rw [hiC]; exact Int.lt_irrefl _)]
  | succ d ih =>
    intro i hd hi
    obtain ⟨s1, s2, s3⟩ := stepD hd
    obtain ⟨w1, iL, i0⟩ := stepW s1 hL.1
    refine Ev.step (fun k => ?_) (same1 a hL i s1 true (ih (i + 1) s2 s3) a[i].length 0 (Nat.sub_zero _) (Nat.zero_le _))
    simp only [steeplelaw27_same.l0]
    rw [if_pos iL, if_pos i0, if_pos iL, if_pos trivial]
    rfl
theorem same_refl (a : List (List Int)) (hL : Lens 1000 1000 a) : Ev (fun k => steeplelaw27_same.f k a a) true := by
  refine Ev.congr (fun k => ?_) (same0 a hL a.length 0 (Nat.sub_zero _) (Nat.zero_le _))
  unfold steeplelaw27_same.f
  rw [if_pos rfl]
  rfl
theorem words0 (n m : Nat) (a : List (List Int)) (hn : a.length ≤ 1000) (d : Nat) : ∀ i : Nat, a.length - i = d → i ≤ a.length → Ev (fun k => steeplelaw27_words.l0 k a (m : Int) (i : Int)) ((a.drop i).all fun c => decide (c.length ≤ m)) := by
  induction d with
  | zero =>
    intro i hd hi
    have hiC : i = a.length := Nat.le_antisymm hi (Nat.sub_eq_zero_iff_le.mp hd)
    refine evFuel 1 fun m => ?_
    simp only [steeplelaw27_words.l0]
    rw [if_neg (by rw [hiC]; exact Int.lt_irrefl _), List.drop_of_length_le (Nat.le_of_eq hiC.symm)]
    rfl
  | succ d ih =>
    intro i hd hi
    obtain ⟨s1, s2, s3⟩ := stepD hd
    obtain ⟨w1, iL, i0⟩ := stepW s1 hn
    by_cases hb : a[i].length ≤ m
    · refine Ev.step (fun k => ?_) (?_ : Ev (fun k => steeplelaw27_words.l0 k a (m : Int) ((i + 1 : Nat) : Int)) _)
      · simp only [steeplelaw27_words.l0]
        rw [if_pos iL, if_pos i0, rdL_nat a i s1, if_neg (by omega), w1]
      · rw [List.drop_eq_getElem_cons s1, List.all_cons, decide_eq_true hb, Bool.true_and]
        exact ih (i + 1) s2 s3
    · refine evFuel 1 fun k => ?_
      simp only [steeplelaw27_words.l0]
      rw [if_pos iL, if_pos i0, rdL_nat a i s1, if_pos (by omega), List.drop_eq_getElem_cons s1, List.all_cons, decide_eq_false hb, Bool.false_and]
theorem words_ev (n m : Nat) (hn : n ≤ 1000) (a : List (List Int)) : ∃ b, Ev (fun k => steeplelaw27_words.f k a (n : Int) (m : Int)) b ∧ (b = true → Lens n m a) := by
  by_cases h : a.length ≤ n
  · refine ⟨_, Ev.congr (fun k => ?_) (words0 n m a (Nat.le_trans h hn) a.length 0 (Nat.sub_zero _) (Nat.zero_le _)), fun hb => ⟨h, fun c hc => ?_⟩⟩
    · unfold steeplelaw27_words.f
      rw [if_neg (by omega)]
      rfl
    · rw [List.drop_zero] at hb
      exact of_decide_eq_true (List.all_eq_true.mp hb c hc)
  · refine ⟨false, evFuel 0 fun k => ?_, fun h => by cases h⟩
    unfold steeplelaw27_words.f
    rw [if_pos (by omega)]
theorem check_ev (wide rows cols pub priv : Int) (l : List S105) : Ev (fun k => circuit_Check.f k wide rows cols pub priv l) (lookS wide rows cols pub priv l).2 := evFuel 60 fun m => checkSpec m wide rows cols pub priv l
theorem refCheck_ev (wide rows cols pub priv : Int) (l : List S105) (hl : l.length ≤ 40) : Ev (fun k => steepleref25_Check.f k wide rows cols pub priv (l.map toG)) (lookS wide rows cols pub priv l).2 := evFuel 100 fun m => refCheck m wide rows cols pub priv l hl
theorem ref_ev (wide rows cols pub priv : Int) (l : List S105) (hl : l.length ≤ 40) : Ev (fun k => steeplelaw25_Ref.f k wide rows cols pub priv l) (wide, rows, cols, pub, priv, l.map toG) := evBig 41 fun m hm => refG m wide rows cols pub priv l (by omega) (by omega)
theorem few_ev (wide rows cols pub priv : Int) (l : List S105) : ∃ b, Ev (fun k => steeplelaw27_Few.f k wide rows cols pub priv l) b ∧ (b = true → l.length ≤ 40) := by
  unfold steeplelaw27_Few.f
  by_cases h : (l.length : Int) > 12
  · by_cases h2 : (l.length : Int) > 30
    · refine ⟨decide ((l.length : Int) ≤ 40), evFuel 0 fun k => ?_, fun hb => ?_⟩
      · simp only [h, h2, if_true]
      · have := of_decide_eq_true hb; omega
    · exact ⟨false, evFuel 0 fun k => by simp only [h, h2, if_true, if_false], fun h => by cases h⟩
  · have key : ∀ b, Ev (fun k => if (lookS wide rows cols pub priv l).2 = 0 then (if rows ≤ 2 then some (decide (cols ≤ 5)) else some false) else some true) b → Ev (fun k => if (l.length : Int) > 12 then (if (l.length : Int) > 30 then (some (decide ((l.length : Int) ≤ 40))) else (some false)) else ((steeplelaw25_Ref.f k wide rows cols pub priv l).bind fun bt129 => ((steepleref25_Check.f k bt129.1 bt129.2.1 bt129.2.2.1 bt129.2.2.2.1 bt129.2.2.2.2.1 bt129.2.2.2.2.2).bind fun t137 => (if t137 = 0 then (if rows ≤ 2 then (some (decide (cols ≤ 5))) else (some false)) else (some true))))) b := by
      intro b hb
      simp only [h, if_false]
      refine Ev.bind (ref_ev wide rows cols pub priv l (by omega)) ?_
      exact Ev.bind (refCheck_ev wide rows cols pub priv l (by omega)) hb
    by_cases h0 : (lookS wide rows cols pub priv l).2 = 0
    · by_cases h2 : rows ≤ 2
      · exact ⟨_, key _ (by simp only [h0, h2, if_true]; exact Ev.now _), fun _ => by omega⟩
      · exact ⟨_, key _ (by simp only [h0, h2, if_true, if_false]; exact Ev.now _), fun _ => by omega⟩
    · exact ⟨_, key _ (by simp only [h0, if_false]; exact Ev.now _), fun _ => by omega⟩
theorem awake_ev : Ev (fun k => steeplelaw27_awake.f k) true := Ev.of (k := 100) (fun k => steeplelaw27_awake.mono k) (by kernel_rfl)
end Go.Proofs.Ythiiodgpdoljoaa.Bit
namespace Go.Proofs.Ythiiodgpdoljoaa.PLw
open Go.RowKit Go.Proofs.YthiiodgpdoljoaaW.PrintWords Go.Proofs.YthiiodgpdoljoaaW.PrintLast Go.Proofs.YthiiodgpdoljoaaW.PrintMore
attribute [local go_sem] max2_int min2_int max_two min_two max_three min_three max_four min_four   -- for this text's walks alone
set_option linter.unusedVariables false
set_option linter.unusedSimpArgs false
/-! ### witness_holds: function 73 -/
def witness_holds.l0 : Nat → List (List Int) → Int → Int → Int → Int → Int → Int → Int → List (S105) → Int → Int → Int → Int → Int → Option (Bool)
 | 0, _, _, _, _, _, _, _, _, _, _, _, _, _, _ => none
 | k + 1, x1, x26, x27, x356000, x356001, x356002, x356003, x356004, x356005, x357000, x357001, x357002, x357003, x357004 => if x27 < x26 then (if 0 ≤ x357002 then (if x357002 < (x1.length : Int) then (if 0 ≤ x27 then (if x27 < ((rd_L4 x1 x357002).length : Int) then (if 0 ≤ x357003 then (if x357003 < (x1.length : Int) then (if x27 < ((rd_L4 x1 x357003).length : Int) then ((witness_made.f x356000 x356001 x356002 x356003 x356004 x356005 x357000 x357001 x357002 x357003 x357004 (rd (rd_L4 x1 x357002) x27) (rd (rd_L4 x1 x357003) x27)).bind fun bt364 => (if 0 ≤ x357001 then (if x357001 < (x1.length : Int) then (if x27 < ((rd_L4 x1 x357001).length : Int) then (if (rd (rd_L4 x1 x357001) x27) = bt364.1 then (if x357000 = 7 then (if 0 ≤ x357004 then (if x357004 < (x1.length : Int) then (if x27 < ((rd_L4 x1 x357004).length : Int) then (if (rd (rd_L4 x1 x357004) x27) = bt364.2 then (witness_holds.l0 k x1 x26 (wrap64 (x27 + 1)) x356000 x356001 x356002 x356003 x356004 x356005 x357000 x357001 x357002 x357003 x357004) else (some false)) else (none)) else (none)) else (none)) else (witness_holds.l0 k x1 x26 (wrap64 (x27 + 1)) x356000 x356001 x356002 x356003 x356004 x356005 x357000 x357001 x357002 x357003 x357004)) else (some false)) else (none)) else (none)) else (none))) else (none)) else (none)) else (none)) else (none)) else (none)) else (none)) else (none)) else (some true)
def witness_holds.f (k : Nat) (a0_0 : Int) (a0_1 : Int) (a0_2 : Int) (a0_3 : Int) (a0_4 : Int) (l0_5 : List (S105)) (l1 : List (List Int)) (a2_0 : Int) (a2_1 : Int) (a2_2 : Int) (a2_3 : Int) (a2_4 : Int) : Option (Bool) := if a2_0 = 8 then (if 0 ≤ a2_2 then (if a2_2 < (l1.length : Int) then (if 0 ≤ a2_3 then (if a2_3 < (l1.length : Int) then ((slices_Equal_uint64_uint64.f k (rd_L4 l1 a2_2) (rd_L4 l1 a2_3)).bind fun t359 => (some t359)) else (none)) else (none)) else (none)) else (none)) else (if 0 ≤ a0_1 then (witness_holds.l0 k l1 (shl .i64 1 a0_1) 0 a0_0 a0_1 a0_2 a0_3 a0_4 l0_5 a2_0 a2_1 a2_2 a2_3 a2_4) else (none))
theorem witness_holds.mono_l : ∀ k, (∀ y0 y1 y2 y3 y4 y5 y6 y7 y8 y9 y10 y11 y12 y13, LeO (witness_holds.l0 k y0 y1 y2 y3 y4 y5 y6 y7 y8 y9 y10 y11 y12 y13) (witness_holds.l0 (k + 1) y0 y1 y2 y3 y4 y5 y6 y7 y8 y9 y10 y11 y12 y13))
 | 0 => fun _ _ _ _ _ _ _ _ _ _ _ _ _ _ r h => by simp [witness_holds.l0] at h
 | k + 1 => by
  have ih0 := witness_holds.mono_l k
  ·intro y0 y1 y2 y3 y4 y5 y6 y7 y8 y9 y10 y11 y12 y13
   unfold witness_holds.l0
   repeat' first
   | (with_reducible exact ih0 _ _ _ _ _ _ _ _ _ _ _ _ _ _)
   | (with_reducible exact slices_Equal_uint64_uint64.mono _ _ _)
   | (with_reducible exact LeO.refl _)
   | (with_reducible exact LeO.none _)
   | (with_reducible refine LeO.ite ?_ ?_)
   | (with_reducible refine LeO.bind ?_ (fun _ => ?_))
   | exact ih0 _ _ _ _ _ _ _ _ _ _ _ _ _ _
   | exact slices_Equal_uint64_uint64.mono _ _ _
   | exact LeO.none _
   | refine LeO.ite ?_ ?_
   | refine LeO.bind ?_ (fun _ => ?_)
theorem witness_holds.mono : ∀ a0 a1 a2 a3 a4 a5 a6 a7 a8 a9 a10 a11 k, LeO (witness_holds.f k a0 a1 a2 a3 a4 a5 a6 a7 a8 a9 a10 a11) (witness_holds.f (k + 1) a0 a1 a2 a3 a4 a5 a6 a7 a8 a9 a10 a11) := by
 intro a0 a1 a2 a3 a4 a5 a6 a7 a8 a9 a10 a11 k
 have ih0 := witness_holds.mono_l k
 unfold witness_holds.f
 repeat' first
   | (with_reducible exact ih0 _ _ _ _ _ _ _ _ _ _ _ _ _ _)
   | (with_reducible exact slices_Equal_uint64_uint64.mono _ _ _)
   | (with_reducible exact LeO.refl _)
   | (with_reducible exact LeO.none _)
   | (with_reducible refine LeO.ite ?_ ?_)
   | (with_reducible refine LeO.bind ?_ (fun _ => ?_))
   | exact ih0 _ _ _ _ _ _ _ _ _ _ _ _ _ _
   | exact slices_Equal_uint64_uint64.mono _ _ _
   | exact LeO.none _
   | refine LeO.ite ?_ ?_
   | refine LeO.bind ?_ (fun _ => ?_)
def witness_holds.T2 : Bool × List (List Nat × List Nat) := (true, [([], []), ([], []), ([1], [1]), ([0, 2], [0, 2]), ([3], [3]), ([], []), ([], []), ([6], [6]), ([5, 7], [5, 7]), ([8], [8]), ([4, 9], [4, 9]), ([10, 10, 0, 1, 2, 3, 4, 5, 6, 7, 8, 9, 10], [10])])
def witness_holds.B2 : List Nat := [0, 0, 2, 7, 15, 0, 0, 64, 224, 480, 1023, 2047]
theorem witness_holds.tab2 : rtab .any (opsOf Try.f73 2) = witness_holds.T2 := by kernel_rfl
theorem witness_holds.bits2 : waitsOk witness_holds.T2.2 witness_holds.B2 = true := by kernel_rfl
def witness_holds.T6 : Bool × List (List Nat × List Nat) := (true, [([], []), ([], []), ([], []), ([], []), ([3], [3]), ([2, 4], [2, 4]), ([5], [5]), ([], []), ([6, 7], [6, 7]), ([8], [8]), ([], []), ([], []), ([11], [11]), ([10, 12], [10, 12]), ([13], [13]), ([], []), ([14, 15], [14, 15]), ([16], [16]), ([0, 1, 9, 17], [0, 1, 9, 17]), ([18], [18]), ([19], [19]), ([19], [19]), ([20, 18, 0, 1, 2, 3, 4, 5, 6, 7, 8, 9, 10, 11, 12, 13, 14, 15, 16, 17, 18, 19, 20], [20]), ([21, 22, 0, 1, 2, 3, 4, 5, 6, 7, 8, 9, 10, 11, 12, 13, 14, 15, 16, 17, 18, 19, 20, 21, 22], [21])])
def witness_holds.B6 : List Nat := [0, 0, 0, 0, 8, 28, 60, 0, 252, 508, 0, 0, 2048, 7168, 15360, 0, 64512, 130048, 262143, 524287, 1048575, 1048575, 2097151, 8388607]
theorem witness_holds.tab6 : rtab .any (opsOf Try.f73 6) = witness_holds.T6 := by kernel_rfl
theorem witness_holds.bits6 : waitsOk witness_holds.T6.2 witness_holds.B6 = true := by kernel_rfl
set_option maxHeartbeats 8000000 in
set_option maxRecDepth 100000 in
theorem witness_holds.calls (k : Nat) (a0_0 : Int) (a0_1 : Int) (a0_2 : Int) (a0_3 : Int) (a0_4 : Int) (A0_5 : Option Addr) (c0_5 : Nat) (l0_5 : List (S105)) (A1 : Option Addr) (c1 : Nat) (l1 : List (List Int)) (a2_0 : Int) (a2_1 : Int) (a2_2 : Int) (a2_3 : Int) (a2_4 : Int) (r : Bool) (w : World) (hr0_5 : Kd.C k105 w A0_5 l0_5.length l0_5) (hc0_5 : l0_5.length ≤ c0_5) (hr1 : Kd.C (Kd.slice 43 (Kd.int .u64)) w A1 l1.length l1) (hc1 : l1.length ≤ c1) (h : witness_holds.f k a0_0 a0_1 a0_2 a0_3 a0_4 l0_5 l1 a2_0 a2_1 a2_2 a2_3 a2_4 = some r) :
  Calls Try.prog 73 #[.agg #[.int .i64 a0_0, .int .i64 a0_1, .int .i64 a0_2, .int .i64 a0_3, .int .i64 a0_4, .slice A0_5 l0_5.length c0_5], .slice A1 l1.length c1, .agg #[.int .i64 a2_0, .int .i64 a2_1, .int .i64 a2_2, .int .i64 a2_3, .int .i64 a2_4]] w fun e w' => e = .returned (.bool r) ∧ Below w.heap.size w w' := by
 have hu24 := Try.underlying24; have hu105 := Try.underlying105; have HR0_5 := Aside0.mk hr0_5; have HC0_5 := Aside0.mk hc0_5; clear hr0_5 hc0_5; have HR1 := Aside0.mk hr1; have HC1 := Aside0.mk hc1; clear hr1 hc1; have HB := Aside0.mk (Below.refl w.heap.size w)
 have H : (if a2_0 = 8 then (if 0 ≤ a2_2 then (if a2_2 < (l1.length : Int) then (if 0 ≤ a2_3 then (if a2_3 < (l1.length : Int) then ((slices_Equal_uint64_uint64.f k (rd_L4 l1 a2_2) (rd_L4 l1 a2_3)).bind fun t359 => (some t359)) else (none)) else (none)) else (none)) else (none)) else (if 0 ≤ a0_1 then (witness_holds.l0 k l1 (shl .i64 1 a0_1) 0 a0_0 a0_1 a0_2 a0_3 a0_4 l0_5 a2_0 a2_1 a2_2 a2_3 a2_4) else (none))) = some r := h
 clear h
 by_cases c4 : a2_0 = 8
 ·rw [if_pos c4] at H
  have c4b0 : (a2_0 == 8) = true := beq_iff_eq.mpr c4; have c4b1 : (a2_0 != 8) = false := bne_eq_false_iff_eq.mpr c4; clear c4
  by_cases c5 : 0 ≤ a2_2
  ·rw [if_pos c5] at H
   have c5b0 : decide (0 ≤ a2_2) = true := decide_eq_true c5; clear c5
   by_cases c6 : a2_2 < (l1.length : Int)
   ·rw [if_pos c6] at H
    have c6b0 : decide (a2_2 < (l1.length : Int)) = true := decide_eq_true c6; clear c6
    by_cases c7 : 0 ≤ a2_3
    ·rw [if_pos c7] at H
     have c7b0 : decide (0 ≤ a2_3) = true := decide_eq_true c7; clear c7
     by_cases c8 : a2_3 < (l1.length : Int)
     ·rw [if_pos c8] at H
      have c8b0 : decide (a2_3 < (l1.length : Int)) = true := decide_eq_true c8; clear c8; replace H := Option.bind_eq_some_iff.mp H; obtain ⟨t359, A90, H⟩ := H; replace H : (some t359) = some r := H; have A9 := Aside0.mk A90; clear A90; obtain rfl := Option.some.inj H
      go_enter Try.func73, Try.ntmps73
      try go_wp2_with (first | ((with_reducible refine gate_dst (N := 3) rfl ?_); refine box_event ?hg (N := 3) ?hd (cs := #[.int .i64 a0_0, .int .i64 a0_1, .int .i64 a0_2, .int .i64 a0_3, .int .i64 a0_4, .slice A0_5 l0_5.length c0_5]) (t := 24) ?hr ?_; (case hd => rfl); (case hg => rfl); (case hr => first | (go_simp; done) | (go_simp; rfl)); intro gb355 hg w10 hbox hb; have n0_ := Aside0.mk (below_step (blA HB.out) hb); have n1_ := Aside0.mk (hbox); have n2_ := Aside0.mk ((by rw [hg]; exact (below_size (blA HB.out)) : w.heap.size ≤ gb355)); have n3_ := Aside0.mk ((by rw [hg]; exact (below_size (blA HB.out)) : w.heap.size ≤ gb355)); clear HB; have HB := n0_; have BK355 := n1_; have GW355 := n2_; have GE355 := n3_; clear n0_ n1_ n2_ n3_; clear hb hbox hg) | ((with_reducible refine gate_dst (N := 5) rfl ?_); refine box_event ?hg (N := 5) ?hd (cs := #[.int .i64 a2_0, .int .i64 a2_1, .int .i64 a2_2, .int .i64 a2_3, .int .i64 a2_4]) (t := 105) ?hr ?_; (case hd => rfl); (case hg => rfl); (case hr => first | (go_simp; done) | (go_simp; rfl)); intro gb356 hg w11 hbox hb; have n0_ := Aside0.mk (blk_below (bkA BK355.out) hb); have n1_ := Aside0.mk (below_step (blA HB.out) hb); have n2_ := Aside0.mk (hbox); have n3_ := Aside0.mk ((by rw [hg]; exact (below_size (blA HB.out)) : w.heap.size ≤ gb356)); have n4_ := Aside0.mk ((by rw [hg]; exact (below_size (blA HB.out)) : w.heap.size ≤ gb356)); have n5_ := Aside0.mk ((by rw [hg]; exact Nat.ne_of_lt (blk_lt (bkA BK355.out)) : gb355 ≠ gb356)); have n6_ := Aside0.mk ((by rw [hg]; exact Nat.ne_of_gt (blk_lt (bkA BK355.out)) : gb356 ≠ gb355)); clear BK355; clear HB; have BK355 := n0_; have HB := n1_; have BK356 := n2_; have GW356 := n3_; have GE356 := n4_; have NB355_356 := n5_; have NB356_355 := n6_; clear n0_ n1_ n2_ n3_ n4_ n5_ n6_; clear hb hbox hg; have hnb12 := NB356_355.out; have hnc12 := NB355_356.out; have hcz13 := fun i => blk_cell BK356.out i; have hfz13 := fun i => blk_frozen BK356.out i; ))
      have n0_ := Aside0.mk (blk_drew BK355.out); have n1_ := Aside0.mk (blk_drew BK356.out); have n2_ := Aside0.mk (below_drew1 HB.out); clear BK355; clear BK356; clear HB; have BK355 := n0_; have BK356 := n1_; have HB := n2_; clear n0_ n1_ n2_
      have p357 : 0 ≤ (a2_2 : Int) := of_decide_eq_true (by first | (with_reducible assumption) | assumption)
      have q357 : a2_2 < (l1.length : Int) := of_decide_eq_true (by first | (with_reducible assumption) | assumption)
      obtain ⟨ad357, A357_0, c357_0, e357, hx357_0, hl357_0, hi357_0⟩ := at_L4 HR1.out a2_2 p357 q357; have hw357_0 := hx357_0
      cases e357
      replace hx357_0 := (HB.out.cell (World.block_lt_of_cell? w _ hx357_0)).trans hx357_0; have HR357_0 := Aside0.mk hi357_0; have HC357_0 := Aside0.mk hl357_0; clear hi357_0 hl357_0; replace p357 := eq_true p357; replace q357 := eq_true q357
      have p358 : 0 ≤ (a2_3 : Int) := of_decide_eq_true (by first | (with_reducible assumption) | assumption)
      have q358 : a2_3 < (l1.length : Int) := of_decide_eq_true (by first | (with_reducible assumption) | assumption)
      obtain ⟨ad358, A358_0, c358_0, e358, hx358_0, hl358_0, hi358_0⟩ := at_L4 HR1.out a2_3 p358 q358; have hw358_0 := hx358_0
      obtain rfl : ad357 = ad358 := (by injection e358)
      replace hx358_0 := (HB.out.cell (World.block_lt_of_cell? w _ hx358_0)).trans hx358_0; have HR358_0 := Aside0.mk hi358_0; have HC358_0 := Aside0.mk hl358_0; clear hi358_0 hl358_0; replace p358 := eq_true p358; replace q358 := eq_true q358
      refine start_ (n := 12) (S := fun w' => w'.cell? ⟨gb356, 0, none⟩ = some (.int .i64 a2_0) ∧ w'.cell? ⟨gb356, 1, none⟩ = some (.int .i64 a2_1) ∧ w'.cell? ⟨gb356, 2, none⟩ = some (.int .i64 a2_2) ∧ w'.cell? ⟨gb356, 3, none⟩ = some (.int .i64 a2_3) ∧ w'.cell? ⟨gb356, 4, none⟩ = some (.int .i64 a2_4) ∧ w'.cell? (ad357.add (a2_2).toNat) = some (.slice A357_0 (rd_L4 l1 a2_2).length c357_0) ∧ w'.cell? (ad357.add (a2_3).toNat) = some (.slice A358_0 (rd_L4 l1 a2_3).length c358_0)) (ds := []) #[false, false, false, false, false, false, false, false, false, false, false, false] (by kernel_rfl) rfl rfl ⟨(blk_cell BK356.out 0).trans rfl, (blk_cell BK356.out 1).trans rfl, (blk_cell BK356.out 2).trans rfl, (blk_cell BK356.out 3).trans rfl, (blk_cell BK356.out 4).trans rfl, (clA HB.out hw357_0), (clA HB.out hw358_0)⟩ (fun hHeld => ?_); refine with_tabW witness_holds.tab2 witness_holds.bits2 (fun HT_ HW_ => ?_)
      generalize w11.drew = w14 at BK355 BK356 HB HR357_0 HR358_0 hx357_0 hx358_0 hHeld ⊢
      refine pureA 0 (some 13) HT_.out ?_
      refine pureA 1 (some 14) HT_.out ?_
      refine pureA 5 (some 18) HT_.out ?_
      refine pureA 6 (some 19) HT_.out ?_
      refine takeA 2 (some 15) rfl HT_.out HW_.out hHeld (Or.inl ⟨by rfl, by rintro w' ⟨s0, s1, s2, s3, s4, s5, s6⟩; go_simp; with_reducible rfl⟩) ?_
      refine pureA 3 (some 16) HT_.out ?_
      refine takeA 4 (some 17) rfl HT_.out HW_.out hHeld (Or.inl ⟨by rfl, by rintro w' ⟨s0, s1, s2, s3, s4, s5, s6⟩; go_simp; with_reducible rfl⟩) ?_
      refine takeA 7 (some 20) rfl HT_.out HW_.out hHeld (Or.inl ⟨by rfl, by rintro w' ⟨s0, s1, s2, s3, s4, s5, s6⟩; go_simp; with_reducible rfl⟩) ?_
      refine pureA 8 (some 21) HT_.out ?_
      refine takeA 9 (some 22) rfl HT_.out HW_.out hHeld (Or.inl ⟨by rfl, by rintro w' ⟨s0, s1, s2, s3, s4, s5, s6⟩; go_simp; with_reducible rfl⟩) ?_
      refine one_ (i := 10) (N := some 23) #[true, true, true, true, true, true, true, true, true, true, true, false] rfl rfl (one_of HT_.out (by kernel_rfl)) (by decide) (fun K hK => ?_)
      refine goes_ Try.func67 (by kernel_rfl) rfl #[.slice A357_0 (rd_L4 l1 a2_2).length c357_0, .slice A358_0 (rd_L4 l1 a2_3).length c358_0] (by rfl) rfl rfl gsA ?_
      with_reducible refine (slices_Equal_uint64_uint64.calls k _ _ (rd_L4 l1 a2_2) _ _ (rd_L4 l1 a2_3) t359 _ ?side1 ?side2 ?side3 ?side4 A9.out).mono ?_
      (case side1 => repeat (first | exact (Kd.C_below HR357_0.out HB.out) | (with_reducible refine Kd.C_alloc ?_ _) | (with_reducible refine Kd.C_drewN ?_ _) | (with_reducible refine Kd.C_drew ?_)))
      (case side2 => exact HC357_0.out)
      (case side3 => repeat (first | exact (Kd.C_below HR358_0.out HB.out) | (with_reducible refine Kd.C_alloc ?_ _) | (with_reducible refine Kd.C_drewN ?_ _) | (with_reducible refine Kd.C_drew ?_)))
      (case side4 => exact HC358_0.out)
      rintro e w' ⟨rfl, ⟨nd, rfl⟩⟩
      refine ⟨_, rfl, ?_⟩
      refine hK.out _ _ ⟨(blk_cell BK356.out 0).trans rfl, (blk_cell BK356.out 1).trans rfl, (blk_cell BK356.out 2).trans rfl, (blk_cell BK356.out 3).trans rfl, (blk_cell BK356.out 4).trans rfl, (clA (blA HB.out) hw357_0), (clA (blA HB.out) hw358_0)⟩ (fun hHeld => ?_)
      clear hK K
      refine normA ?_
      refine pureA 11 (some 6) HT_.out ?_
      refine done_ (done_of HT_.out (by kernel_rfl)) ?_
      try go_wp2
      go_ret
      exact ⟨by first | rfl | (simp [errW_none, errW_some] <;> rfl) | (simp [*, errW_none, errW_some] <;> rfl), blA HB.out⟩
     ·rw [if_neg c8] at H
      exact absurd H (by simp)
    ·rw [if_neg c7] at H
     exact absurd H (by simp)
   ·rw [if_neg c6] at H
    exact absurd H (by simp)
  ·rw [if_neg c5] at H
   exact absurd H (by simp)
 ·rw [if_neg c4] at H
  have c4b0 : (a2_0 == 8) = false := beq_eq_false_iff_ne.mpr c4; have c4b1 : (a2_0 != 8) = true := bne_iff_ne.mpr c4
  by_cases c15 : 0 ≤ a0_1
  ·rw [if_pos c15] at H
   have c15b0 := eq_true c15; have c15b1 : decide (0 ≤ a0_1) = true := decide_eq_true c15; clear c15
   obtain ⟨ji16, hji16⟩ : ∃ j_ : Int, (shl .i64 1 a0_1) = j_ := ⟨_, rfl⟩
   replace H : (witness_holds.l0 k l1 ji16 0 a0_0 a0_1 a0_2 a0_3 a0_4 l0_5 a2_0 a2_1 a2_2 a2_3 a2_4) = some r := by first | (rw [hji16] at H; exact H) | (simp only [hji16] at H ⊢; exact H)
   have hji16_ : (IntKind.i64.wrap (1 * 2 ^ min a0_1.toNat 64)) = ji16 := hji16; have hji16z : a0_1 ≤ 64 → (IntKind.i64.wrap (1 * 2 ^ a0_1.toNat)) = ji16 := shl_small hji16
   have hji16u : (IntKind.i64.wrap (2 ^ min a0_1.toNat 64)) = ji16 := by have h_ := hji16_; rw [Int.one_mul] at h_; exact h_
   have hji16v : a0_1 ≤ 64 → (IntKind.i64.wrap (2 ^ a0_1.toNat)) = ji16 := fun hle_ => by have h_ := hji16z hle_; rw [Int.one_mul] at h_; exact h_
   have hji16y : (wrap64 (1 * 2 ^ min a0_1.toNat 64)) = ji16 := (i64_w _).symm.trans hji16_
   have hji16x : a0_1 ≤ 64 → (wrap64 (1 * 2 ^ a0_1.toNat)) = ji16 := fun h_ => (i64_w _).symm.trans (hji16z h_)
   have H' := Aside0.mk H; clear H
   go_enter Try.func73, Try.ntmps73
   go_wp2_with (first | ((with_reducible refine gate_dst (N := 3) rfl ?_); refine box_event ?hg (N := 3) ?hd (cs := #[.int .i64 a0_0, .int .i64 a0_1, .int .i64 a0_2, .int .i64 a0_3, .int .i64 a0_4, .slice A0_5 l0_5.length c0_5]) (t := 24) ?hr ?_; (case hd => rfl); (case hg => rfl); (case hr => first | (go_simp; done) | (go_simp; rfl)); intro gb355 hg w17 hbox hb; have n0_ := Aside0.mk (below_step (blA HB.out) hb); have n1_ := Aside0.mk (hbox); have n2_ := Aside0.mk ((by rw [hg]; exact (below_size (blA HB.out)) : w.heap.size ≤ gb355)); have n3_ := Aside0.mk ((by rw [hg]; exact (below_size (blA HB.out)) : w.heap.size ≤ gb355)); clear HB; have HB := n0_; have BK355 := n1_; have GW355 := n2_; have GE355 := n3_; clear n0_ n1_ n2_ n3_; clear hb hbox hg) | ((with_reducible refine gate_dst (N := 5) rfl ?_); refine box_event ?hg (N := 5) ?hd (cs := #[.int .i64 a2_0, .int .i64 a2_1, .int .i64 a2_2, .int .i64 a2_3, .int .i64 a2_4]) (t := 105) ?hr ?_; (case hd => rfl); (case hg => rfl); (case hr => first | (go_simp; done) | (go_simp; rfl)); intro gb356 hg w18 hbox hb; have n0_ := Aside0.mk (blk_below (bkA BK355.out) hb); have n1_ := Aside0.mk (below_step (blA HB.out) hb); have n2_ := Aside0.mk (hbox); have n3_ := Aside0.mk ((by rw [hg]; exact (below_size (blA HB.out)) : w.heap.size ≤ gb356)); have n4_ := Aside0.mk ((by rw [hg]; exact (below_size (blA HB.out)) : w.heap.size ≤ gb356)); have n5_ := Aside0.mk ((by rw [hg]; exact Nat.ne_of_lt (blk_lt (bkA BK355.out)) : gb355 ≠ gb356)); have n6_ := Aside0.mk ((by rw [hg]; exact Nat.ne_of_gt (blk_lt (bkA BK355.out)) : gb356 ≠ gb355)); clear BK355; clear HB; have BK355 := n0_; have HB := n1_; have BK356 := n2_; have GW356 := n3_; have GE356 := n4_; have NB355_356 := n5_; have NB356_355 := n6_; clear n0_ n1_ n2_ n3_ n4_ n5_ n6_; clear hb hbox hg; have hnb19 := NB356_355.out; have hnc19 := NB355_356.out; have hcz20 := fun i => blk_cell BK356.out i; have hfz20 := fun i => blk_frozen BK356.out i; have hcz21 := fun i => blk_cell BK355.out i; have hfz21 := fun i => blk_frozen BK355.out i; ))
   go_loopg [27] k (fun kq v27 w' => ∃ (x27_1 : Int), v27 = .int .i64 x27_1 ∧ Aside0 (witness_holds.l0 kq l1 ji16 x27_1 a0_0 a0_1 a0_2 a0_3 a0_4 l0_5 a2_0 a2_1 a2_2 a2_3 a2_4 = some r) ∧ Aside0 (kq ≤ k) ∧ Aside0 (w'.heap[gb355]? = some (.cells #[.int .i64 a0_0, .int .i64 a0_1, .int .i64 a0_2, .int .i64 a0_3, .int .i64 a0_4, (.slice A0_5 l0_5.length c0_5)] 24 (0, 0))) ∧ Aside0 (w'.heap[gb356]? = some (.cells #[.int .i64 a2_0, .int .i64 a2_1, .int .i64 a2_2, .int .i64 a2_3, .int .i64 a2_4] 105 (0, 0))) ∧ Aside0 (Below w.heap.size w w'))
   case atStart => exact ⟨(0), eqA, H', ⟨Nat.le_refl _⟩, ⟨bkA BK355.out⟩, ⟨bkA BK356.out⟩, ⟨blA HB.out⟩⟩
   case round =>
    clear H'; (try clear c1); (try clear p2); (try clear c3); (try clear p3); (try clear q3); (try clear hx3); (try clear c4); (try clear c4b0); (try clear c4b1); (try clear c5); (try clear c5b0); (try clear c6); (try clear c6b0); (try clear p6); (try clear c7); (try clear c7b0); (try clear c8); (try clear c8b0); (try clear c12); (try clear c15); (try clear c15b0); (try clear c15b1); (try clear c19); (try clear hcz13); (try clear hcz20); (try clear hcz21); (try clear hfz13); (try clear hfz20); (try clear hfz21); (try clear hx357_0); (try clear hx358_0); (try clear p357); (try clear p358); (try clear q357); (try clear q358); obtain ⟨x27_1, rfl, HA, HK1, BK355, BK356, HB⟩ := hrel
    cases gk with
    | zero => exact absurd HA.out (by simp [witness_holds.l0])
    | succ k1 =>
     have H := HA.out; clear HA
     simp only [witness_holds.l0] at H
     by_cases c22 : x27_1 < ji16
     ·rw [if_pos c22] at H
      have c22b0 : decide (x27_1 < ji16) = true := decide_eq_true c22; clear c22
      by_cases c23 : 0 ≤ a2_2
      ·rw [if_pos c23] at H
       have c23b0 : decide (0 ≤ a2_2) = true := decide_eq_true c23; clear c23
       by_cases c24 : a2_2 < (l1.length : Int)
       ·rw [if_pos c24] at H
        have c24b0 : decide (a2_2 < (l1.length : Int)) = true := decide_eq_true c24; clear c24
        by_cases c25 : 0 ≤ x27_1
        ·rw [if_pos c25] at H
         have c25b0 : decide (0 ≤ x27_1) = true := decide_eq_true c25; clear c25
         by_cases c26 : x27_1 < ((rd_L4 l1 a2_2).length : Int)
         ·rw [if_pos c26] at H
          have c26b0 : decide (x27_1 < ((rd_L4 l1 a2_2).length : Int)) = true := decide_eq_true c26; clear c26
          by_cases c27 : 0 ≤ a2_3
          ·rw [if_pos c27] at H
           have c27b0 : decide (0 ≤ a2_3) = true := decide_eq_true c27; clear c27
           by_cases c28 : a2_3 < (l1.length : Int)
           ·rw [if_pos c28] at H
            have c28b0 : decide (a2_3 < (l1.length : Int)) = true := decide_eq_true c28; clear c28
            by_cases c29 : x27_1 < ((rd_L4 l1 a2_3).length : Int)
            ·rw [if_pos c29] at H
             have c29b0 : decide (x27_1 < ((rd_L4 l1 a2_3).length : Int)) = true := decide_eq_true c29; clear c29; replace H := Option.bind_eq_some_iff.mp H
             obtain ⟨⟨t364, t365⟩, A300, H⟩ := H
             (try dsimp only at H)
             have A30 := Aside0.mk A300; clear A300
             by_cases c31 : 0 ≤ a2_1
             ·rw [if_pos c31] at H
              have c31b0 : decide (0 ≤ a2_1) = true := decide_eq_true c31; clear c31
              by_cases c32 : a2_1 < (l1.length : Int)
              ·rw [if_pos c32] at H
               have c32b0 : decide (a2_1 < (l1.length : Int)) = true := decide_eq_true c32; clear c32
               by_cases c33 : x27_1 < ((rd_L4 l1 a2_1).length : Int)
               ·rw [if_pos c33] at H
                have c33b0 : decide (x27_1 < ((rd_L4 l1 a2_1).length : Int)) = true := decide_eq_true c33; clear c33
                by_cases c34 : (rd (rd_L4 l1 a2_1) x27_1) = t364
                ·rw [if_pos c34] at H
                 have c34b0 : ((rd (rd_L4 l1 a2_1) x27_1) == t364) = true := beq_iff_eq.mpr c34; have c34b1 : ((rd (rd_L4 l1 a2_1) x27_1) != t364) = false := bne_eq_false_iff_eq.mpr c34; clear c34
                 by_cases c35 : a2_0 = 7
                 ·rw [if_pos c35] at H
                  have c35b0 : (a2_0 == 7) = true := beq_iff_eq.mpr c35; have c35b1 : (a2_0 != 7) = false := bne_eq_false_iff_eq.mpr c35; clear c35
                  by_cases c36 : 0 ≤ a2_4
                  ·rw [if_pos c36] at H
                   have c36b0 : decide (0 ≤ a2_4) = true := decide_eq_true c36; clear c36
                   by_cases c37 : a2_4 < (l1.length : Int)
                   ·rw [if_pos c37] at H
                    have c37b0 : decide (a2_4 < (l1.length : Int)) = true := decide_eq_true c37; clear c37
                    by_cases c38 : x27_1 < ((rd_L4 l1 a2_4).length : Int)
                    ·rw [if_pos c38] at H
                     have c38b0 : decide (x27_1 < ((rd_L4 l1 a2_4).length : Int)) = true := decide_eq_true c38; clear c38
                     by_cases c39 : (rd (rd_L4 l1 a2_4) x27_1) = t365
                     ·rw [if_pos c39] at H
                      have c39b0 : ((rd (rd_L4 l1 a2_4) x27_1) == t365) = true := beq_iff_eq.mpr c39; have c39b1 : ((rd (rd_L4 l1 a2_4) x27_1) != t365) = false := bne_eq_false_iff_eq.mpr c39; clear c39; have H' := Aside0.mk H; clear H
                      try go_wp2
                      have n0_ := Aside0.mk (blk_drew BK355.out); have n1_ := Aside0.mk (blk_drew BK356.out); have n2_ := Aside0.mk (below_drew1 HB.out); clear BK355; clear BK356; clear HB; have BK355 := n0_; have BK356 := n1_; have HB := n2_; clear n0_ n1_ n2_
                      have p360 : 0 ≤ (a2_2 : Int) := of_decide_eq_true (by first | (with_reducible assumption) | assumption)
                      have q360 : a2_2 < (l1.length : Int) := of_decide_eq_true (by first | (with_reducible assumption) | assumption)
                      obtain ⟨ad360, A360_0, c360_0, e360, hx360_0, hl360_0, hi360_0⟩ := at_L4 HR1.out a2_2 p360 q360; have hw360_0 := hx360_0
                      cases e360
                      replace hx360_0 := (HB.out.cell (World.block_lt_of_cell? w _ hx360_0)).trans hx360_0; have HR360_0 := Aside0.mk hi360_0; have HC360_0 := Aside0.mk hl360_0; clear hi360_0 hl360_0; replace p360 := eq_true p360; replace q360 := eq_true q360
                      have p361 : 0 ≤ (x27_1 : Int) := of_decide_eq_true (by first | (with_reducible assumption) | assumption)
                      have q361 : x27_1 < ((rd_L4 l1 a2_2).length : Int) := of_decide_eq_true (by first | (with_reducible assumption) | assumption)
                      obtain ⟨ad361, e361, hx361_0⟩ := Kd.at_int HR360_0.out x27_1 p361 q361; have hw361_0 := hx361_0
                      cases e361
                      replace hx361_0 := (HB.out.cell (World.block_lt_of_cell? w _ hx361_0)).trans hx361_0; replace p361 := eq_true p361; replace q361 := eq_true q361
                      have p362 : 0 ≤ (a2_3 : Int) := of_decide_eq_true (by first | (with_reducible assumption) | assumption)
                      have q362 : a2_3 < (l1.length : Int) := of_decide_eq_true (by first | (with_reducible assumption) | assumption)
                      obtain ⟨ad362, A362_0, c362_0, e362, hx362_0, hl362_0, hi362_0⟩ := at_L4 HR1.out a2_3 p362 q362; have hw362_0 := hx362_0
                      obtain rfl : ad360 = ad362 := (by injection e362)
                      replace hx362_0 := (HB.out.cell (World.block_lt_of_cell? w _ hx362_0)).trans hx362_0; have HR362_0 := Aside0.mk hi362_0; have HC362_0 := Aside0.mk hl362_0; clear hi362_0 hl362_0; replace p362 := eq_true p362; replace q362 := eq_true q362
                      have p363 : 0 ≤ (x27_1 : Int) := of_decide_eq_true (by first | (with_reducible assumption) | assumption)
                      have q363 : x27_1 < ((rd_L4 l1 a2_3).length : Int) := of_decide_eq_true (by first | (with_reducible assumption) | assumption)
                      obtain ⟨ad363, e363, hx363_0⟩ := Kd.at_int HR362_0.out x27_1 p363 q363; have hw363_0 := hx363_0
                      cases e363
                      replace hx363_0 := (HB.out.cell (World.block_lt_of_cell? w _ hx363_0)).trans hx363_0; replace p363 := eq_true p363; replace q363 := eq_true q363
                      refine start_ (n := 24) (S := fun w' => w'.cell? ⟨gb355, 0, none⟩ = some (.int .i64 a0_0) ∧ w'.cell? ⟨gb355, 1, none⟩ = some (.int .i64 a0_1) ∧ w'.cell? ⟨gb355, 2, none⟩ = some (.int .i64 a0_2) ∧ w'.cell? ⟨gb355, 3, none⟩ = some (.int .i64 a0_3) ∧ w'.cell? ⟨gb355, 4, none⟩ = some (.int .i64 a0_4) ∧ w'.cell? ⟨gb355, 5, none⟩ = some (.slice A0_5 l0_5.length c0_5) ∧ w'.cell? ⟨gb356, 0, none⟩ = some (.int .i64 a2_0) ∧ w'.cell? ⟨gb356, 1, none⟩ = some (.int .i64 a2_1) ∧ w'.cell? ⟨gb356, 2, none⟩ = some (.int .i64 a2_2) ∧ w'.cell? ⟨gb356, 3, none⟩ = some (.int .i64 a2_3) ∧ w'.cell? ⟨gb356, 4, none⟩ = some (.int .i64 a2_4) ∧ w'.cell? (ad360.add (a2_2).toNat) = some (.slice (some ad361) (rd_L4 l1 a2_2).length c360_0) ∧ w'.cell? (ad361.add (x27_1).toNat) = some (.int .u64 (rd (rd_L4 l1 a2_2) x27_1)) ∧ w'.cell? (ad360.add (a2_3).toNat) = some (.slice (some ad363) (rd_L4 l1 a2_3).length c362_0) ∧ w'.cell? (ad363.add (x27_1).toNat) = some (.int .u64 (rd (rd_L4 l1 a2_3) x27_1))) (ds := []) #[false, false, false, false, false, false, false, false, false, false, false, false, false, false, false, false, false, false, false, false, false, false, false, false] (by kernel_rfl) rfl rfl ⟨(blk_cell BK355.out 0).trans rfl, (blk_cell BK355.out 1).trans rfl, (blk_cell BK355.out 2).trans rfl, (blk_cell BK355.out 3).trans rfl, (blk_cell BK355.out 4).trans rfl, (blk_cell BK355.out 5).trans rfl, (blk_cell BK356.out 0).trans rfl, (blk_cell BK356.out 1).trans rfl, (blk_cell BK356.out 2).trans rfl, (blk_cell BK356.out 3).trans rfl, (blk_cell BK356.out 4).trans rfl, (clA HB.out hw360_0), (clA HB.out hw361_0), (clA HB.out hw362_0), (clA HB.out hw363_0)⟩ (fun hHeld => ?_); refine with_tabW witness_holds.tab6 witness_holds.bits6 (fun HT_ HW_ => ?_)
                      generalize wr.drew = w40 at BK355 BK356 HB HR360_0 HR362_0 hx360_0 hx361_0 hx362_0 hx363_0 hHeld ⊢
                      refine pureA 2 (some 33) HT_.out ?_
                      refine pureA 3 (some 34) HT_.out ?_
                      refine pureA 7 (some 38) HT_.out ?_
                      refine pureA 10 (some 41) HT_.out ?_
                      refine pureA 11 (some 42) HT_.out ?_
                      refine pureA 15 (some 46) HT_.out ?_
                      refine takeA 0 (some 31) rfl HT_.out HW_.out hHeld (Or.inl ⟨by rfl, by rintro w' ⟨s0, s1, s2, s3, s4, s5, s6, s7, s8, s9, s10, s11, s12, s13, s14⟩; go_simp; with_reducible rfl⟩) ?_
                      refine takeA 1 (some 32) rfl HT_.out HW_.out hHeld (Or.inl ⟨by rfl, by rintro w' ⟨s0, s1, s2, s3, s4, s5, s6, s7, s8, s9, s10, s11, s12, s13, s14⟩; go_simp; with_reducible rfl⟩) ?_
                      refine takeA 4 (some 35) rfl HT_.out HW_.out hHeld (Or.inl ⟨by rfl, by rintro w' ⟨s0, s1, s2, s3, s4, s5, s6, s7, s8, s9, s10, s11, s12, s13, s14⟩; go_simp; with_reducible rfl⟩) ?_
                      refine pureA 5 (some 36) HT_.out ?_
                      refine takeA 6 (some 37) rfl HT_.out HW_.out hHeld (Or.inl ⟨by rfl, by rintro w' ⟨s0, s1, s2, s3, s4, s5, s6, s7, s8, s9, s10, s11, s12, s13, s14⟩; go_simp; with_reducible rfl⟩) ?_
                      refine pureA 8 (some 39) HT_.out ?_
                      refine takeA 9 (some 40) rfl HT_.out HW_.out hHeld (Or.inl ⟨by rfl, by rintro w' ⟨s0, s1, s2, s3, s4, s5, s6, s7, s8, s9, s10, s11, s12, s13, s14⟩; go_simp; with_reducible rfl⟩) ?_
                      refine takeA 12 (some 43) rfl HT_.out HW_.out hHeld (Or.inl ⟨by rfl, by rintro w' ⟨s0, s1, s2, s3, s4, s5, s6, s7, s8, s9, s10, s11, s12, s13, s14⟩; go_simp; with_reducible rfl⟩) ?_
                      refine pureA 13 (some 44) HT_.out ?_
                      refine takeA 14 (some 45) rfl HT_.out HW_.out hHeld (Or.inl ⟨by rfl, by rintro w' ⟨s0, s1, s2, s3, s4, s5, s6, s7, s8, s9, s10, s11, s12, s13, s14⟩; go_simp; with_reducible rfl⟩) ?_
                      refine pureA 16 (some 47) HT_.out ?_
                      refine takeA 17 (some 48) rfl HT_.out HW_.out hHeld (Or.inl ⟨by rfl, by rintro w' ⟨s0, s1, s2, s3, s4, s5, s6, s7, s8, s9, s10, s11, s12, s13, s14⟩; go_simp; with_reducible rfl⟩) ?_
                      refine one_ (i := 18) (N := some 49) #[true, true, true, true, true, true, true, true, true, true, true, true, true, true, true, true, true, true, true, false, false, false, false, false] rfl rfl (one_of HT_.out (by kernel_rfl)) (by decide) (fun K hK => ?_)
                      refine goes_ Try.func68 (by kernel_rfl) rfl #[.agg #[.int .i64 a0_0, .int .i64 a0_1, .int .i64 a0_2, .int .i64 a0_3, .int .i64 a0_4, .slice A0_5 l0_5.length c0_5], .agg #[.int .i64 a2_0, .int .i64 a2_1, .int .i64 a2_2, .int .i64 a2_3, .int .i64 a2_4], .int .u64 (rd (rd_L4 l1 a2_2) x27_1), .int .u64 (rd (rd_L4 l1 a2_3) x27_1)] (by rfl) rfl rfl gsA ?_
                      with_reducible refine (witness_made.calls a0_0 a0_1 a0_2 a0_3 a0_4 _ _ l0_5 a2_0 a2_1 a2_2 a2_3 a2_4 (rd (rd_L4 l1 a2_2) x27_1) (rd (rd_L4 l1 a2_3) x27_1) t364 t365 _ ?side1 ?side2 A30.out).mono ?_
                      (case side1 => repeat (first | exact (Kd.C_below HR0_5.out HB.out) | (with_reducible refine Kd.C_alloc ?_ _) | (with_reducible refine Kd.C_drewN ?_ _) | (with_reducible refine Kd.C_drew ?_)))
                      (case side2 => exact HC0_5.out)
                      rintro e w41 ⟨rfl, hb⟩
                      refine ⟨_, rfl, ?_⟩
                      have n0_ := Aside0.mk (blk_below (bkA BK355.out) hb); have n1_ := Aside0.mk (blk_below (bkA BK356.out) hb); have n2_ := Aside0.mk (below_step (blA HB.out) hb); clear BK355; clear BK356; clear HB; have BK355 := n0_; have BK356 := n1_; have HB := n2_; clear n0_ n1_ n2_
                      (try clear hb)
                      refine hK.out _ _ ⟨(blk_cell BK355.out 0).trans rfl, (blk_cell BK355.out 1).trans rfl, (blk_cell BK355.out 2).trans rfl, (blk_cell BK355.out 3).trans rfl, (blk_cell BK355.out 4).trans rfl, (blk_cell BK355.out 5).trans rfl, (blk_cell BK356.out 0).trans rfl, (blk_cell BK356.out 1).trans rfl, (blk_cell BK356.out 2).trans rfl, (blk_cell BK356.out 3).trans rfl, (blk_cell BK356.out 4).trans rfl, (clA (blA HB.out) hw360_0), (clA (blA HB.out) hw361_0), (clA (blA HB.out) hw362_0), (clA (blA HB.out) hw363_0)⟩ (fun hHeld => ?_)
                      clear hK K
                      refine normA ?_
                      refine pureA 19 (some 30) HT_.out ?_
                      refine pureA 20 (some 50) HT_.out ?_
                      refine pureA 21 (some 51) HT_.out ?_
                      refine pureA 22 (some 8) HT_.out ?_
                      refine pureA 23 (some 9) HT_.out ?_
                      refine done_ (done_of HT_.out (by kernel_rfl)) ?_
                      have hnb42 := NB356_355.out; have hnc42 := NB355_356.out
                      have hcz43 := fun i => blk_cell BK356.out i
                      have hfz43 := fun i => blk_frozen BK356.out i
                      have p366 : 0 ≤ (a2_1 : Int) := of_decide_eq_true (by first | (with_reducible assumption) | assumption)
                      have q366 : a2_1 < (l1.length : Int) := of_decide_eq_true (by first | (with_reducible assumption) | assumption)
                      obtain ⟨ad366, A366_0, c366_0, e366, hx366_0, hl366_0, hi366_0⟩ := at_L4 HR1.out a2_1 p366 q366
                      obtain rfl : ad360 = ad366 := (by injection e366)
                      replace hx366_0 := (HB.out.cell (World.block_lt_of_cell? w _ hx366_0)).trans hx366_0; have HR366_0 := Aside0.mk hi366_0; have HC366_0 := Aside0.mk hl366_0; clear hi366_0 hl366_0; replace p366 := eq_true p366; replace q366 := eq_true q366
                      have p367 : 0 ≤ (x27_1 : Int) := of_decide_eq_true (by first | (with_reducible assumption) | assumption)
                      have q367 : x27_1 < ((rd_L4 l1 a2_1).length : Int) := of_decide_eq_true (by first | (with_reducible assumption) | assumption)
                      obtain ⟨ad367, e367, hx367_0⟩ := Kd.at_int HR366_0.out x27_1 p367 q367
                      cases e367
                      replace hx367_0 := (HB.out.cell (World.block_lt_of_cell? w _ hx367_0)).trans hx367_0; replace p367 := eq_true p367; replace q367 := eq_true q367
                      have p368 : 0 ≤ (a2_4 : Int) := of_decide_eq_true (by first | (with_reducible assumption) | assumption)
                      have q368 : a2_4 < (l1.length : Int) := of_decide_eq_true (by first | (with_reducible assumption) | assumption)
                      obtain ⟨ad368, A368_0, c368_0, e368, hx368_0, hl368_0, hi368_0⟩ := at_L4 HR1.out a2_4 p368 q368
                      obtain rfl : ad360 = ad368 := (by injection e368)
                      replace hx368_0 := (HB.out.cell (World.block_lt_of_cell? w _ hx368_0)).trans hx368_0; have HR368_0 := Aside0.mk hi368_0; have HC368_0 := Aside0.mk hl368_0; clear hi368_0 hl368_0; replace p368 := eq_true p368; replace q368 := eq_true q368
                      have p369 : 0 ≤ (x27_1 : Int) := of_decide_eq_true (by first | (with_reducible assumption) | assumption)
                      have q369 : x27_1 < ((rd_L4 l1 a2_4).length : Int) := of_decide_eq_true (by first | (with_reducible assumption) | assumption)
                      obtain ⟨ad369, e369, hx369_0⟩ := Kd.at_int HR368_0.out x27_1 p369 q369
                      cases e369
                      replace hx369_0 := (HB.out.cell (World.block_lt_of_cell? w _ hx369_0)).trans hx369_0; replace p369 := eq_true p369; replace q369 := eq_true q369
                      try go_wp2
                      go_roundg k1
                      case measure => have := HK1.out; omega
                      case rel => exact ⟨(wrap64 (x27_1 + 1)), eqA, H', ⟨by have := HK1.out; omega⟩, ⟨bkA BK355.out⟩, ⟨bkA BK356.out⟩, ⟨blA HB.out⟩⟩
                     ·rw [if_neg c39] at H
                      have c39b0 : ((rd (rd_L4 l1 a2_4) x27_1) == t365) = false := beq_eq_false_iff_ne.mpr c39; have c39b1 : ((rd (rd_L4 l1 a2_4) x27_1) != t365) = true := bne_iff_ne.mpr c39; obtain rfl := Option.some.inj H
                      try go_wp2
                      have n0_ := Aside0.mk (blk_drew BK355.out); have n1_ := Aside0.mk (blk_drew BK356.out); have n2_ := Aside0.mk (below_drew1 HB.out); clear BK355; clear BK356; clear HB; have BK355 := n0_; have BK356 := n1_; have HB := n2_; clear n0_ n1_ n2_
                      have p360 : 0 ≤ (a2_2 : Int) := of_decide_eq_true (by first | (with_reducible assumption) | assumption)
                      have q360 : a2_2 < (l1.length : Int) := of_decide_eq_true (by first | (with_reducible assumption) | assumption)
                      obtain ⟨ad360, A360_0, c360_0, e360, hx360_0, hl360_0, hi360_0⟩ := at_L4 HR1.out a2_2 p360 q360; have hw360_0 := hx360_0
                      cases e360
                      replace hx360_0 := (HB.out.cell (World.block_lt_of_cell? w _ hx360_0)).trans hx360_0; have HR360_0 := Aside0.mk hi360_0; have HC360_0 := Aside0.mk hl360_0; clear hi360_0 hl360_0; replace p360 := eq_true p360; replace q360 := eq_true q360
                      have p361 : 0 ≤ (x27_1 : Int) := of_decide_eq_true (by first | (with_reducible assumption) | assumption)
                      have q361 : x27_1 < ((rd_L4 l1 a2_2).length : Int) := of_decide_eq_true (by first | (with_reducible assumption) | assumption)
                      obtain ⟨ad361, e361, hx361_0⟩ := Kd.at_int HR360_0.out x27_1 p361 q361; have hw361_0 := hx361_0
                      cases e361
                      replace hx361_0 := (HB.out.cell (World.block_lt_of_cell? w _ hx361_0)).trans hx361_0; replace p361 := eq_true p361; replace q361 := eq_true q361
                      have p362 : 0 ≤ (a2_3 : Int) := of_decide_eq_true (by first | (with_reducible assumption) | assumption)
                      have q362 : a2_3 < (l1.length : Int) := of_decide_eq_true (by first | (with_reducible assumption) | assumption)
                      obtain ⟨ad362, A362_0, c362_0, e362, hx362_0, hl362_0, hi362_0⟩ := at_L4 HR1.out a2_3 p362 q362; have hw362_0 := hx362_0
                      obtain rfl : ad360 = ad362 := (by injection e362)
                      replace hx362_0 := (HB.out.cell (World.block_lt_of_cell? w _ hx362_0)).trans hx362_0; have HR362_0 := Aside0.mk hi362_0; have HC362_0 := Aside0.mk hl362_0; clear hi362_0 hl362_0; replace p362 := eq_true p362; replace q362 := eq_true q362
                      have p363 : 0 ≤ (x27_1 : Int) := of_decide_eq_true (by first | (with_reducible assumption) | assumption)
                      have q363 : x27_1 < ((rd_L4 l1 a2_3).length : Int) := of_decide_eq_true (by first | (with_reducible assumption) | assumption)
                      obtain ⟨ad363, e363, hx363_0⟩ := Kd.at_int HR362_0.out x27_1 p363 q363; have hw363_0 := hx363_0
                      cases e363
                      replace hx363_0 := (HB.out.cell (World.block_lt_of_cell? w _ hx363_0)).trans hx363_0; replace p363 := eq_true p363; replace q363 := eq_true q363
                      refine start_ (n := 24) (S := fun w' => w'.cell? ⟨gb355, 0, none⟩ = some (.int .i64 a0_0) ∧ w'.cell? ⟨gb355, 1, none⟩ = some (.int .i64 a0_1) ∧ w'.cell? ⟨gb355, 2, none⟩ = some (.int .i64 a0_2) ∧ w'.cell? ⟨gb355, 3, none⟩ = some (.int .i64 a0_3) ∧ w'.cell? ⟨gb355, 4, none⟩ = some (.int .i64 a0_4) ∧ w'.cell? ⟨gb355, 5, none⟩ = some (.slice A0_5 l0_5.length c0_5) ∧ w'.cell? ⟨gb356, 0, none⟩ = some (.int .i64 a2_0) ∧ w'.cell? ⟨gb356, 1, none⟩ = some (.int .i64 a2_1) ∧ w'.cell? ⟨gb356, 2, none⟩ = some (.int .i64 a2_2) ∧ w'.cell? ⟨gb356, 3, none⟩ = some (.int .i64 a2_3) ∧ w'.cell? ⟨gb356, 4, none⟩ = some (.int .i64 a2_4) ∧ w'.cell? (ad360.add (a2_2).toNat) = some (.slice (some ad361) (rd_L4 l1 a2_2).length c360_0) ∧ w'.cell? (ad361.add (x27_1).toNat) = some (.int .u64 (rd (rd_L4 l1 a2_2) x27_1)) ∧ w'.cell? (ad360.add (a2_3).toNat) = some (.slice (some ad363) (rd_L4 l1 a2_3).length c362_0) ∧ w'.cell? (ad363.add (x27_1).toNat) = some (.int .u64 (rd (rd_L4 l1 a2_3) x27_1))) (ds := []) #[false, false, false, false, false, false, false, false, false, false, false, false, false, false, false, false, false, false, false, false, false, false, false, false] (by kernel_rfl) rfl rfl ⟨(blk_cell BK355.out 0).trans rfl, (blk_cell BK355.out 1).trans rfl, (blk_cell BK355.out 2).trans rfl, (blk_cell BK355.out 3).trans rfl, (blk_cell BK355.out 4).trans rfl, (blk_cell BK355.out 5).trans rfl, (blk_cell BK356.out 0).trans rfl, (blk_cell BK356.out 1).trans rfl, (blk_cell BK356.out 2).trans rfl, (blk_cell BK356.out 3).trans rfl, (blk_cell BK356.out 4).trans rfl, (clA HB.out hw360_0), (clA HB.out hw361_0), (clA HB.out hw362_0), (clA HB.out hw363_0)⟩ (fun hHeld => ?_); refine with_tabW witness_holds.tab6 witness_holds.bits6 (fun HT_ HW_ => ?_)
                      generalize wr.drew = w44 at BK355 BK356 HB HR360_0 HR362_0 hx360_0 hx361_0 hx362_0 hx363_0 hHeld ⊢
                      refine pureA 2 (some 33) HT_.out ?_
                      refine pureA 3 (some 34) HT_.out ?_
                      refine pureA 7 (some 38) HT_.out ?_
                      refine pureA 10 (some 41) HT_.out ?_
                      refine pureA 11 (some 42) HT_.out ?_
                      refine pureA 15 (some 46) HT_.out ?_
                      refine takeA 0 (some 31) rfl HT_.out HW_.out hHeld (Or.inl ⟨by rfl, by rintro w' ⟨s0, s1, s2, s3, s4, s5, s6, s7, s8, s9, s10, s11, s12, s13, s14⟩; go_simp; with_reducible rfl⟩) ?_
                      refine takeA 1 (some 32) rfl HT_.out HW_.out hHeld (Or.inl ⟨by rfl, by rintro w' ⟨s0, s1, s2, s3, s4, s5, s6, s7, s8, s9, s10, s11, s12, s13, s14⟩; go_simp; with_reducible rfl⟩) ?_
                      refine takeA 4 (some 35) rfl HT_.out HW_.out hHeld (Or.inl ⟨by rfl, by rintro w' ⟨s0, s1, s2, s3, s4, s5, s6, s7, s8, s9, s10, s11, s12, s13, s14⟩; go_simp; with_reducible rfl⟩) ?_
                      refine pureA 5 (some 36) HT_.out ?_
                      refine takeA 6 (some 37) rfl HT_.out HW_.out hHeld (Or.inl ⟨by rfl, by rintro w' ⟨s0, s1, s2, s3, s4, s5, s6, s7, s8, s9, s10, s11, s12, s13, s14⟩; go_simp; with_reducible rfl⟩) ?_
                      refine pureA 8 (some 39) HT_.out ?_
                      refine takeA 9 (some 40) rfl HT_.out HW_.out hHeld (Or.inl ⟨by rfl, by rintro w' ⟨s0, s1, s2, s3, s4, s5, s6, s7, s8, s9, s10, s11, s12, s13, s14⟩; go_simp; with_reducible rfl⟩) ?_
                      refine takeA 12 (some 43) rfl HT_.out HW_.out hHeld (Or.inl ⟨by rfl, by rintro w' ⟨s0, s1, s2, s3, s4, s5, s6, s7, s8, s9, s10, s11, s12, s13, s14⟩; go_simp; with_reducible rfl⟩) ?_
                      refine pureA 13 (some 44) HT_.out ?_
                      refine takeA 14 (some 45) rfl HT_.out HW_.out hHeld (Or.inl ⟨by rfl, by rintro w' ⟨s0, s1, s2, s3, s4, s5, s6, s7, s8, s9, s10, s11, s12, s13, s14⟩; go_simp; with_reducible rfl⟩) ?_
                      refine pureA 16 (some 47) HT_.out ?_
                      refine takeA 17 (some 48) rfl HT_.out HW_.out hHeld (Or.inl ⟨by rfl, by rintro w' ⟨s0, s1, s2, s3, s4, s5, s6, s7, s8, s9, s10, s11, s12, s13, s14⟩; go_simp; with_reducible rfl⟩) ?_
                      refine one_ (i := 18) (N := some 49) #[true, true, true, true, true, true, true, true, true, true, true, true, true, true, true, true, true, true, true, false, false, false, false, false] rfl rfl (one_of HT_.out (by kernel_rfl)) (by decide) (fun K hK => ?_)
                      refine goes_ Try.func68 (by kernel_rfl) rfl #[.agg #[.int .i64 a0_0, .int .i64 a0_1, .int .i64 a0_2, .int .i64 a0_3, .int .i64 a0_4, .slice A0_5 l0_5.length c0_5], .agg #[.int .i64 a2_0, .int .i64 a2_1, .int .i64 a2_2, .int .i64 a2_3, .int .i64 a2_4], .int .u64 (rd (rd_L4 l1 a2_2) x27_1), .int .u64 (rd (rd_L4 l1 a2_3) x27_1)] (by rfl) rfl rfl gsA ?_
                      with_reducible refine (witness_made.calls a0_0 a0_1 a0_2 a0_3 a0_4 _ _ l0_5 a2_0 a2_1 a2_2 a2_3 a2_4 (rd (rd_L4 l1 a2_2) x27_1) (rd (rd_L4 l1 a2_3) x27_1) t364 t365 _ ?side1 ?side2 A30.out).mono ?_
                      (case side1 => repeat (first | exact (Kd.C_below HR0_5.out HB.out) | (with_reducible refine Kd.C_alloc ?_ _) | (with_reducible refine Kd.C_drewN ?_ _) | (with_reducible refine Kd.C_drew ?_)))
                      (case side2 => exact HC0_5.out)
                      rintro e w45 ⟨rfl, hb⟩
                      refine ⟨_, rfl, ?_⟩
                      have n0_ := Aside0.mk (blk_below (bkA BK355.out) hb); have n1_ := Aside0.mk (blk_below (bkA BK356.out) hb); have n2_ := Aside0.mk (below_step (blA HB.out) hb); clear BK355; clear BK356; clear HB; have BK355 := n0_; have BK356 := n1_; have HB := n2_; clear n0_ n1_ n2_
                      (try clear hb)
                      refine hK.out _ _ ⟨(blk_cell BK355.out 0).trans rfl, (blk_cell BK355.out 1).trans rfl, (blk_cell BK355.out 2).trans rfl, (blk_cell BK355.out 3).trans rfl, (blk_cell BK355.out 4).trans rfl, (blk_cell BK355.out 5).trans rfl, (blk_cell BK356.out 0).trans rfl, (blk_cell BK356.out 1).trans rfl, (blk_cell BK356.out 2).trans rfl, (blk_cell BK356.out 3).trans rfl, (blk_cell BK356.out 4).trans rfl, (clA (blA HB.out) hw360_0), (clA (blA HB.out) hw361_0), (clA (blA HB.out) hw362_0), (clA (blA HB.out) hw363_0)⟩ (fun hHeld => ?_)
                      clear hK K
                      refine normA ?_
                      refine pureA 19 (some 30) HT_.out ?_
                      refine pureA 20 (some 50) HT_.out ?_
                      refine pureA 21 (some 51) HT_.out ?_
                      refine pureA 22 (some 8) HT_.out ?_
                      refine pureA 23 (some 9) HT_.out ?_
                      refine done_ (done_of HT_.out (by kernel_rfl)) ?_
                      have hnb46 := NB356_355.out; have hnc46 := NB355_356.out
                      have hcz47 := fun i => blk_cell BK356.out i
                      have hfz47 := fun i => blk_frozen BK356.out i
                      have p366 : 0 ≤ (a2_1 : Int) := of_decide_eq_true (by first | (with_reducible assumption) | assumption)
                      have q366 : a2_1 < (l1.length : Int) := of_decide_eq_true (by first | (with_reducible assumption) | assumption)
                      obtain ⟨ad366, A366_0, c366_0, e366, hx366_0, hl366_0, hi366_0⟩ := at_L4 HR1.out a2_1 p366 q366
                      obtain rfl : ad360 = ad366 := (by injection e366)
                      replace hx366_0 := (HB.out.cell (World.block_lt_of_cell? w _ hx366_0)).trans hx366_0; have HR366_0 := Aside0.mk hi366_0; have HC366_0 := Aside0.mk hl366_0; clear hi366_0 hl366_0; replace p366 := eq_true p366; replace q366 := eq_true q366
                      have p367 : 0 ≤ (x27_1 : Int) := of_decide_eq_true (by first | (with_reducible assumption) | assumption)
                      have q367 : x27_1 < ((rd_L4 l1 a2_1).length : Int) := of_decide_eq_true (by first | (with_reducible assumption) | assumption)
                      obtain ⟨ad367, e367, hx367_0⟩ := Kd.at_int HR366_0.out x27_1 p367 q367
                      cases e367
                      replace hx367_0 := (HB.out.cell (World.block_lt_of_cell? w _ hx367_0)).trans hx367_0; replace p367 := eq_true p367; replace q367 := eq_true q367
                      have p368 : 0 ≤ (a2_4 : Int) := of_decide_eq_true (by first | (with_reducible assumption) | assumption)
                      have q368 : a2_4 < (l1.length : Int) := of_decide_eq_true (by first | (with_reducible assumption) | assumption)
                      obtain ⟨ad368, A368_0, c368_0, e368, hx368_0, hl368_0, hi368_0⟩ := at_L4 HR1.out a2_4 p368 q368
                      obtain rfl : ad360 = ad368 := (by injection e368)
                      replace hx368_0 := (HB.out.cell (World.block_lt_of_cell? w _ hx368_0)).trans hx368_0; have HR368_0 := Aside0.mk hi368_0; have HC368_0 := Aside0.mk hl368_0; clear hi368_0 hl368_0; replace p368 := eq_true p368; replace q368 := eq_true q368
                      have p369 : 0 ≤ (x27_1 : Int) := of_decide_eq_true (by first | (with_reducible assumption) | assumption)
                      have q369 : x27_1 < ((rd_L4 l1 a2_4).length : Int) := of_decide_eq_true (by first | (with_reducible assumption) | assumption)
                      obtain ⟨ad369, e369, hx369_0⟩ := Kd.at_int HR368_0.out x27_1 p369 q369
                      cases e369
                      replace hx369_0 := (HB.out.cell (World.block_lt_of_cell? w _ hx369_0)).trans hx369_0; replace p369 := eq_true p369; replace q369 := eq_true q369
                      try go_wp2
                      go_ret
                      exact ⟨by first | rfl | (simp [errW_none, errW_some] <;> rfl) | (simp only [← hji16]; first | rfl | (simp [errW_none, errW_some] <;> rfl)) | (simp [*, errW_none, errW_some] <;> rfl), blA HB.out⟩
                    ·rw [if_neg c38] at H
                     exact absurd H (by simp)
                   ·rw [if_neg c37] at H
                    exact absurd H (by simp)
                  ·rw [if_neg c36] at H
                   exact absurd H (by simp)
                 ·rw [if_neg c35] at H
                  have c35b0 : (a2_0 == 7) = false := beq_eq_false_iff_ne.mpr c35; have c35b1 : (a2_0 != 7) = true := bne_iff_ne.mpr c35; have H' := Aside0.mk H; clear H
                  try go_wp2
                  have n0_ := Aside0.mk (blk_drew BK355.out); have n1_ := Aside0.mk (blk_drew BK356.out); have n2_ := Aside0.mk (below_drew1 HB.out); clear BK355; clear BK356; clear HB; have BK355 := n0_; have BK356 := n1_; have HB := n2_; clear n0_ n1_ n2_
                  have p360 : 0 ≤ (a2_2 : Int) := of_decide_eq_true (by first | (with_reducible assumption) | assumption)
                  have q360 : a2_2 < (l1.length : Int) := of_decide_eq_true (by first | (with_reducible assumption) | assumption)
                  obtain ⟨ad360, A360_0, c360_0, e360, hx360_0, hl360_0, hi360_0⟩ := at_L4 HR1.out a2_2 p360 q360; have hw360_0 := hx360_0
                  cases e360
                  replace hx360_0 := (HB.out.cell (World.block_lt_of_cell? w _ hx360_0)).trans hx360_0; have HR360_0 := Aside0.mk hi360_0; have HC360_0 := Aside0.mk hl360_0; clear hi360_0 hl360_0; replace p360 := eq_true p360; replace q360 := eq_true q360
                  have p361 : 0 ≤ (x27_1 : Int) := of_decide_eq_true (by first | (with_reducible assumption) | assumption)
                  have q361 : x27_1 < ((rd_L4 l1 a2_2).length : Int) := of_decide_eq_true (by first | (with_reducible assumption) | assumption)
                  obtain ⟨ad361, e361, hx361_0⟩ := Kd.at_int HR360_0.out x27_1 p361 q361; have hw361_0 := hx361_0
                  cases e361
                  replace hx361_0 := (HB.out.cell (World.block_lt_of_cell? w _ hx361_0)).trans hx361_0; replace p361 := eq_true p361; replace q361 := eq_true q361
                  have p362 : 0 ≤ (a2_3 : Int) := of_decide_eq_true (by first | (with_reducible assumption) | assumption)
                  have q362 : a2_3 < (l1.length : Int) := of_decide_eq_true (by first | (with_reducible assumption) | assumption)
                  obtain ⟨ad362, A362_0, c362_0, e362, hx362_0, hl362_0, hi362_0⟩ := at_L4 HR1.out a2_3 p362 q362; have hw362_0 := hx362_0
                  obtain rfl : ad360 = ad362 := (by injection e362)
                  replace hx362_0 := (HB.out.cell (World.block_lt_of_cell? w _ hx362_0)).trans hx362_0; have HR362_0 := Aside0.mk hi362_0; have HC362_0 := Aside0.mk hl362_0; clear hi362_0 hl362_0; replace p362 := eq_true p362; replace q362 := eq_true q362
                  have p363 : 0 ≤ (x27_1 : Int) := of_decide_eq_true (by first | (with_reducible assumption) | assumption)
                  have q363 : x27_1 < ((rd_L4 l1 a2_3).length : Int) := of_decide_eq_true (by first | (with_reducible assumption) | assumption)
                  obtain ⟨ad363, e363, hx363_0⟩ := Kd.at_int HR362_0.out x27_1 p363 q363; have hw363_0 := hx363_0
                  cases e363
                  replace hx363_0 := (HB.out.cell (World.block_lt_of_cell? w _ hx363_0)).trans hx363_0; replace p363 := eq_true p363; replace q363 := eq_true q363
                  refine start_ (n := 24) (S := fun w' => w'.cell? ⟨gb355, 0, none⟩ = some (.int .i64 a0_0) ∧ w'.cell? ⟨gb355, 1, none⟩ = some (.int .i64 a0_1) ∧ w'.cell? ⟨gb355, 2, none⟩ = some (.int .i64 a0_2) ∧ w'.cell? ⟨gb355, 3, none⟩ = some (.int .i64 a0_3) ∧ w'.cell? ⟨gb355, 4, none⟩ = some (.int .i64 a0_4) ∧ w'.cell? ⟨gb355, 5, none⟩ = some (.slice A0_5 l0_5.length c0_5) ∧ w'.cell? ⟨gb356, 0, none⟩ = some (.int .i64 a2_0) ∧ w'.cell? ⟨gb356, 1, none⟩ = some (.int .i64 a2_1) ∧ w'.cell? ⟨gb356, 2, none⟩ = some (.int .i64 a2_2) ∧ w'.cell? ⟨gb356, 3, none⟩ = some (.int .i64 a2_3) ∧ w'.cell? ⟨gb356, 4, none⟩ = some (.int .i64 a2_4) ∧ w'.cell? (ad360.add (a2_2).toNat) = some (.slice (some ad361) (rd_L4 l1 a2_2).length c360_0) ∧ w'.cell? (ad361.add (x27_1).toNat) = some (.int .u64 (rd (rd_L4 l1 a2_2) x27_1)) ∧ w'.cell? (ad360.add (a2_3).toNat) = some (.slice (some ad363) (rd_L4 l1 a2_3).length c362_0) ∧ w'.cell? (ad363.add (x27_1).toNat) = some (.int .u64 (rd (rd_L4 l1 a2_3) x27_1))) (ds := []) #[false, false, false, false, false, false, false, false, false, false, false, false, false, false, false, false, false, false, false, false, false, false, false, false] (by kernel_rfl) rfl rfl ⟨(blk_cell BK355.out 0).trans rfl, (blk_cell BK355.out 1).trans rfl, (blk_cell BK355.out 2).trans rfl, (blk_cell BK355.out 3).trans rfl, (blk_cell BK355.out 4).trans rfl, (blk_cell BK355.out 5).trans rfl, (blk_cell BK356.out 0).trans rfl, (blk_cell BK356.out 1).trans rfl, (blk_cell BK356.out 2).trans rfl, (blk_cell BK356.out 3).trans rfl, (blk_cell BK356.out 4).trans rfl, (clA HB.out hw360_0), (clA HB.out hw361_0), (clA HB.out hw362_0), (clA HB.out hw363_0)⟩ (fun hHeld => ?_); refine with_tabW witness_holds.tab6 witness_holds.bits6 (fun HT_ HW_ => ?_)
                  generalize wr.drew = w48 at BK355 BK356 HB HR360_0 HR362_0 hx360_0 hx361_0 hx362_0 hx363_0 hHeld ⊢
                  refine pureA 2 (some 33) HT_.out ?_
                  refine pureA 3 (some 34) HT_.out ?_
                  refine pureA 7 (some 38) HT_.out ?_
                  refine pureA 10 (some 41) HT_.out ?_
                  refine pureA 11 (some 42) HT_.out ?_
                  refine pureA 15 (some 46) HT_.out ?_
                  refine takeA 0 (some 31) rfl HT_.out HW_.out hHeld (Or.inl ⟨by rfl, by rintro w' ⟨s0, s1, s2, s3, s4, s5, s6, s7, s8, s9, s10, s11, s12, s13, s14⟩; go_simp; with_reducible rfl⟩) ?_
                  refine takeA 1 (some 32) rfl HT_.out HW_.out hHeld (Or.inl ⟨by rfl, by rintro w' ⟨s0, s1, s2, s3, s4, s5, s6, s7, s8, s9, s10, s11, s12, s13, s14⟩; go_simp; with_reducible rfl⟩) ?_
                  refine takeA 4 (some 35) rfl HT_.out HW_.out hHeld (Or.inl ⟨by rfl, by rintro w' ⟨s0, s1, s2, s3, s4, s5, s6, s7, s8, s9, s10, s11, s12, s13, s14⟩; go_simp; with_reducible rfl⟩) ?_
                  refine pureA 5 (some 36) HT_.out ?_
                  refine takeA 6 (some 37) rfl HT_.out HW_.out hHeld (Or.inl ⟨by rfl, by rintro w' ⟨s0, s1, s2, s3, s4, s5, s6, s7, s8, s9, s10, s11, s12, s13, s14⟩; go_simp; with_reducible rfl⟩) ?_
                  refine pureA 8 (some 39) HT_.out ?_
                  refine takeA 9 (some 40) rfl HT_.out HW_.out hHeld (Or.inl ⟨by rfl, by rintro w' ⟨s0, s1, s2, s3, s4, s5, s6, s7, s8, s9, s10, s11, s12, s13, s14⟩; go_simp; with_reducible rfl⟩) ?_
                  refine takeA 12 (some 43) rfl HT_.out HW_.out hHeld (Or.inl ⟨by rfl, by rintro w' ⟨s0, s1, s2, s3, s4, s5, s6, s7, s8, s9, s10, s11, s12, s13, s14⟩; go_simp; with_reducible rfl⟩) ?_
                  refine pureA 13 (some 44) HT_.out ?_
                  refine takeA 14 (some 45) rfl HT_.out HW_.out hHeld (Or.inl ⟨by rfl, by rintro w' ⟨s0, s1, s2, s3, s4, s5, s6, s7, s8, s9, s10, s11, s12, s13, s14⟩; go_simp; with_reducible rfl⟩) ?_
                  refine pureA 16 (some 47) HT_.out ?_
                  refine takeA 17 (some 48) rfl HT_.out HW_.out hHeld (Or.inl ⟨by rfl, by rintro w' ⟨s0, s1, s2, s3, s4, s5, s6, s7, s8, s9, s10, s11, s12, s13, s14⟩; go_simp; with_reducible rfl⟩) ?_
                  refine one_ (i := 18) (N := some 49) #[true, true, true, true, true, true, true, true, true, true, true, true, true, true, true, true, true, true, true, false, false, false, false, false] rfl rfl (one_of HT_.out (by kernel_rfl)) (by decide) (fun K hK => ?_)
                  refine goes_ Try.func68 (by kernel_rfl) rfl #[.agg #[.int .i64 a0_0, .int .i64 a0_1, .int .i64 a0_2, .int .i64 a0_3, .int .i64 a0_4, .slice A0_5 l0_5.length c0_5], .agg #[.int .i64 a2_0, .int .i64 a2_1, .int .i64 a2_2, .int .i64 a2_3, .int .i64 a2_4], .int .u64 (rd (rd_L4 l1 a2_2) x27_1), .int .u64 (rd (rd_L4 l1 a2_3) x27_1)] (by rfl) rfl rfl gsA ?_
                  with_reducible refine (witness_made.calls a0_0 a0_1 a0_2 a0_3 a0_4 _ _ l0_5 a2_0 a2_1 a2_2 a2_3 a2_4 (rd (rd_L4 l1 a2_2) x27_1) (rd (rd_L4 l1 a2_3) x27_1) t364 t365 _ ?side1 ?side2 A30.out).mono ?_
                  (case side1 => repeat (first | exact (Kd.C_below HR0_5.out HB.out) | (with_reducible refine Kd.C_alloc ?_ _) | (with_reducible refine Kd.C_drewN ?_ _) | (with_reducible refine Kd.C_drew ?_)))
                  (case side2 => exact HC0_5.out)
                  rintro e w49 ⟨rfl, hb⟩
                  refine ⟨_, rfl, ?_⟩
                  have n0_ := Aside0.mk (blk_below (bkA BK355.out) hb); have n1_ := Aside0.mk (blk_below (bkA BK356.out) hb); have n2_ := Aside0.mk (below_step (blA HB.out) hb); clear BK355; clear BK356; clear HB; have BK355 := n0_; have BK356 := n1_; have HB := n2_; clear n0_ n1_ n2_
                  (try clear hb)
                  refine hK.out _ _ ⟨(blk_cell BK355.out 0).trans rfl, (blk_cell BK355.out 1).trans rfl, (blk_cell BK355.out 2).trans rfl, (blk_cell BK355.out 3).trans rfl, (blk_cell BK355.out 4).trans rfl, (blk_cell BK355.out 5).trans rfl, (blk_cell BK356.out 0).trans rfl, (blk_cell BK356.out 1).trans rfl, (blk_cell BK356.out 2).trans rfl, (blk_cell BK356.out 3).trans rfl, (blk_cell BK356.out 4).trans rfl, (clA (blA HB.out) hw360_0), (clA (blA HB.out) hw361_0), (clA (blA HB.out) hw362_0), (clA (blA HB.out) hw363_0)⟩ (fun hHeld => ?_)
                  clear hK K
                  refine normA ?_
                  refine pureA 19 (some 30) HT_.out ?_
                  refine pureA 20 (some 50) HT_.out ?_
                  refine pureA 21 (some 51) HT_.out ?_
                  refine pureA 22 (some 8) HT_.out ?_
                  refine pureA 23 (some 9) HT_.out ?_
                  refine done_ (done_of HT_.out (by kernel_rfl)) ?_
                  have hnb50 := NB356_355.out; have hnc50 := NB355_356.out
                  have hcz51 := fun i => blk_cell BK356.out i
                  have hfz51 := fun i => blk_frozen BK356.out i
                  have p366 : 0 ≤ (a2_1 : Int) := of_decide_eq_true (by first | (with_reducible assumption) | assumption)
                  have q366 : a2_1 < (l1.length : Int) := of_decide_eq_true (by first | (with_reducible assumption) | assumption)
                  obtain ⟨ad366, A366_0, c366_0, e366, hx366_0, hl366_0, hi366_0⟩ := at_L4 HR1.out a2_1 p366 q366
                  obtain rfl : ad360 = ad366 := (by injection e366)
                  replace hx366_0 := (HB.out.cell (World.block_lt_of_cell? w _ hx366_0)).trans hx366_0; have HR366_0 := Aside0.mk hi366_0; have HC366_0 := Aside0.mk hl366_0; clear hi366_0 hl366_0; replace p366 := eq_true p366; replace q366 := eq_true q366
                  have p367 : 0 ≤ (x27_1 : Int) := of_decide_eq_true (by first | (with_reducible assumption) | assumption)
                  have q367 : x27_1 < ((rd_L4 l1 a2_1).length : Int) := of_decide_eq_true (by first | (with_reducible assumption) | assumption)
                  obtain ⟨ad367, e367, hx367_0⟩ := Kd.at_int HR366_0.out x27_1 p367 q367
                  cases e367
                  replace hx367_0 := (HB.out.cell (World.block_lt_of_cell? w _ hx367_0)).trans hx367_0; replace p367 := eq_true p367; replace q367 := eq_true q367
                  try go_wp2
                  go_roundg k1
                  case measure => have := HK1.out; omega
                  case rel => exact ⟨(wrap64 (x27_1 + 1)), eqA, H', ⟨by have := HK1.out; omega⟩, ⟨bkA BK355.out⟩, ⟨bkA BK356.out⟩, ⟨blA HB.out⟩⟩
                ·rw [if_neg c34] at H
                 have c34b0 : ((rd (rd_L4 l1 a2_1) x27_1) == t364) = false := beq_eq_false_iff_ne.mpr c34; have c34b1 : ((rd (rd_L4 l1 a2_1) x27_1) != t364) = true := bne_iff_ne.mpr c34; obtain rfl := Option.some.inj H
                 try go_wp2
                 have n0_ := Aside0.mk (blk_drew BK355.out); have n1_ := Aside0.mk (blk_drew BK356.out); have n2_ := Aside0.mk (below_drew1 HB.out); clear BK355; clear BK356; clear HB; have BK355 := n0_; have BK356 := n1_; have HB := n2_; clear n0_ n1_ n2_
                 have p360 : 0 ≤ (a2_2 : Int) := of_decide_eq_true (by first | (with_reducible assumption) | assumption)
                 have q360 : a2_2 < (l1.length : Int) := of_decide_eq_true (by first | (with_reducible assumption) | assumption)
                 obtain ⟨ad360, A360_0, c360_0, e360, hx360_0, hl360_0, hi360_0⟩ := at_L4 HR1.out a2_2 p360 q360; have hw360_0 := hx360_0
                 cases e360
                 replace hx360_0 := (HB.out.cell (World.block_lt_of_cell? w _ hx360_0)).trans hx360_0; have HR360_0 := Aside0.mk hi360_0; have HC360_0 := Aside0.mk hl360_0; clear hi360_0 hl360_0; replace p360 := eq_true p360; replace q360 := eq_true q360
                 have p361 : 0 ≤ (x27_1 : Int) := of_decide_eq_true (by first | (with_reducible assumption) | assumption)
                 have q361 : x27_1 < ((rd_L4 l1 a2_2).length : Int) := of_decide_eq_true (by first | (with_reducible assumption) | assumption)
                 obtain ⟨ad361, e361, hx361_0⟩ := Kd.at_int HR360_0.out x27_1 p361 q361; have hw361_0 := hx361_0
                 cases e361
                 replace hx361_0 := (HB.out.cell (World.block_lt_of_cell? w _ hx361_0)).trans hx361_0; replace p361 := eq_true p361; replace q361 := eq_true q361
                 have p362 : 0 ≤ (a2_3 : Int) := of_decide_eq_true (by first | (with_reducible assumption) | assumption)
                 have q362 : a2_3 < (l1.length : Int) := of_decide_eq_true (by first | (with_reducible assumption) | assumption)
                 obtain ⟨ad362, A362_0, c362_0, e362, hx362_0, hl362_0, hi362_0⟩ := at_L4 HR1.out a2_3 p362 q362; have hw362_0 := hx362_0
                 obtain rfl : ad360 = ad362 := (by injection e362)
                 replace hx362_0 := (HB.out.cell (World.block_lt_of_cell? w _ hx362_0)).trans hx362_0; have HR362_0 := Aside0.mk hi362_0; have HC362_0 := Aside0.mk hl362_0; clear hi362_0 hl362_0; replace p362 := eq_true p362; replace q362 := eq_true q362
                 have p363 : 0 ≤ (x27_1 : Int) := of_decide_eq_true (by first | (with_reducible assumption) | assumption)
                 have q363 : x27_1 < ((rd_L4 l1 a2_3).length : Int) := of_decide_eq_true (by first | (with_reducible assumption) | assumption)
                 obtain ⟨ad363, e363, hx363_0⟩ := Kd.at_int HR362_0.out x27_1 p363 q363; have hw363_0 := hx363_0
                 cases e363
                 replace hx363_0 := (HB.out.cell (World.block_lt_of_cell? w _ hx363_0)).trans hx363_0; replace p363 := eq_true p363; replace q363 := eq_true q363
                 refine start_ (n := 24) (S := fun w' => w'.cell? ⟨gb355, 0, none⟩ = some (.int .i64 a0_0) ∧ w'.cell? ⟨gb355, 1, none⟩ = some (.int .i64 a0_1) ∧ w'.cell? ⟨gb355, 2, none⟩ = some (.int .i64 a0_2) ∧ w'.cell? ⟨gb355, 3, none⟩ = some (.int .i64 a0_3) ∧ w'.cell? ⟨gb355, 4, none⟩ = some (.int .i64 a0_4) ∧ w'.cell? ⟨gb355, 5, none⟩ = some (.slice A0_5 l0_5.length c0_5) ∧ w'.cell? ⟨gb356, 0, none⟩ = some (.int .i64 a2_0) ∧ w'.cell? ⟨gb356, 1, none⟩ = some (.int .i64 a2_1) ∧ w'.cell? ⟨gb356, 2, none⟩ = some (.int .i64 a2_2) ∧ w'.cell? ⟨gb356, 3, none⟩ = some (.int .i64 a2_3) ∧ w'.cell? ⟨gb356, 4, none⟩ = some (.int .i64 a2_4) ∧ w'.cell? (ad360.add (a2_2).toNat) = some (.slice (some ad361) (rd_L4 l1 a2_2).length c360_0) ∧ w'.cell? (ad361.add (x27_1).toNat) = some (.int .u64 (rd (rd_L4 l1 a2_2) x27_1)) ∧ w'.cell? (ad360.add (a2_3).toNat) = some (.slice (some ad363) (rd_L4 l1 a2_3).length c362_0) ∧ w'.cell? (ad363.add (x27_1).toNat) = some (.int .u64 (rd (rd_L4 l1 a2_3) x27_1))) (ds := []) #[false, false, false, false, false, false, false, false, false, false, false, false, false, false, false, false, false, false, false, false, false, false, false, false] (by kernel_rfl) rfl rfl ⟨(blk_cell BK355.out 0).trans rfl, (blk_cell BK355.out 1).trans rfl, (blk_cell BK355.out 2).trans rfl, (blk_cell BK355.out 3).trans rfl, (blk_cell BK355.out 4).trans rfl, (blk_cell BK355.out 5).trans rfl, (blk_cell BK356.out 0).trans rfl, (blk_cell BK356.out 1).trans rfl, (blk_cell BK356.out 2).trans rfl, (blk_cell BK356.out 3).trans rfl, (blk_cell BK356.out 4).trans rfl, (clA HB.out hw360_0), (clA HB.out hw361_0), (clA HB.out hw362_0), (clA HB.out hw363_0)⟩ (fun hHeld => ?_); refine with_tabW witness_holds.tab6 witness_holds.bits6 (fun HT_ HW_ => ?_)
                 generalize wr.drew = w52 at BK355 BK356 HB HR360_0 HR362_0 hx360_0 hx361_0 hx362_0 hx363_0 hHeld ⊢
                 refine pureA 2 (some 33) HT_.out ?_
                 refine pureA 3 (some 34) HT_.out ?_
                 refine pureA 7 (some 38) HT_.out ?_
                 refine pureA 10 (some 41) HT_.out ?_
                 refine pureA 11 (some 42) HT_.out ?_
                 refine pureA 15 (some 46) HT_.out ?_
                 refine takeA 0 (some 31) rfl HT_.out HW_.out hHeld (Or.inl ⟨by rfl, by rintro w' ⟨s0, s1, s2, s3, s4, s5, s6, s7, s8, s9, s10, s11, s12, s13, s14⟩; go_simp; with_reducible rfl⟩) ?_
                 refine takeA 1 (some 32) rfl HT_.out HW_.out hHeld (Or.inl ⟨by rfl, by rintro w' ⟨s0, s1, s2, s3, s4, s5, s6, s7, s8, s9, s10, s11, s12, s13, s14⟩; go_simp; with_reducible rfl⟩) ?_
                 refine takeA 4 (some 35) rfl HT_.out HW_.out hHeld (Or.inl ⟨by rfl, by rintro w' ⟨s0, s1, s2, s3, s4, s5, s6, s7, s8, s9, s10, s11, s12, s13, s14⟩; go_simp; with_reducible rfl⟩) ?_
                 refine pureA 5 (some 36) HT_.out ?_
                 refine takeA 6 (some 37) rfl HT_.out HW_.out hHeld (Or.inl ⟨by rfl, by rintro w' ⟨s0, s1, s2, s3, s4, s5, s6, s7, s8, s9, s10, s11, s12, s13, s14⟩; go_simp; with_reducible rfl⟩) ?_
                 refine pureA 8 (some 39) HT_.out ?_
                 refine takeA 9 (some 40) rfl HT_.out HW_.out hHeld (Or.inl ⟨by rfl, by rintro w' ⟨s0, s1, s2, s3, s4, s5, s6, s7, s8, s9, s10, s11, s12, s13, s14⟩; go_simp; with_reducible rfl⟩) ?_
                 refine takeA 12 (some 43) rfl HT_.out HW_.out hHeld (Or.inl ⟨by rfl, by rintro w' ⟨s0, s1, s2, s3, s4, s5, s6, s7, s8, s9, s10, s11, s12, s13, s14⟩; go_simp; with_reducible rfl⟩) ?_
                 refine pureA 13 (some 44) HT_.out ?_
                 refine takeA 14 (some 45) rfl HT_.out HW_.out hHeld (Or.inl ⟨by rfl, by rintro w' ⟨s0, s1, s2, s3, s4, s5, s6, s7, s8, s9, s10, s11, s12, s13, s14⟩; go_simp; with_reducible rfl⟩) ?_
                 refine pureA 16 (some 47) HT_.out ?_
                 refine takeA 17 (some 48) rfl HT_.out HW_.out hHeld (Or.inl ⟨by rfl, by rintro w' ⟨s0, s1, s2, s3, s4, s5, s6, s7, s8, s9, s10, s11, s12, s13, s14⟩; go_simp; with_reducible rfl⟩) ?_
                 refine one_ (i := 18) (N := some 49) #[true, true, true, true, true, true, true, true, true, true, true, true, true, true, true, true, true, true, true, false, false, false, false, false] rfl rfl (one_of HT_.out (by kernel_rfl)) (by decide) (fun K hK => ?_)
                 refine goes_ Try.func68 (by kernel_rfl) rfl #[.agg #[.int .i64 a0_0, .int .i64 a0_1, .int .i64 a0_2, .int .i64 a0_3, .int .i64 a0_4, .slice A0_5 l0_5.length c0_5], .agg #[.int .i64 a2_0, .int .i64 a2_1, .int .i64 a2_2, .int .i64 a2_3, .int .i64 a2_4], .int .u64 (rd (rd_L4 l1 a2_2) x27_1), .int .u64 (rd (rd_L4 l1 a2_3) x27_1)] (by rfl) rfl rfl gsA ?_
                 with_reducible refine (witness_made.calls a0_0 a0_1 a0_2 a0_3 a0_4 _ _ l0_5 a2_0 a2_1 a2_2 a2_3 a2_4 (rd (rd_L4 l1 a2_2) x27_1) (rd (rd_L4 l1 a2_3) x27_1) t364 t365 _ ?side1 ?side2 A30.out).mono ?_
                 (case side1 => repeat (first | exact (Kd.C_below HR0_5.out HB.out) | (with_reducible refine Kd.C_alloc ?_ _) | (with_reducible refine Kd.C_drewN ?_ _) | (with_reducible refine Kd.C_drew ?_)))
                 (case side2 => exact HC0_5.out)
                 rintro e w53 ⟨rfl, hb⟩
                 refine ⟨_, rfl, ?_⟩
                 have n0_ := Aside0.mk (blk_below (bkA BK355.out) hb); have n1_ := Aside0.mk (blk_below (bkA BK356.out) hb); have n2_ := Aside0.mk (below_step (blA HB.out) hb); clear BK355; clear BK356; clear HB; have BK355 := n0_; have BK356 := n1_; have HB := n2_; clear n0_ n1_ n2_
                 (try clear hb)
                 refine hK.out _ _ ⟨(blk_cell BK355.out 0).trans rfl, (blk_cell BK355.out 1).trans rfl, (blk_cell BK355.out 2).trans rfl, (blk_cell BK355.out 3).trans rfl, (blk_cell BK355.out 4).trans rfl, (blk_cell BK355.out 5).trans rfl, (blk_cell BK356.out 0).trans rfl, (blk_cell BK356.out 1).trans rfl, (blk_cell BK356.out 2).trans rfl, (blk_cell BK356.out 3).trans rfl, (blk_cell BK356.out 4).trans rfl, (clA (blA HB.out) hw360_0), (clA (blA HB.out) hw361_0), (clA (blA HB.out) hw362_0), (clA (blA HB.out) hw363_0)⟩ (fun hHeld => ?_)
                 clear hK K
                 refine normA ?_
                 refine pureA 19 (some 30) HT_.out ?_
                 refine pureA 20 (some 50) HT_.out ?_
                 refine pureA 21 (some 51) HT_.out ?_
                 refine pureA 22 (some 8) HT_.out ?_
                 refine pureA 23 (some 9) HT_.out ?_
                 refine done_ (done_of HT_.out (by kernel_rfl)) ?_
                 have hnb54 := NB356_355.out; have hnc54 := NB355_356.out
                 have hcz55 := fun i => blk_cell BK356.out i
                 have hfz55 := fun i => blk_frozen BK356.out i
                 have p366 : 0 ≤ (a2_1 : Int) := of_decide_eq_true (by first | (with_reducible assumption) | assumption)
                 have q366 : a2_1 < (l1.length : Int) := of_decide_eq_true (by first | (with_reducible assumption) | assumption)
                 obtain ⟨ad366, A366_0, c366_0, e366, hx366_0, hl366_0, hi366_0⟩ := at_L4 HR1.out a2_1 p366 q366
                 obtain rfl : ad360 = ad366 := (by injection e366)
                 replace hx366_0 := (HB.out.cell (World.block_lt_of_cell? w _ hx366_0)).trans hx366_0; have HR366_0 := Aside0.mk hi366_0; have HC366_0 := Aside0.mk hl366_0; clear hi366_0 hl366_0; replace p366 := eq_true p366; replace q366 := eq_true q366
                 have p367 : 0 ≤ (x27_1 : Int) := of_decide_eq_true (by first | (with_reducible assumption) | assumption)
                 have q367 : x27_1 < ((rd_L4 l1 a2_1).length : Int) := of_decide_eq_true (by first | (with_reducible assumption) | assumption)
                 obtain ⟨ad367, e367, hx367_0⟩ := Kd.at_int HR366_0.out x27_1 p367 q367
                 cases e367
                 replace hx367_0 := (HB.out.cell (World.block_lt_of_cell? w _ hx367_0)).trans hx367_0; replace p367 := eq_true p367; replace q367 := eq_true q367
                 try go_wp2
                 go_ret
                 exact ⟨by first | rfl | (simp [errW_none, errW_some] <;> rfl) | (simp only [← hji16]; first | rfl | (simp [errW_none, errW_some] <;> rfl)) | (simp [*, errW_none, errW_some] <;> rfl), blA HB.out⟩
               ·rw [if_neg c33] at H
                exact absurd H (by simp)
              ·rw [if_neg c32] at H
               exact absurd H (by simp)
             ·rw [if_neg c31] at H
              exact absurd H (by simp)
            ·rw [if_neg c29] at H
             exact absurd H (by simp)
           ·rw [if_neg c28] at H
            exact absurd H (by simp)
          ·rw [if_neg c27] at H
           exact absurd H (by simp)
         ·rw [if_neg c26] at H
          exact absurd H (by simp)
        ·rw [if_neg c25] at H
         exact absurd H (by simp)
       ·rw [if_neg c24] at H
        exact absurd H (by simp)
      ·rw [if_neg c23] at H
       exact absurd H (by simp)
     ·rw [if_neg c22] at H
      have c22b0 : decide (x27_1 < ji16) = false := decide_eq_false c22; clear c22; obtain rfl := Option.some.inj H
      go_wp2
      go_ret
      exact ⟨by first | rfl | (simp [errW_none, errW_some] <;> rfl) | (simp only [← hji16]; first | rfl | (simp [errW_none, errW_some] <;> rfl)) | (simp [*, errW_none, errW_some] <;> rfl), blA HB.out⟩
  ·rw [if_neg c15] at H
   exact absurd H (by simp)
end Go.Proofs.Ythiiodgpdoljoaa.PLw
namespace Go.Proofs.Ythiiodgpdoljoaa.PLw
open Go.RowKit Go.Proofs.YthiiodgpdoljoaaW.PrintWords Go.Proofs.YthiiodgpdoljoaaW.PrintLast Go.Proofs.YthiiodgpdoljoaaW.PrintMore
attribute [local go_sem] max2_int min2_int max_two min_two max_three min_three max_four min_four   -- for this text's walks alone
set_option linter.unusedVariables false
set_option linter.unusedSimpArgs false
/-! ### circuit_Used: function 22 -/
def circuit_Used.f (k : Nat) (a0_0 : Int) (a0_1 : Int) (a0_2 : Int) (a0_3 : Int) (a0_4 : Int) (l0_5 : List (S105)) : Option (Int) := (circuit_look.f k a0_0 a0_1 a0_2 a0_3 a0_4 l0_5).bind fun bt371 => (some bt371.1)
theorem circuit_Used.mono : ∀ a0 a1 a2 a3 a4 a5 k, LeO (circuit_Used.f k a0 a1 a2 a3 a4 a5) (circuit_Used.f (k + 1) a0 a1 a2 a3 a4 a5) := by
 intro a0 a1 a2 a3 a4 a5 k
 unfold circuit_Used.f
 repeat' first
   | (with_reducible exact circuit_look.mono _ _ _ _ _ _ _)
   | (with_reducible exact LeO.refl _)
   | (with_reducible exact LeO.none _)
   | (with_reducible refine LeO.ite ?_ ?_)
   | (with_reducible refine LeO.bind ?_ (fun _ => ?_))
   | exact circuit_look.mono _ _ _ _ _ _ _
   | exact LeO.none _
   | refine LeO.ite ?_ ?_
   | refine LeO.bind ?_ (fun _ => ?_)
set_option maxHeartbeats 8000000 in
set_option maxRecDepth 100000 in
theorem circuit_Used.calls (k : Nat) (a0_0 : Int) (a0_1 : Int) (a0_2 : Int) (a0_3 : Int) (a0_4 : Int) (A0_5 : Option Addr) (c0_5 : Nat) (l0_5 : List (S105)) (r : Int) (w : World) (hr0_5 : Kd.C k105 w A0_5 l0_5.length l0_5) (hc0_5 : l0_5.length ≤ c0_5) (h : circuit_Used.f k a0_0 a0_1 a0_2 a0_3 a0_4 l0_5 = some r) :
  Calls Try.prog 22 #[.agg #[.int .i64 a0_0, .int .i64 a0_1, .int .i64 a0_2, .int .i64 a0_3, .int .i64 a0_4, .slice A0_5 l0_5.length c0_5]] w fun e w' => e = .returned (.int .i64 r) ∧ Below w.heap.size w w' := by
 have hu24 := Try.underlying24; have HR0_5 := Aside0.mk hr0_5; have HC0_5 := Aside0.mk hc0_5; clear hr0_5 hc0_5; have HB := Aside0.mk (Below.refl w.heap.size w)
 have H : ((circuit_look.f k a0_0 a0_1 a0_2 a0_3 a0_4 l0_5).bind fun bt371 => (some bt371.1)) = some r := h
 clear h; replace H := Option.bind_eq_some_iff.mp H
 obtain ⟨⟨t371, t372⟩, A20, H⟩ := H
 (try dsimp only at H); have A2 := Aside0.mk A20; clear A20; obtain rfl := Option.some.inj H
 go_enter Try.func22, Try.ntmps22
 go_wp2_with (first | ((with_reducible refine gate_dst (N := 1) rfl ?_); refine box_event ?hg (N := 1) ?hd (cs := #[.int .i64 a0_0, .int .i64 a0_1, .int .i64 a0_2, .int .i64 a0_3, .int .i64 a0_4, .slice A0_5 l0_5.length c0_5]) (t := 24) ?hr ?_; (case hd => rfl); (case hg => rfl); (case hr => first | (go_simp; done) | (go_simp; rfl)); intro gb370 hg w3 hbox hb; have n0_ := Aside0.mk (below_step (blA HB.out) hb); have n1_ := Aside0.mk (hbox); have n2_ := Aside0.mk ((by rw [hg]; exact (below_size (blA HB.out)) : w.heap.size ≤ gb370)); have n3_ := Aside0.mk ((by rw [hg]; exact (below_size (blA HB.out)) : w.heap.size ≤ gb370)); clear HB; have HB := n0_; have BK370 := n1_; have GW370 := n2_; have GE370 := n3_; clear n0_ n1_ n2_ n3_; clear hb hbox hg; have hcz4 := fun i => blk_cell BK370.out i; have hfz4 := fun i => blk_frozen BK370.out i; ) | ((with_reducible refine gate_callee (f := 64) rfl ?_); refine goesL_ (some 7) rfl rfl Try.func64 (by kernel_rfl) rfl #[.agg #[.int .i64 a0_0, .int .i64 a0_1, .int .i64 a0_2, .int .i64 a0_3, .int .i64 a0_4, .slice A0_5 l0_5.length c0_5]] rfl gsA ?_; (with_reducible refine (circuit_look.calls k a0_0 a0_1 a0_2 a0_3 a0_4 _ _ l0_5 t371 t372 _ ?side1 ?side2 A2.out).mono ?_); (case side1 => repeat (first | exact (Kd.C_below HR0_5.out HB.out) | (with_reducible refine Kd.C_alloc ?_ _) | (with_reducible refine Kd.C_drewN ?_ _) | (with_reducible refine Kd.C_drew ?_))); (case side2 => exact HC0_5.out); rintro e w5 ⟨rfl, hb⟩; refine ⟨_, rfl, ?_⟩; have n0_ := Aside0.mk (blk_below (bkA BK370.out) hb); have n1_ := Aside0.mk (below_step (blA HB.out) hb); clear BK370; clear HB; have BK370 := n0_; have HB := n1_; clear n0_ n1_; (try clear hb)))
 go_ret
 exact ⟨by first | rfl | (simp [errW_none, errW_some] <;> rfl) | (simp [*, errW_none, errW_some] <;> rfl), blA HB.out⟩
/-! ### witness_ask: function 70 -/
def witness_ask.f (k : Nat) (a0_0 : Int) (a0_1 : Int) (a0_2 : Int) (a0_3 : Int) (a0_4 : Int) (l0_5 : List (S105)) (l1 : List (List Int)) : Option (Int) := (circuit_Check.f k a0_0 a0_1 a0_2 a0_3 a0_4 l0_5).bind fun t374 => (if t374 = 0 then (if 0 ≤ a0_2 then ((witness_fits.f a0_0 a0_1 a0_2 a0_3 a0_4 l0_5 l1 (shl .i64 1 a0_2)).bind fun t375 => (some t375)) else (none)) else (some t374))
theorem witness_ask.mono : ∀ a0 a1 a2 a3 a4 a5 a6 k, LeO (witness_ask.f k a0 a1 a2 a3 a4 a5 a6) (witness_ask.f (k + 1) a0 a1 a2 a3 a4 a5 a6) := by
 intro a0 a1 a2 a3 a4 a5 a6 k
 unfold witness_ask.f
 repeat' first
   | (with_reducible exact circuit_Check.mono _ _ _ _ _ _ _)
   | (with_reducible exact LeO.refl _)
   | (with_reducible exact LeO.none _)
   | (with_reducible refine LeO.ite ?_ ?_)
   | (with_reducible refine LeO.bind ?_ (fun _ => ?_))
   | exact circuit_Check.mono _ _ _ _ _ _ _
   | exact LeO.none _
   | refine LeO.ite ?_ ?_
   | refine LeO.bind ?_ (fun _ => ?_)
set_option maxHeartbeats 8000000 in
set_option maxRecDepth 100000 in
theorem witness_ask.calls (k : Nat) (a0_0 : Int) (a0_1 : Int) (a0_2 : Int) (a0_3 : Int) (a0_4 : Int) (A0_5 : Option Addr) (c0_5 : Nat) (l0_5 : List (S105)) (A1 : Option Addr) (c1 : Nat) (l1 : List (List Int)) (r : Int) (w : World) (hr0_5 : Kd.C k105 w A0_5 l0_5.length l0_5) (hc0_5 : l0_5.length ≤ c0_5) (hr1 : Kd.C (Kd.slice 43 (Kd.int .u64)) w A1 l1.length l1) (hc1 : l1.length ≤ c1) (h : witness_ask.f k a0_0 a0_1 a0_2 a0_3 a0_4 l0_5 l1 = some r) :
  Calls Try.prog 70 #[.agg #[.int .i64 a0_0, .int .i64 a0_1, .int .i64 a0_2, .int .i64 a0_3, .int .i64 a0_4, .slice A0_5 l0_5.length c0_5], .slice A1 l1.length c1] w fun e w' => e = .returned (.int .i64 r) ∧ Below w.heap.size w w' := by
 have hu24 := Try.underlying24; have HR0_5 := Aside0.mk hr0_5; have HC0_5 := Aside0.mk hc0_5; clear hr0_5 hc0_5; have HR1 := Aside0.mk hr1; have HC1 := Aside0.mk hc1; clear hr1 hc1; have HB := Aside0.mk (Below.refl w.heap.size w)
 have H : ((circuit_Check.f k a0_0 a0_1 a0_2 a0_3 a0_4 l0_5).bind fun t374 => (if t374 = 0 then (if 0 ≤ a0_2 then ((witness_fits.f a0_0 a0_1 a0_2 a0_3 a0_4 l0_5 l1 (shl .i64 1 a0_2)).bind fun t375 => (some t375)) else (none)) else (some t374))) = some r := h
 clear h; replace H := Option.bind_eq_some_iff.mp H; obtain ⟨t374, A30, H⟩ := H
 (try dsimp only at H)
 have A3 := Aside0.mk A30; clear A30
 by_cases c4 : t374 = 0
 ·rw [if_pos c4] at H
  have c4b0 : (t374 == 0) = true := beq_iff_eq.mpr c4; have c4b1 : (t374 != 0) = false := bne_eq_false_iff_eq.mpr c4; clear c4
  by_cases c5 : 0 ≤ a0_2
  ·rw [if_pos c5] at H
   have c5b0 := eq_true c5; have c5b1 : decide (0 ≤ a0_2) = true := decide_eq_true c5; clear c5
   obtain ⟨ji6, hji6⟩ : ∃ j_ : Int, (shl .i64 1 a0_2) = j_ := ⟨_, rfl⟩
   replace H : ((witness_fits.f a0_0 a0_1 a0_2 a0_3 a0_4 l0_5 l1 (ji6)).bind fun t375 => (some t375)) = some r := by first | (rw [hji6] at H; exact H) | (simp only [hji6] at H ⊢; exact H)
   (try rw [hji6] at A3)
   have hji6_ : (IntKind.i64.wrap (1 * 2 ^ min a0_2.toNat 64)) = ji6 := hji6; have hji6z : a0_2 ≤ 64 → (IntKind.i64.wrap (1 * 2 ^ a0_2.toNat)) = ji6 := shl_small hji6
   have hji6u : (IntKind.i64.wrap (2 ^ min a0_2.toNat 64)) = ji6 := by have h_ := hji6_; rw [Int.one_mul] at h_; exact h_
   have hji6v : a0_2 ≤ 64 → (IntKind.i64.wrap (2 ^ a0_2.toNat)) = ji6 := fun hle_ => by have h_ := hji6z hle_; rw [Int.one_mul] at h_; exact h_
   have hji6y : (wrap64 (1 * 2 ^ min a0_2.toNat 64)) = ji6 := (i64_w _).symm.trans hji6_
   have hji6x : a0_2 ≤ 64 → (wrap64 (1 * 2 ^ a0_2.toNat)) = ji6 := fun h_ => (i64_w _).symm.trans (hji6z h_)
   replace H := Option.bind_eq_some_iff.mp H; obtain ⟨t375, A70, H⟩ := H; replace H : (some t375) = some r := H; have A7 := Aside0.mk A70; clear A70; obtain rfl := Option.some.inj H
   go_enter Try.func70, Try.ntmps70
   try go_wp2_with (first | ((with_reducible refine gate_dst (N := 2) rfl ?_); refine box_event ?hg (N := 2) ?hd (cs := #[.int .i64 a0_0, .int .i64 a0_1, .int .i64 a0_2, .int .i64 a0_3, .int .i64 a0_4, .slice A0_5 l0_5.length c0_5]) (t := 24) ?hr ?_; (case hd => rfl); (case hg => rfl); (case hr => first | (go_simp; done) | (go_simp; rfl)); intro gb373 hg w8 hbox hb; have n0_ := Aside0.mk (below_step (blA HB.out) hb); have n1_ := Aside0.mk (hbox); have n2_ := Aside0.mk ((by rw [hg]; exact (below_size (blA HB.out)) : w.heap.size ≤ gb373)); have n3_ := Aside0.mk ((by rw [hg]; exact (below_size (blA HB.out)) : w.heap.size ≤ gb373)); clear HB; have HB := n0_; have BK373 := n1_; have GW373 := n2_; have GE373 := n3_; clear n0_ n1_ n2_ n3_; clear hb hbox hg; have hcz9 := fun i => blk_cell BK373.out i; have hfz9 := fun i => blk_frozen BK373.out i; ) | ((with_reducible refine gate_callee (f := 21) rfl ?_); refine goesL_ (some 7) rfl rfl Try.func21 (by kernel_rfl) rfl #[.agg #[.int .i64 a0_0, .int .i64 a0_1, .int .i64 a0_2, .int .i64 a0_3, .int .i64 a0_4, .slice A0_5 l0_5.length c0_5]] rfl gsA ?_; (with_reducible refine (circuit_Check.calls k a0_0 a0_1 a0_2 a0_3 a0_4 _ _ l0_5 t374 _ ?side1 ?side2 A3.out).mono ?_); (case side1 => repeat (first | exact (Kd.C_below HR0_5.out HB.out) | (with_reducible refine Kd.C_alloc ?_ _) | (with_reducible refine Kd.C_drewN ?_ _) | (with_reducible refine Kd.C_drew ?_))); (case side2 => exact HC0_5.out); rintro e w10 ⟨rfl, hb⟩; refine ⟨_, rfl, ?_⟩; have n0_ := Aside0.mk (blk_below (bkA BK373.out) hb); have n1_ := Aside0.mk (below_step (blA HB.out) hb); clear BK373; clear HB; have BK373 := n0_; have HB := n1_; clear n0_ n1_; (try clear hb)))
   have n0_ := Aside0.mk (blk_drew BK373.out); have n1_ := Aside0.mk (below_drew1 HB.out); clear BK373; clear HB; have BK373 := n0_; have HB := n1_; clear n0_ n1_
   refine start_ (n := 7) (S := fun w' => w'.cell? ⟨gb373, 0, none⟩ = some (.int .i64 a0_0) ∧ w'.cell? ⟨gb373, 1, none⟩ = some (.int .i64 a0_1) ∧ w'.cell? ⟨gb373, 2, none⟩ = some (.int .i64 a0_2) ∧ w'.cell? ⟨gb373, 3, none⟩ = some (.int .i64 a0_3) ∧ w'.cell? ⟨gb373, 4, none⟩ = some (.int .i64 a0_4) ∧ w'.cell? ⟨gb373, 5, none⟩ = some (.slice A0_5 l0_5.length c0_5)) (ds := []) #[false, false, false, false, false, false, false] (by kernel_rfl) rfl rfl ⟨(blk_cell BK373.out 0).trans rfl, (blk_cell BK373.out 1).trans rfl, (blk_cell BK373.out 2).trans rfl, (blk_cell BK373.out 3).trans rfl, (blk_cell BK373.out 4).trans rfl, (blk_cell BK373.out 5).trans rfl⟩ (fun hHeld => ?_)
   generalize w10.drew = w11 at BK373 HB hHeld ⊢
   refine pure_ (i := 1) (N := some 12) (v := ?_) (a' := ?_) #[false, true, false, false, false, false, false] rfl rfl (by kernel_rfl) (fun _ _ _ h => h) (Or.inl ⟨by rfl, ?_⟩) ?_ ?_
   rotate_left
   ·intro w'
    go_simp
    with_reducible rfl
   rotate_left
   ·simp only [Act.put, List.setIfInBounds_toArray, List.set_cons_zero, List.set_cons_succ, i64_w, i32_w]
    rfl
   refine pure_ (i := 2) (N := some 13) (v := ?_) (a' := ?_) #[false, true, true, false, false, false, false] rfl rfl (by kernel_rfl) (fun _ _ _ h => h) (Or.inl ⟨by rfl, ?_⟩) ?_ ?_
   rotate_left
   ·intro w'
    go_simp
    with_reducible rfl
   rotate_left
   ·simp only [Act.put, List.setIfInBounds_toArray, List.set_cons_zero, List.set_cons_succ, i64_w, i32_w]
    rfl
   refine take_ (i := 0) (N := some 11) (v := ?_) (a' := ?_) #[true, true, true, false, false, false, false] rfl rfl (by kernel_rfl) (fun _ _ _ h => h) (Or.inl ⟨by rfl, ?_⟩) hHeld ?_ ?_
   rotate_left
   ·rintro w' ⟨s0, s1, s2, s3, s4, s5⟩
    go_simp
    with_reducible rfl
   rotate_left
   ·simp only [Act.put, List.setIfInBounds_toArray, List.set_cons_zero, List.set_cons_succ, i64_w, i32_w]
    rfl
   refine take_ (i := 3) (N := some 14) (v := ?_) (a' := ?_) #[true, true, true, true, false, false, false] rfl rfl (by kernel_rfl) (fun _ _ _ h => h) (Or.inl ⟨by rfl, ?_⟩) hHeld ?_ ?_
   rotate_left
   ·rintro w' ⟨s0, s1, s2, s3, s4, s5⟩
    go_simp
    with_reducible rfl
   rotate_left
   ·simp only [Act.put, List.setIfInBounds_toArray, List.set_cons_zero, List.set_cons_succ, i64_w, i32_w]
    rfl
   refine pure_ (i := 4) (N := some 15) (v := ?_) (a' := ?_) #[true, true, true, true, true, false, false] rfl rfl (by kernel_rfl) (fun _ _ _ h => h) (Or.inl ⟨by rfl, ?_⟩) ?_ ?_
   rotate_left
   ·intro w'
    go_simp
    with_reducible rfl
   rotate_left
   ·simp only [Act.put, List.setIfInBounds_toArray, List.set_cons_zero, List.set_cons_succ, i64_w, i32_w]
    rfl
   refine one_ (i := 5) (N := some 16) #[true, true, true, true, true, true, false] rfl rfl (by kernel_rfl) (by decide) (fun K hK => ?_)
   refine goes_ Try.func65 (by kernel_rfl) rfl #[.agg #[.int .i64 a0_0, .int .i64 a0_1, .int .i64 a0_2, .int .i64 a0_3, .int .i64 a0_4, .slice A0_5 l0_5.length c0_5], .slice A1 l1.length c1, .int .i64 ji6] (by rfl) rfl rfl (by (try simp only [List.map_toArray, List.map_cons, List.map_nil]); first | done | (simp only [hji6]; rfl) | rfl | (simp only [List.length_drop, List.length_take]; rfl)) ?_
   with_reducible refine (witness_fits.calls a0_0 a0_1 a0_2 a0_3 a0_4 _ _ l0_5 _ _ l1 ji6 t375 _ ?side1 ?side2 ?side3 ?side4 A7.out).mono ?_
   (case side1 => repeat (first | exact (Kd.C_below HR0_5.out HB.out) | (with_reducible refine Kd.C_alloc ?_ _) | (with_reducible refine Kd.C_drewN ?_ _) | (with_reducible refine Kd.C_drew ?_)))
   (case side2 => exact HC0_5.out)
   (case side3 => repeat (first | exact (Kd.C_below HR1.out HB.out) | (with_reducible refine Kd.C_alloc ?_ _) | (with_reducible refine Kd.C_drewN ?_ _) | (with_reducible refine Kd.C_drew ?_)))
   (case side4 => exact HC1.out)
   rintro e w12 ⟨rfl, hb⟩
   refine ⟨_, rfl, ?_⟩
   have n0_ := Aside0.mk (blk_below (bkA BK373.out) hb); have n1_ := Aside0.mk (below_step (blA HB.out) hb); clear BK373; clear HB; have BK373 := n0_; have HB := n1_; clear n0_ n1_
   (try clear hb)
   refine hK.out _ _ ⟨(blk_cell BK373.out 0).trans rfl, (blk_cell BK373.out 1).trans rfl, (blk_cell BK373.out 2).trans rfl, (blk_cell BK373.out 3).trans rfl, (blk_cell BK373.out 4).trans rfl, (blk_cell BK373.out 5).trans rfl⟩ (fun hHeld => ?_)
   clear hK K
   refine normA ?_
   refine pure_ (i := 6) (N := some 4) (v := ?_) (a' := ?_) #[true, true, true, true, true, true, true] rfl rfl (by kernel_rfl) (fun _ _ _ h => h) (Or.inl ⟨by rfl, ?_⟩) ?_ ?_
   rotate_left
   ·intro w'
    go_simp
    with_reducible rfl
   rotate_left
   ·simp only [Act.put, List.setIfInBounds_toArray, List.set_cons_zero, List.set_cons_succ, i64_w, i32_w]
    rfl
   refine done_ (by kernel_rfl) ?_
   try go_wp2
   go_ret
   exact ⟨by first | rfl | (simp [errW_none, errW_some] <;> rfl) | (simp only [← hji6]; first | rfl | (simp [errW_none, errW_some] <;> rfl)) | (simp [*, errW_none, errW_some] <;> rfl), blA HB.out⟩
  ·rw [if_neg c5] at H
   exact absurd H (by simp)
 ·rw [if_neg c4] at H
  have c4b0 : (t374 == 0) = false := beq_eq_false_iff_ne.mpr c4; have c4b1 : (t374 != 0) = true := bne_iff_ne.mpr c4; obtain rfl := Option.some.inj H
  go_enter Try.func70, Try.ntmps70
  go_wp2_with (first | ((with_reducible refine gate_dst (N := 2) rfl ?_); refine box_event ?hg (N := 2) ?hd (cs := #[.int .i64 a0_0, .int .i64 a0_1, .int .i64 a0_2, .int .i64 a0_3, .int .i64 a0_4, .slice A0_5 l0_5.length c0_5]) (t := 24) ?hr ?_; (case hd => rfl); (case hg => rfl); (case hr => first | (go_simp; done) | (go_simp; rfl)); intro gb373 hg w13 hbox hb; have n0_ := Aside0.mk (below_step (blA HB.out) hb); have n1_ := Aside0.mk (hbox); have n2_ := Aside0.mk ((by rw [hg]; exact (below_size (blA HB.out)) : w.heap.size ≤ gb373)); have n3_ := Aside0.mk ((by rw [hg]; exact (below_size (blA HB.out)) : w.heap.size ≤ gb373)); clear HB; have HB := n0_; have BK373 := n1_; have GW373 := n2_; have GE373 := n3_; clear n0_ n1_ n2_ n3_; clear hb hbox hg; have hcz14 := fun i => blk_cell BK373.out i; have hfz14 := fun i => blk_frozen BK373.out i; ) | ((with_reducible refine gate_callee (f := 21) rfl ?_); refine goesL_ (some 7) rfl rfl Try.func21 (by kernel_rfl) rfl #[.agg #[.int .i64 a0_0, .int .i64 a0_1, .int .i64 a0_2, .int .i64 a0_3, .int .i64 a0_4, .slice A0_5 l0_5.length c0_5]] rfl gsA ?_; (with_reducible refine (circuit_Check.calls k a0_0 a0_1 a0_2 a0_3 a0_4 _ _ l0_5 t374 _ ?side1 ?side2 A3.out).mono ?_); (case side1 => repeat (first | exact (Kd.C_below HR0_5.out HB.out) | (with_reducible refine Kd.C_alloc ?_ _) | (with_reducible refine Kd.C_drewN ?_ _) | (with_reducible refine Kd.C_drew ?_))); (case side2 => exact HC0_5.out); rintro e w15 ⟨rfl, hb⟩; refine ⟨_, rfl, ?_⟩; have n0_ := Aside0.mk (blk_below (bkA BK373.out) hb); have n1_ := Aside0.mk (below_step (blA HB.out) hb); clear BK373; clear HB; have BK373 := n0_; have HB := n1_; clear n0_ n1_; (try clear hb)))
  go_ret
  exact ⟨by first | rfl | (simp [errW_none, errW_some] <;> rfl) | (simp [*, errW_none, errW_some] <;> rfl), blA HB.out⟩
-- NOT PRINTED: function 98 (api_Gate_98)
-- NOT PRINTED: function 71 (api_Gate_71)
end Go.Proofs.Ythiiodgpdoljoaa.PLw
