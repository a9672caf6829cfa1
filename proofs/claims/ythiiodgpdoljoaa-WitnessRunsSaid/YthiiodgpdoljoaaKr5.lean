import Derived.Test.YthiiodgpdoljoaaKr1
import Derived.Test.YthiiodgpdoljoaaKr0
import Derived.Test.YthiiodgpdoljoaaKr3
import Derived.Test.YthiiodgpdoljoaaKr2
import Derived.Test.YthiiodgpdoljoaaKr4
-- Words and walks that the kit's print has laid for this seat, cut down, and our own texts, merged.
namespace Go.Proofs.Ythiiodgpdoljoaa.PLw
open Go.RowKit Go.Proofs.YthiiodgpdoljoaaW.PrintWords Go.Proofs.YthiiodgpdoljoaaW.PrintLast Go.Proofs.YthiiodgpdoljoaaW.PrintMore
attribute [local go_sem] max2_int min2_int max_two min_two max_three min_three max_four min_four   -- for this text's walks alone
set_option linter.unusedVariables false
set_option linter.unusedSimpArgs false
/-! ### steeplelaw27_awake: function 27 -/
def steeplelaw27_awake.j0 : Nat → Bool → Option (Bool)
 | 0, _ => none
 | k + 1, x0 => some x0
def steeplelaw27_awake.f (k : Nat)  : Option (Bool) := (witness_Run.f k 2 0 2 0 2 (([(⟨7, 2, 0, 1, 3⟩ : S105)] : List (S105))) (([(([9] : List Int)), (([8] : List Int))] : List (List Int)))).bind fun bt217 => (if bt217.2 = 0 then (if (bt217.1.length : Int) = 4 then (if 3 < (bt217.1.length : Int) then (if ((rd_L4 bt217.1 3).length : Int) = 1 then (if 2 < (bt217.1.length : Int) then (if 0 < ((rd_L4 bt217.1 2).length : Int) then (if (rd (rd_L4 bt217.1 2) 0) = 1 then (if 0 < ((rd_L4 bt217.1 3).length : Int) then (steeplelaw27_awake.j0 k ((rd (rd_L4 bt217.1 3) 0) == 8)) else (none)) else (steeplelaw27_awake.j0 k false)) else (none)) else (none)) else (steeplelaw27_awake.j0 k false)) else (none)) else (steeplelaw27_awake.j0 k false)) else (steeplelaw27_awake.j0 k false))
theorem steeplelaw27_awake.mono_l : ∀ k, (∀ y0, LeO (steeplelaw27_awake.j0 k y0) (steeplelaw27_awake.j0 (k + 1) y0))
 | 0 => fun _ r h => by simp [steeplelaw27_awake.j0] at h
 | k + 1 => by
  have ih0 := steeplelaw27_awake.mono_l k
  ·intro y0
   unfold steeplelaw27_awake.j0
   repeat' first
   | (with_reducible exact ih0 _)
   | (with_reducible exact witness_Run.mono _ _ _ _ _ _ _ _)
   | (with_reducible exact LeO.refl _)
   | (with_reducible exact LeO.none _)
   | (with_reducible refine LeO.ite ?_ ?_)
   | (with_reducible refine LeO.bind ?_ (fun _ => ?_))
   | exact ih0 _
   | exact witness_Run.mono _ _ _ _ _ _ _ _
   | exact LeO.none _
   | refine LeO.ite ?_ ?_
   | refine LeO.bind ?_ (fun _ => ?_)
theorem steeplelaw27_awake.mono : ∀ k, LeO (steeplelaw27_awake.f k ) (steeplelaw27_awake.f (k + 1) ) := by
 intro  k
 have ih0 := steeplelaw27_awake.mono_l k
 unfold steeplelaw27_awake.f
 repeat' first
   | (with_reducible exact ih0 _)
   | (with_reducible exact witness_Run.mono _ _ _ _ _ _ _ _)
   | (with_reducible exact LeO.refl _)
   | (with_reducible exact LeO.none _)
   | (with_reducible refine LeO.ite ?_ ?_)
   | (with_reducible refine LeO.bind ?_ (fun _ => ?_))
   | exact ih0 _
   | exact witness_Run.mono _ _ _ _ _ _ _ _
   | exact LeO.none _
   | refine LeO.ite ?_ ?_
   | refine LeO.bind ?_ (fun _ => ?_)
set_option maxHeartbeats 8000000 in
set_option maxRecDepth 100000 in
theorem steeplelaw27_awake.calls (k : Nat)  (r : Bool) (w : World) (h : steeplelaw27_awake.f k  = some r) :
  Calls Try.prog 27 #[] w fun e w' => e = .returned (.bool r) ∧ Below w.heap.size w w' := by
 have hu105 := Try.underlying105; have hu24 := Try.underlying24; have HB := Aside0.mk (Below.refl w.heap.size w)
 have H : ((witness_Run.f k 2 0 2 0 2 (([(⟨7, 2, 0, 1, 3⟩ : S105)] : List (S105))) (([(([9] : List Int)), (([8] : List Int))] : List (List Int)))).bind fun bt217 => (if bt217.2 = 0 then (if (bt217.1.length : Int) = 4 then (if 3 < (bt217.1.length : Int) then (if ((rd_L4 bt217.1 3).length : Int) = 1 then (if 2 < (bt217.1.length : Int) then (if 0 < ((rd_L4 bt217.1 2).length : Int) then (if (rd (rd_L4 bt217.1 2) 0) = 1 then (if 0 < ((rd_L4 bt217.1 3).length : Int) then (steeplelaw27_awake.j0 k ((rd (rd_L4 bt217.1 3) 0) == 8)) else (none)) else (steeplelaw27_awake.j0 k false)) else (none)) else (none)) else (steeplelaw27_awake.j0 k false)) else (none)) else (steeplelaw27_awake.j0 k false)) else (steeplelaw27_awake.j0 k false))) = some r := h
 clear h
 obtain ⟨y204, hy204⟩ : ∃ y_ : List (S105), y_ = (([(⟨7, 2, 0, 1, 3⟩ : S105)] : List (S105))) := ⟨_, rfl⟩
 replace H : ((witness_Run.f k 2 0 2 0 2 y204 (([(([9] : List Int)), (([8] : List Int))] : List (List Int)))).bind fun bt217 => (if bt217.2 = 0 then (if (bt217.1.length : Int) = 4 then (if 3 < (bt217.1.length : Int) then (if ((rd_L4 bt217.1 3).length : Int) = 1 then (if 2 < (bt217.1.length : Int) then (if 0 < ((rd_L4 bt217.1 2).length : Int) then (if (rd (rd_L4 bt217.1 2) 0) = 1 then (if 0 < ((rd_L4 bt217.1 3).length : Int) then (steeplelaw27_awake.j0 k ((rd (rd_L4 bt217.1 3) 0) == 8)) else (none)) else (steeplelaw27_awake.j0 k false)) else (none)) else (none)) else (steeplelaw27_awake.j0 k false)) else (none)) else (steeplelaw27_awake.j0 k false)) else (steeplelaw27_awake.j0 k false))) = some r := by first | (rw [hy204]; with_reducible exact H) | (have H2_ := (Option.bind_some _ _).symm.trans H; rw [hy204]; with_reducible exact H2_) | (have H2_ := (Option.bind_some _ _).symm.trans H; with_reducible exact H2_) | with_reducible exact H | (rw [hy204]; exact H) | exact H
 have Ny204 := Aside0.mk hy204; clear hy204
 obtain ⟨y208, hy208⟩ : ∃ y_ : List Int, y_ = (([9] : List Int)) := ⟨_, rfl⟩
 replace H : ((witness_Run.f k 2 0 2 0 2 y204 (([y208, (([8] : List Int))] : List (List Int)))).bind fun bt217 => (if bt217.2 = 0 then (if (bt217.1.length : Int) = 4 then (if 3 < (bt217.1.length : Int) then (if ((rd_L4 bt217.1 3).length : Int) = 1 then (if 2 < (bt217.1.length : Int) then (if 0 < ((rd_L4 bt217.1 2).length : Int) then (if (rd (rd_L4 bt217.1 2) 0) = 1 then (if 0 < ((rd_L4 bt217.1 3).length : Int) then (steeplelaw27_awake.j0 k ((rd (rd_L4 bt217.1 3) 0) == 8)) else (none)) else (steeplelaw27_awake.j0 k false)) else (none)) else (none)) else (steeplelaw27_awake.j0 k false)) else (none)) else (steeplelaw27_awake.j0 k false)) else (steeplelaw27_awake.j0 k false))) = some r := by first | (rw [hy208]; with_reducible exact H) | (have H2_ := (Option.bind_some _ _).symm.trans H; rw [hy208]; with_reducible exact H2_) | (have H2_ := (Option.bind_some _ _).symm.trans H; with_reducible exact H2_) | with_reducible exact H | (rw [hy208]; exact H) | exact H
 have Ny208 := Aside0.mk hy208; clear hy208
 obtain ⟨y211, hy211⟩ : ∃ y_ : List Int, y_ = (([8] : List Int)) := ⟨_, rfl⟩
 replace H : ((witness_Run.f k 2 0 2 0 2 y204 (([y208, y211] : List (List Int)))).bind fun bt217 => (if bt217.2 = 0 then (if (bt217.1.length : Int) = 4 then (if 3 < (bt217.1.length : Int) then (if ((rd_L4 bt217.1 3).length : Int) = 1 then (if 2 < (bt217.1.length : Int) then (if 0 < ((rd_L4 bt217.1 2).length : Int) then (if (rd (rd_L4 bt217.1 2) 0) = 1 then (if 0 < ((rd_L4 bt217.1 3).length : Int) then (steeplelaw27_awake.j0 k ((rd (rd_L4 bt217.1 3) 0) == 8)) else (none)) else (steeplelaw27_awake.j0 k false)) else (none)) else (none)) else (steeplelaw27_awake.j0 k false)) else (none)) else (steeplelaw27_awake.j0 k false)) else (steeplelaw27_awake.j0 k false))) = some r := by first | (rw [hy211]; with_reducible exact H) | (have H2_ := (Option.bind_some _ _).symm.trans H; rw [hy211]; with_reducible exact H2_) | (have H2_ := (Option.bind_some _ _).symm.trans H; with_reducible exact H2_) | with_reducible exact H | (rw [hy211]; exact H) | exact H
 have Ny211 := Aside0.mk hy211; clear hy211
 obtain ⟨y214, hy214⟩ : ∃ y_ : List (List Int), y_ = (([y208, y211] : List (List Int))) := ⟨_, rfl⟩
 replace H : ((witness_Run.f k 2 0 2 0 2 y204 y214).bind fun bt217 => (if bt217.2 = 0 then (if (bt217.1.length : Int) = 4 then (if 3 < (bt217.1.length : Int) then (if ((rd_L4 bt217.1 3).length : Int) = 1 then (if 2 < (bt217.1.length : Int) then (if 0 < ((rd_L4 bt217.1 2).length : Int) then (if (rd (rd_L4 bt217.1 2) 0) = 1 then (if 0 < ((rd_L4 bt217.1 3).length : Int) then (steeplelaw27_awake.j0 k ((rd (rd_L4 bt217.1 3) 0) == 8)) else (none)) else (steeplelaw27_awake.j0 k false)) else (none)) else (none)) else (steeplelaw27_awake.j0 k false)) else (none)) else (steeplelaw27_awake.j0 k false)) else (steeplelaw27_awake.j0 k false))) = some r := by first | (rw [hy214]; with_reducible exact H) | (have H2_ := (Option.bind_some _ _).symm.trans H; rw [hy214]; with_reducible exact H2_) | (have H2_ := (Option.bind_some _ _).symm.trans H; with_reducible exact H2_) | with_reducible exact H | (rw [hy214]; exact H) | exact H
 have Ny214 := Aside0.mk hy214; clear hy214; replace H := Option.bind_eq_some_iff.mp H
 obtain ⟨⟨t217, t220⟩, A10, H⟩ := H
 (try dsimp only at H)
 have A1 := Aside0.mk A10; clear A10; have HC2 := Aside0.mk H; clear H
 go_enter Try.func27, Try.ntmps27
 go_upto_region 3 with (first | ((with_reducible refine gate_dst (N := 5) rfl ?_); (try (refine gate_guard (by rfl) ?_; dsimp only)); refine Kd.R_lit k105 _ 105 ?hg (N := 5) ?hd (xs := ([(⟨7, 2, 0, 1, 3⟩ : S105)] : List (S105))) (inner := [.int .i64 7, .int .i64 2, .int .i64 0, .int .i64 1, .int .i64 3]) (ok := fun _ => True) (okp := fun _ => True) ?hr ?hp (fun _ hk => hk) trivial (Below.refl _ _) (Nat.le_refl _) (by simp) ?_; (case hd => rfl); (case hg => rfl); (case hr => first | (go_simp; done) | (go_simp; rfl)); (case hp => exact (Reps.c5 (show Kd.M k105 _ _ _ (⟨7, 2, 0, 1, 3⟩ : S105) [.int .i64 7, .int .i64 2, .int .i64 0, .int .i64 1, .int .i64 3] from (k105_mkM _ _ _ (⟨7, 2, 0, 1, 3⟩ : S105) )) (Reps.none _ _))); intro v205 w3 ho4 hb hg_ hnew_; clear hg_ hnew_; (first | rw [← Ny204.out] at ho4 | (simp only [Int.reduceToNat] at ho4; rw [← Ny204.out] at ho4)); have n0_ := Aside0.mk (Kd.R_lower ho4 (below_size (blA HB.out))); have n1_ := Aside0.mk (below_step (blA HB.out) hb); clear HB; have HO206 := n0_; have HB := n1_; clear n0_ n1_; clear hb ho4; obtain ⟨Ao5, co5, eo5⟩ := Kd.R_slice HO206.out; subst eo5) | ((with_reducible refine gate_dst (N := 1) rfl ?_); (try (refine gate_guard (by rfl) ?_; dsimp only)); refine box_event ?hg (N := 1) ?hd (cs := #[.int .i64 0, .int .i64 0, .int .i64 0, .int .i64 0, .int .i64 0, .slice none 0 0]) (t := 24) ?hr ?_; (case hd => rfl); (case hg => rfl); (case hr => first | (go_simp; done) | (go_simp; rfl)); intro gb207 hg w6 hbox hb; have n0_ := Aside0.mk (Kd.R_below (raA HO206.out) hb); have n1_ := Aside0.mk (below_step (blA HB.out) hb); have n2_ := Aside0.mk (hbox); have n3_ := Aside0.mk ((by rw [hg]; exact (below_size (blA HB.out)) : w.heap.size ≤ gb207)); have n4_ := Aside0.mk ((by rw [hg]; exact (below_size (blA HB.out)) : w.heap.size ≤ gb207)); clear HO206; clear HB; have HO206 := n0_; have HB := n1_; have BK207 := n2_; have GW207 := n3_; have GE207 := n4_; clear n0_ n1_ n2_ n3_ n4_; clear hb hbox hg; have hcz7 := fun i => blk_cell BK207.out i; have hfz7 := fun i => blk_frozen BK207.out i; ) | ((with_reducible refine gate_dst (N := 9) rfl ?_); (try (refine gate_guard (by rfl) ?_; dsimp only)); refine Kd.R_lit (Kd.int .u64) _ 43 ?hg (N := 9) ?hd (xs := ([9] : List Int)) (inner := [.int .u64 9]) (ok := fun _ => True) (okp := fun _ => True) ?hr ?hp (fun _ hk => hk) trivial (Below.refl _ _) (Nat.le_refl _) (by simp) ?_; (case hd => rfl); (case hg => rfl); (case hr => first | (go_simp; done) | (go_simp; rfl)); (case hp => exact (Reps.one (show Kd.M (Kd.int .u64) _ _ _ 9 [.int .u64 9] from rfl) (Reps.none _ _))); intro v209 w8 ho9 hb hg_ hnew_; clear hg_ hnew_; (first | rw [← Ny208.out] at ho9 | (simp only [Int.reduceToNat] at ho9; rw [← Ny208.out] at ho9)); have n0_ := Aside0.mk (Kd.R_below (by (with_reducible repeat (first | apply Kd.R_alloc | apply Kd.R_drewN | apply Kd.R_drew)); exact (Kd.R_mono (Kd.R_far (p := ⟨gb207, 5, none⟩) (Kd.R_far (p := ⟨gb207, 4, none⟩) (Kd.R_far (p := ⟨gb207, 3, none⟩) (Kd.R_far (p := ⟨gb207, 2, none⟩) (Kd.R_far (p := ⟨gb207, 1, none⟩) (Kd.R_far (p := ⟨gb207, 0, none⟩) (Kd.R_types HO206.out BK207.out (by decide)) (fun _ hk => hk.2) (.int .i64 2)) (fun _ hk => hk.2) (.int .i64 0)) (fun _ hk => hk.2) (.int .i64 2)) (fun _ hk => hk.2) (.int .i64 0)) (fun _ hk => hk.2) (.int .i64 2)) (fun _ hk => hk.2) (.slice Ao5 y204.length co5)) (fun _ h_ => h_.1))) hb); have n1_ := Aside0.mk (Kd.R_lower ho9 (below_size (blA HB.out))); have n2_ := Aside0.mk (blk_below (g := gb207) (o := .cells #[.int .i64 2, .int .i64 0, .int .i64 2, .int .i64 0, .int .i64 2, .slice Ao5 y204.length co5] 24 (0, 0)) (by refine bkA ?_; refine blk_put (cs := #[.int .i64 2, .int .i64 0, .int .i64 2, .int .i64 0, .int .i64 2, .slice none 0 0]) ?_ 5 _ rfl; refine bkA ?_; refine blk_put (cs := #[.int .i64 2, .int .i64 0, .int .i64 2, .int .i64 0, .int .i64 0, .slice none 0 0]) ?_ 4 _ rfl; refine bkA ?_; refine blk_put (cs := #[.int .i64 2, .int .i64 0, .int .i64 2, .int .i64 0, .int .i64 0, .slice none 0 0]) ?_ 3 _ rfl; refine bkA ?_; refine blk_put (cs := #[.int .i64 2, .int .i64 0, .int .i64 0, .int .i64 0, .int .i64 0, .slice none 0 0]) ?_ 2 _ rfl; refine bkA ?_; refine blk_put (cs := #[.int .i64 2, .int .i64 0, .int .i64 0, .int .i64 0, .int .i64 0, .slice none 0 0]) ?_ 1 _ rfl; refine bkA ?_; refine blk_put (cs := #[.int .i64 0, .int .i64 0, .int .i64 0, .int .i64 0, .int .i64 0, .slice none 0 0]) ?_ 0 _ rfl; refine bkA ?_; exact BK207.out) hb); have n3_ := Aside0.mk (below_step (blA HB.out) hb); clear HO206; clear BK207; clear HB; have HO206 := n0_; have HO210 := n1_; have BK207 := n2_; have HB := n3_; clear n0_ n1_ n2_ n3_; clear hb ho9) | ((with_reducible refine gate_dst (N := 10) rfl ?_); (try (refine gate_guard (by rfl) ?_; dsimp only)); refine Kd.R_lit (Kd.int .u64) _ 43 ?hg (N := 10) ?hd (xs := ([8] : List Int)) (inner := [.int .u64 8]) (ok := fun _ => True) (okp := fun _ => True) ?hr ?hp (fun _ hk => hk) trivial (Below.refl _ _) (Nat.le_refl _) (by simp) ?_; (case hd => rfl); (case hg => rfl); (case hr => first | (go_simp; done) | (go_simp; rfl)); (case hp => exact (Reps.one (show Kd.M (Kd.int .u64) _ _ _ 8 [.int .u64 8] from rfl) (Reps.none _ _))); intro v212 w10 ho11 hb hg_ hnew_; clear hg_ hnew_; (first | rw [← Ny211.out] at ho11 | (simp only [Int.reduceToNat] at ho11; rw [← Ny211.out] at ho11)); have n0_ := Aside0.mk (Kd.R_below (raA HO206.out) hb); have n1_ := Aside0.mk (Kd.R_elder' (raA HO210.out) (Kd.R_base ho11) hb); have n2_ := Aside0.mk (Kd.R_lower (Kd.R_new' ho11 (Kd.R_lt (raA HO210.out))) (below_size (blA HB.out))); have n3_ := Aside0.mk (blk_below (bkA BK207.out) hb); have n4_ := Aside0.mk (below_step (blA HB.out) hb); clear HO206; clear HO210; clear BK207; clear HB; have HO206 := n0_; have HO210 := n1_; have HO213 := n2_; have BK207 := n3_; have HB := n4_; clear n0_ n1_ n2_ n3_ n4_; clear hb ho11; obtain ⟨Ao12, co12, eo12⟩ := Kd.R_slice HO210.out; subst eo12; obtain ⟨Ao13, co13, eo13⟩ := Kd.R_slice HO213.out; subst eo13) | ((with_reducible refine gate_dst (N := 11) rfl ?_); (try (refine gate_guard (by rfl) ?_; dsimp only)); refine Kd.N_lit (Kd.slice 43 (Kd.int .u64)) _ 68 ?hg (N' := 11) ?hd (xs := ([y208, y211] : List (List Int))) (inner := [.slice Ao12 y208.length co12, .slice Ao13 y211.length co13]) (ok := (fun k_ => some k_ ≠ (.slice Ao5 y204.length co5 : Value).ownBlock ∧ k_ ≠ gb207)) (okp := (fun k_ => some k_ ≠ (.slice Ao5 y204.length co5 : Value).ownBlock ∧ k_ ≠ gb207)) ?hr ?hp (fun _ hk => hk) ((show ∀ k_, w10.heap.size ≤ k_ → (fun k_ => some k_ ≠ (.slice Ao5 y204.length co5 : Value).ownBlock ∧ k_ ≠ gb207) k_ from fun k_ hk => ⟨Kd.fresh' (Kd.R_lt (raA HO206.out)) k_ hk, Kd.freshB (bkA BK207.out) k_ hk⟩) _ (Nat.le_refl _)) (Below.refl _ _) (Nat.le_refl _) (by simp) ?_; (case hd => rfl); (case hg => rfl); (case hr => first | (go_simp; done) | (go_simp; rfl)); (case hp => exact (Reps.one (show Kd.FK (Kd.slice 43 (Kd.int .u64)) _ _ y208 [.slice Ao12 y208.length co12] from (Kd.FK_slice_mk (Kd.R_reads' (Kd.R_mono (ok' := (fun k_ => some k_ ≠ (.slice Ao5 y204.length co5 : Value).ownBlock ∧ k_ ≠ gb207)) (Kd.R_types (Kd.R_apart' (HO210.out) (Kd.R_typed HO206.out) (by decide)) BK207.out (by decide)) (fun k_ hk => ⟨hk.1.2, hk.2⟩))).2.1 (Kd.R_F (Kd.R_mono (ok' := (fun k_ => some k_ ≠ (.slice Ao5 y204.length co5 : Value).ownBlock ∧ k_ ≠ gb207)) (Kd.R_types (Kd.R_apart' (HO210.out) (Kd.R_typed HO206.out) (by decide)) BK207.out (by decide)) (fun k_ hk => ⟨hk.1.2, hk.2⟩))))) (Reps.one (show Kd.FK (Kd.slice 43 (Kd.int .u64)) _ _ y211 [.slice Ao13 y211.length co13] from (Kd.FK_slice_mk (Kd.R_reads' (Kd.R_mono (ok' := (fun k_ => some k_ ≠ (.slice Ao5 y204.length co5 : Value).ownBlock ∧ k_ ≠ gb207)) (Kd.R_types (Kd.R_apart' (HO213.out) (Kd.R_typed HO206.out) (by decide)) BK207.out (by decide)) (fun k_ hk => ⟨hk.1.2, hk.2⟩))).2.1 (Kd.R_F (Kd.R_mono (ok' := (fun k_ => some k_ ≠ (.slice Ao5 y204.length co5 : Value).ownBlock ∧ k_ ≠ gb207)) (Kd.R_types (Kd.R_apart' (HO213.out) (Kd.R_typed HO206.out) (by decide)) BK207.out (by decide)) (fun k_ hk => ⟨hk.1.2, hk.2⟩))))) (Reps.none _ _)))); intro v215 w14 ho15 hb hg_ hnew_; clear hg_ hnew_; (first | rw [← Ny214.out] at ho15 | (simp only [Int.reduceToNat] at ho15; rw [← Ny214.out] at ho15)); have n0_ := Aside0.mk (Kd.R_below (raA HO206.out) hb); have n1_ := Aside0.mk (Kd.N_lower ho15 (below_size (blA HB.out))); have n2_ := Aside0.mk (blk_below (bkA BK207.out) hb); have n3_ := Aside0.mk (below_step (blA HB.out) hb); clear HO206; clear BK207; clear HB; clear HO210; clear HO213; have HO206 := n0_; have HO216 := n1_; have BK207 := n2_; have HB := n3_; clear n0_ n1_ n2_ n3_; clear hb ho15; obtain ⟨Ao16, co16, eo16⟩ := Kd.N_slice HO216.out; subst eo16) | ((with_reducible refine gate_callee (f := 28) rfl ?_); refine goesL_ (some 12) rfl rfl Try.func28 (by kernel_rfl) rfl #[.agg #[.int .i64 2, .int .i64 0, .int .i64 2, .int .i64 0, .int .i64 2, .slice Ao5 y204.length co5], .slice Ao16 y214.length co16] rfl gsA ?_; (with_reducible refine (witness_Run.calls k 2 0 2 0 2 _ _ y204 _ _ y214 t217 t220 _ ?side1 ?side2 ?side3 ?side4 A1.out).mono ?_); (case side1 => repeat (first | exact (Kd.R_reads' HO206.out).2.2 | (with_reducible refine Kd.C_alloc ?_ _) | (with_reducible refine Kd.C_drewN ?_ _) | (with_reducible refine Kd.C_drew ?_))); (case side2 => exact (Kd.R_reads' HO206.out).2.1); (case side3 => repeat (first | exact (Kd.N_reads' HO216.out).2.2 | (with_reducible refine Kd.C_alloc ?_ _) | (with_reducible refine Kd.C_drewN ?_ _) | (with_reducible refine Kd.C_drew ?_))); (case side4 => exact (Kd.N_reads' HO216.out).2.1); rintro e w17 ⟨v218, rfl, ho0, hb⟩; refine ⟨_, rfl, ?_⟩; have n0_ := Aside0.mk (Kd.R_below (raA HO206.out) hb); have n1_ := Aside0.mk (Kd.N_elder' (naA HO216.out) (by first | exact Kd.N_base ho0 | exact Kd.N_base (Kd.S_N (Kd.S_bound ho0))) hb); have n2_ := Aside0.mk (Kd.N_lower (Kd.N_mono (ok' := fun k_ => some k_ ≠ (.slice Ao5 y204.length co5 : Value).ownBlock ∧ some k_ ≠ (.slice Ao16 y214.length co16 : Value).ownBlock ∧ k_ ≠ gb207) (Kd.S_N (Kd.S_bound ho0)) (fun k_ hk_ => ⟨(Kd.fresh' (Kd.R_lt (raA HO206.out)) k_ hk_.2.1), (Kd.fresh' (Kd.N_lt (naA HO216.out)) k_ hk_.2.1), (Kd.freshB (bkA BK207.out) k_ hk_.2.1)⟩)) (below_size (blA HB.out))); have n3_ := Aside0.mk (blk_below (bkA BK207.out) hb); have n4_ := Aside0.mk (below_step (blA HB.out) hb); clear HO206; clear HO216; clear BK207; clear HB; have HO206 := n0_; have HO216 := n1_; have HO219 := n2_; have BK207 := n3_; have HB := n4_; clear n0_ n1_ n2_ n3_ n4_; (try clear hb); (try clear ho0)))
 (try simp only [Act.put, List.setIfInBounds_toArray, List.set_cons_zero, List.set_cons_succ])
 go_cut [0] (fun v0 wc => ∃ (kq : Nat) (x0_1 : Bool), v0 = .bool x0_1 ∧ Aside0 (steeplelaw27_awake.j0 kq x0_1 = some r) ∧ Aside0 (kq ≤ k) ∧ Aside0 (Kd.R k105 105 wc w.heap.size (fun _ => True) (.slice Ao5 y204.length co5) y204) ∧ Aside0 (wc.heap[gb207]? = some (.cells #[.int .i64 2, .int .i64 0, .int .i64 2, .int .i64 0, .int .i64 2, (.slice Ao5 y204.length co5)] 24 (0, 0))) ∧ Aside0 (Below w.heap.size w wc))
 case first =>
  have H := HC2.out; clear HC2
  by_cases c18 : t220 = 0
  ·rw [if_pos c18] at H
   have c18b0 : (t220 == 0) = true := beq_iff_eq.mpr c18; have c18b1 : (t220 != 0) = false := bne_eq_false_iff_eq.mpr c18; clear c18
   (first | rw [c18b0] | (simp only [i64_w, i32_w]; rw [c18b0]) | skip)
   by_cases c19 : (t217.length : Int) = 4
   ·rw [if_pos c19] at H
    have c19b0 : ((t217.length : Int) == 4) = true := beq_iff_eq.mpr c19; have c19b1 : ((t217.length : Int) != 4) = false := bne_eq_false_iff_eq.mpr c19; clear c19
    by_cases c20 : 3 < (t217.length : Int)
    ·rw [if_pos c20] at H
     have c20b0 : decide (3 < (t217.length : Int)) = true := decide_eq_true c20
     have c20b1 : decide (3 < t217.length) = true := decide_eq_true (by omega)
     clear c20
     by_cases c21 : ((rd_L4 t217 3).length : Int) = 1
     ·rw [if_pos c21] at H
      have c21b0 : (((rd_L4 t217 3).length : Int) == 1) = true := beq_iff_eq.mpr c21; have c21b1 : (((rd_L4 t217 3).length : Int) != 1) = false := bne_eq_false_iff_eq.mpr c21; clear c21
      by_cases c22 : 2 < (t217.length : Int)
      ·rw [if_pos c22] at H
       have c22b0 : decide (2 < (t217.length : Int)) = true := decide_eq_true c22
       have c22b1 : decide (2 < t217.length) = true := decide_eq_true (by omega)
       clear c22
       by_cases c23 : 0 < ((rd_L4 t217 2).length : Int)
       ·rw [if_pos c23] at H
        have c23b0 : decide (0 < ((rd_L4 t217 2).length : Int)) = true := decide_eq_true c23
        have c23b1 : decide (0 < (rd_L4 t217 2).length) = true := decide_eq_true (by omega)
        clear c23
        by_cases c24 : (rd (rd_L4 t217 2) 0) = 1
        ·rw [if_pos c24] at H
         have c24b0 : ((rd (rd_L4 t217 2) 0) == 1) = true := beq_iff_eq.mpr c24; have c24b1 : ((rd (rd_L4 t217 2) 0) != 1) = false := bne_eq_false_iff_eq.mpr c24; clear c24
         by_cases c25 : 0 < ((rd_L4 t217 3).length : Int)
         ·rw [if_pos c25] at H
          have c25b0 : decide (0 < ((rd_L4 t217 3).length : Int)) = true := decide_eq_true c25
          have c25b1 : decide (0 < (rd_L4 t217 3).length) = true := decide_eq_true (by omega)
          clear c25; have H' := Aside0.mk H; clear H; obtain ⟨Ao26, co26, eo26⟩ := Kd.N_slice HO219.out; subst eo26
          have p221 : 0 ≤ (3 : Int) := (by omega)
          have q221 : 3 < (t217.length : Int) := of_decide_eq_true (by first | (with_reducible assumption) | assumption)
          obtain ⟨ad221, A221_0, c221_0, e221, hx221_0, hl221_0, hi221_0⟩ := at_L4 (Kd.N_reads' HO219.out).2.2 3 p221 q221
          cases e221
          obtain ⟨ce221, hce221, hMe221, hcc221⟩ := Kd.N_get HO219.out [] 3 p221 (by first | exact q221 | exact of_decide_eq_true (by first | (with_reducible assumption) | assumption) | (have e_ := (Kd.N_reads' HO219.out).1; omega))
          obtain ⟨ua221_0, uc221_0, rfl, ul221_0, ge221_0⟩ := Kd.FK_slice_open hMe221; have hv221_0 := hcc221 0 _ rfl
          rw [Nat.add_zero, show ((Kd.slice 43 (Kd.int .u64))).sz = 1 from rfl, Nat.mul_one] at hv221_0
          replace hv221_0 := Option.some.inj (hv221_0.symm.trans hx221_0)
          injection hv221_0 with hva_ hvn_ hvc_
          rw [hva_] at ge221_0
          rw [hvc_] at ul221_0
          have HL221_0 := Aside0.mk (show Kd.V (Kd.int .u64) 43 _ w.heap.size _ _ (rd_L4 t217 3) from Kd.V_mk ul221_0 ge221_0)
          clear hva_ hvn_ hvc_ ge221_0 ul221_0; clear hcc221 hce221
          (try simp only [show (3 : Int).toNat = 3 from rfl, Nat.reduceMul, Nat.reduceEqDiff, Go.Addr.add, ↓reduceIte] at hx221_0)
          have qi221 : (3 < t217.length) = True := eq_true (by omega)
          (try rw [show ((3 : Int)).toNat = 3 from rfl] at hx221_0)
          have HR221_0 := Aside0.mk hi221_0; have HC221_0 := Aside0.mk hl221_0; clear hi221_0 hl221_0; replace p221 := eq_true p221; replace q221 := eq_true q221
          have p222 : 0 ≤ (2 : Int) := (by omega)
          have q222 : 2 < (t217.length : Int) := of_decide_eq_true (by first | (with_reducible assumption) | assumption)
          obtain ⟨ad222, A222_0, c222_0, e222, hx222_0, hl222_0, hi222_0⟩ := at_L4 (Kd.N_reads' HO219.out).2.2 2 p222 q222
          obtain rfl : ad221 = ad222 := (by injection e222)
          obtain ⟨ce222, hce222, hMe222, hcc222⟩ := Kd.N_get HO219.out [] 2 p222 (by first | exact q222 | exact of_decide_eq_true (by first | (with_reducible assumption) | assumption) | (have e_ := (Kd.N_reads' HO219.out).1; omega))
          obtain ⟨ua222_0, uc222_0, rfl, ul222_0, ge222_0⟩ := Kd.FK_slice_open hMe222; have hv222_0 := hcc222 0 _ rfl
          rw [Nat.add_zero, show ((Kd.slice 43 (Kd.int .u64))).sz = 1 from rfl, Nat.mul_one] at hv222_0
          replace hv222_0 := Option.some.inj (hv222_0.symm.trans hx222_0)
          injection hv222_0 with hva_ hvn_ hvc_
          rw [hva_] at ge222_0
          rw [hvc_] at ul222_0
          have HL222_0 := Aside0.mk (show Kd.V (Kd.int .u64) 43 _ w.heap.size _ _ (rd_L4 t217 2) from Kd.V_mk ul222_0 ge222_0)
          clear hva_ hvn_ hvc_ ge222_0 ul222_0; clear hcc222 hce222
          (try simp only [show (2 : Int).toNat = 2 from rfl, Nat.reduceMul, Nat.reduceEqDiff, Go.Addr.add, ↓reduceIte] at hx222_0)
          have qi222 : (2 < t217.length) = True := eq_true (by omega)
          (try rw [show ((2 : Int)).toNat = 2 from rfl] at hx222_0)
          have HR222_0 := Aside0.mk hi222_0; have HC222_0 := Aside0.mk hl222_0; clear hi222_0 hl222_0; replace p222 := eq_true p222; replace q222 := eq_true q222
          have p223 : 0 ≤ (0 : Int) := (by omega)
          have q223 : 0 < ((rd_L4 t217 2).length : Int) := of_decide_eq_true (by first | (with_reducible assumption) | assumption)
          obtain ⟨ad223, e223, hx223_0⟩ := Kd.at_int (by repeat (first | (with_reducible exact HR222_0.out) | (with_reducible refine Kd.C_alloc ?_ _) | (with_reducible refine Kd.C_drewN ?_ _) | (with_reducible refine Kd.C_drew ?_) | exact HR222_0.out)) 0 p223 q223
          cases e223
          have qi223 : (0 < (rd_L4 t217 2).length) = True := eq_true (by omega)
          (try rw [show ((0 : Int)).toNat = 0 from rfl] at hx223_0)
          (try rw [Addr.add_zero'] at hx223_0)
          replace p223 := eq_true p223; replace q223 := eq_true q223
          have p224 : 0 ≤ (3 : Int) := (by omega)
          have q224 : 3 < (t217.length : Int) := of_decide_eq_true (by first | (with_reducible assumption) | assumption)
          obtain ⟨ad224, A224_0, c224_0, e224, hx224_0, hl224_0, hi224_0⟩ := at_L4 (Kd.N_reads' HO219.out).2.2 3 p224 q224
          obtain rfl : ad221 = ad224 := (by injection e224)
          obtain ⟨ce224, hce224, hMe224, hcc224⟩ := Kd.N_get HO219.out [] 3 p224 (by first | exact q224 | exact of_decide_eq_true (by first | (with_reducible assumption) | assumption) | (have e_ := (Kd.N_reads' HO219.out).1; omega))
          obtain ⟨ua224_0, uc224_0, rfl, ul224_0, ge224_0⟩ := Kd.FK_slice_open hMe224; have hv224_0 := hcc224 0 _ rfl
          rw [Nat.add_zero, show ((Kd.slice 43 (Kd.int .u64))).sz = 1 from rfl, Nat.mul_one] at hv224_0
          replace hv224_0 := Option.some.inj (hv224_0.symm.trans hx224_0)
          injection hv224_0 with hva_ hvn_ hvc_
          rw [hva_] at ge224_0
          rw [hvc_] at ul224_0
          have HL224_0 := Aside0.mk (show Kd.V (Kd.int .u64) 43 _ w.heap.size _ _ (rd_L4 t217 3) from Kd.V_mk ul224_0 ge224_0)
          clear hva_ hvn_ hvc_ ge224_0 ul224_0; clear hcc224 hce224
          (try simp only [show (3 : Int).toNat = 3 from rfl, Nat.reduceMul, Nat.reduceEqDiff, Go.Addr.add, ↓reduceIte] at hx224_0)
          have qi224 : (3 < t217.length) = True := eq_true (by omega)
          (try rw [show ((3 : Int)).toNat = 3 from rfl] at hx224_0)
          have HR224_0 := Aside0.mk hi224_0; have HC224_0 := Aside0.mk hl224_0; clear hi224_0 hl224_0; replace p224 := eq_true p224; replace q224 := eq_true q224; have ea_ := Option.some.inj (hx221_0.symm.trans hx224_0)
          injection ea_ with ea_ en_ ec_
          subst ea_; subst ec_; clear en_
          have p225 : 0 ≤ (0 : Int) := (by omega)
          have q225 : 0 < ((rd_L4 t217 3).length : Int) := of_decide_eq_true (by first | (with_reducible assumption) | assumption)
          obtain ⟨ad225, e225, hx225_0⟩ := Kd.at_int (by repeat (first | (with_reducible exact HR224_0.out) | (with_reducible refine Kd.C_alloc ?_ _) | (with_reducible refine Kd.C_drewN ?_ _) | (with_reducible refine Kd.C_drew ?_) | exact HR224_0.out)) 0 p225 q225
          cases e225
          have qi225 : (0 < (rd_L4 t217 3).length) = True := eq_true (by omega)
          (try rw [show ((0 : Int)).toNat = 0 from rfl] at hx225_0)
          (try rw [Addr.add_zero'] at hx225_0)
          replace p225 := eq_true p225; replace q225 := eq_true q225
          go_wp2
          go_meet
          case rel => exact ⟨_, (((rd (rd_L4 t217 3) 0) == 8)), eqA, H', ⟨omA⟩, ⟨raA HO206.out⟩, ⟨bkA BK207.out⟩, ⟨blA HB.out⟩⟩
         ·rw [if_neg c25] at H
          exact absurd H (by simp)
        ·rw [if_neg c24] at H
         have c24b0 : ((rd (rd_L4 t217 2) 0) == 1) = false := beq_eq_false_iff_ne.mpr c24; have c24b1 : ((rd (rd_L4 t217 2) 0) != 1) = true := bne_iff_ne.mpr c24; have H' := Aside0.mk H; clear H; obtain ⟨Ao27, co27, eo27⟩ := Kd.N_slice HO219.out; subst eo27
         have p221 : 0 ≤ (3 : Int) := (by omega)
         have q221 : 3 < (t217.length : Int) := of_decide_eq_true (by first | (with_reducible assumption) | assumption)
         obtain ⟨ad221, A221_0, c221_0, e221, hx221_0, hl221_0, hi221_0⟩ := at_L4 (Kd.N_reads' HO219.out).2.2 3 p221 q221
         cases e221
         obtain ⟨ce221, hce221, hMe221, hcc221⟩ := Kd.N_get HO219.out [] 3 p221 (by first | exact q221 | exact of_decide_eq_true (by first | (with_reducible assumption) | assumption) | (have e_ := (Kd.N_reads' HO219.out).1; omega))
         obtain ⟨ua221_0, uc221_0, rfl, ul221_0, ge221_0⟩ := Kd.FK_slice_open hMe221; have hv221_0 := hcc221 0 _ rfl
         rw [Nat.add_zero, show ((Kd.slice 43 (Kd.int .u64))).sz = 1 from rfl, Nat.mul_one] at hv221_0
         replace hv221_0 := Option.some.inj (hv221_0.symm.trans hx221_0)
         injection hv221_0 with hva_ hvn_ hvc_
         rw [hva_] at ge221_0
         rw [hvc_] at ul221_0
         have HL221_0 := Aside0.mk (show Kd.V (Kd.int .u64) 43 _ w.heap.size _ _ (rd_L4 t217 3) from Kd.V_mk ul221_0 ge221_0)
         clear hva_ hvn_ hvc_ ge221_0 ul221_0; clear hcc221 hce221
         (try simp only [show (3 : Int).toNat = 3 from rfl, Nat.reduceMul, Nat.reduceEqDiff, Go.Addr.add, ↓reduceIte] at hx221_0)
         have qi221 : (3 < t217.length) = True := eq_true (by omega)
         (try rw [show ((3 : Int)).toNat = 3 from rfl] at hx221_0)
         have HR221_0 := Aside0.mk hi221_0; have HC221_0 := Aside0.mk hl221_0; clear hi221_0 hl221_0; replace p221 := eq_true p221; replace q221 := eq_true q221
         have p222 : 0 ≤ (2 : Int) := (by omega)
         have q222 : 2 < (t217.length : Int) := of_decide_eq_true (by first | (with_reducible assumption) | assumption)
         obtain ⟨ad222, A222_0, c222_0, e222, hx222_0, hl222_0, hi222_0⟩ := at_L4 (Kd.N_reads' HO219.out).2.2 2 p222 q222
         obtain rfl : ad221 = ad222 := (by injection e222)
         obtain ⟨ce222, hce222, hMe222, hcc222⟩ := Kd.N_get HO219.out [] 2 p222 (by first | exact q222 | exact of_decide_eq_true (by first | (with_reducible assumption) | assumption) | (have e_ := (Kd.N_reads' HO219.out).1; omega))
         obtain ⟨ua222_0, uc222_0, rfl, ul222_0, ge222_0⟩ := Kd.FK_slice_open hMe222; have hv222_0 := hcc222 0 _ rfl
         rw [Nat.add_zero, show ((Kd.slice 43 (Kd.int .u64))).sz = 1 from rfl, Nat.mul_one] at hv222_0
         replace hv222_0 := Option.some.inj (hv222_0.symm.trans hx222_0)
         injection hv222_0 with hva_ hvn_ hvc_
         rw [hva_] at ge222_0
         rw [hvc_] at ul222_0
         have HL222_0 := Aside0.mk (show Kd.V (Kd.int .u64) 43 _ w.heap.size _ _ (rd_L4 t217 2) from Kd.V_mk ul222_0 ge222_0)
         clear hva_ hvn_ hvc_ ge222_0 ul222_0; clear hcc222 hce222
         (try simp only [show (2 : Int).toNat = 2 from rfl, Nat.reduceMul, Nat.reduceEqDiff, Go.Addr.add, ↓reduceIte] at hx222_0)
         have qi222 : (2 < t217.length) = True := eq_true (by omega)
         (try rw [show ((2 : Int)).toNat = 2 from rfl] at hx222_0)
         have HR222_0 := Aside0.mk hi222_0; have HC222_0 := Aside0.mk hl222_0; clear hi222_0 hl222_0; replace p222 := eq_true p222; replace q222 := eq_true q222
         have p223 : 0 ≤ (0 : Int) := (by omega)
         have q223 : 0 < ((rd_L4 t217 2).length : Int) := of_decide_eq_true (by first | (with_reducible assumption) | assumption)
         obtain ⟨ad223, e223, hx223_0⟩ := Kd.at_int (by repeat (first | (with_reducible exact HR222_0.out) | (with_reducible refine Kd.C_alloc ?_ _) | (with_reducible refine Kd.C_drewN ?_ _) | (with_reducible refine Kd.C_drew ?_) | exact HR222_0.out)) 0 p223 q223
         cases e223
         have qi223 : (0 < (rd_L4 t217 2).length) = True := eq_true (by omega)
         (try rw [show ((0 : Int)).toNat = 0 from rfl] at hx223_0)
         (try rw [Addr.add_zero'] at hx223_0)
         replace p223 := eq_true p223; replace q223 := eq_true q223
         go_wp2
         go_meet
         case rel => exact ⟨_, (false), eqA, H', ⟨omA⟩, ⟨raA HO206.out⟩, ⟨bkA BK207.out⟩, ⟨blA HB.out⟩⟩
       ·rw [if_neg c23] at H
        exact absurd H (by simp)
      ·rw [if_neg c22] at H
       exact absurd H (by simp)
     ·rw [if_neg c21] at H
      have c21b0 : (((rd_L4 t217 3).length : Int) == 1) = false := beq_eq_false_iff_ne.mpr c21; have c21b1 : (((rd_L4 t217 3).length : Int) != 1) = true := bne_iff_ne.mpr c21; have H' := Aside0.mk H; clear H; obtain ⟨Ao28, co28, eo28⟩ := Kd.N_slice HO219.out; subst eo28
      have p221 : 0 ≤ (3 : Int) := (by omega)
      have q221 : 3 < (t217.length : Int) := of_decide_eq_true (by first | (with_reducible assumption) | assumption)
      obtain ⟨ad221, A221_0, c221_0, e221, hx221_0, hl221_0, hi221_0⟩ := at_L4 (Kd.N_reads' HO219.out).2.2 3 p221 q221
      cases e221
      obtain ⟨ce221, hce221, hMe221, hcc221⟩ := Kd.N_get HO219.out [] 3 p221 (by first | exact q221 | exact of_decide_eq_true (by first | (with_reducible assumption) | assumption) | (have e_ := (Kd.N_reads' HO219.out).1; omega))
      obtain ⟨ua221_0, uc221_0, rfl, ul221_0, ge221_0⟩ := Kd.FK_slice_open hMe221; have hv221_0 := hcc221 0 _ rfl
      rw [Nat.add_zero, show ((Kd.slice 43 (Kd.int .u64))).sz = 1 from rfl, Nat.mul_one] at hv221_0
      replace hv221_0 := Option.some.inj (hv221_0.symm.trans hx221_0)
      injection hv221_0 with hva_ hvn_ hvc_
      rw [hva_] at ge221_0
      rw [hvc_] at ul221_0
      have HL221_0 := Aside0.mk (show Kd.V (Kd.int .u64) 43 _ w.heap.size _ _ (rd_L4 t217 3) from Kd.V_mk ul221_0 ge221_0)
      clear hva_ hvn_ hvc_ ge221_0 ul221_0; clear hcc221 hce221
      (try simp only [show (3 : Int).toNat = 3 from rfl, Nat.reduceMul, Nat.reduceEqDiff, Go.Addr.add, ↓reduceIte] at hx221_0)
      have qi221 : (3 < t217.length) = True := eq_true (by omega)
      (try rw [show ((3 : Int)).toNat = 3 from rfl] at hx221_0)
      have HR221_0 := Aside0.mk hi221_0; have HC221_0 := Aside0.mk hl221_0; clear hi221_0 hl221_0; replace p221 := eq_true p221; replace q221 := eq_true q221
      go_wp2
      go_meet
      case rel => exact ⟨_, (false), eqA, H', ⟨omA⟩, ⟨raA HO206.out⟩, ⟨bkA BK207.out⟩, ⟨blA HB.out⟩⟩
    ·rw [if_neg c20] at H
     exact absurd H (by simp)
   ·rw [if_neg c19] at H
    have c19b0 : ((t217.length : Int) == 4) = false := beq_eq_false_iff_ne.mpr c19; have c19b1 : ((t217.length : Int) != 4) = true := bne_iff_ne.mpr c19; have H' := Aside0.mk H; clear H; obtain ⟨Ao29, co29, eo29⟩ := Kd.N_slice HO219.out; subst eo29
    go_wp2
    go_meet
    case rel => exact ⟨_, (false), eqA, H', ⟨omA⟩, ⟨raA HO206.out⟩, ⟨bkA BK207.out⟩, ⟨blA HB.out⟩⟩
  ·rw [if_neg c18] at H
   have c18b0 : (t220 == 0) = false := beq_eq_false_iff_ne.mpr c18; have c18b1 : (t220 != 0) = true := bne_iff_ne.mpr c18
   (first | rw [c18b0] | (simp only [i64_w, i32_w]; rw [c18b0]) | skip)
   have H' := Aside0.mk H; clear H
   go_wp2
   go_meet
   case rel => exact ⟨_, (false), eqA, H', ⟨omA⟩, ⟨raA HO206.out⟩, ⟨bkA BK207.out⟩, ⟨blA HB.out⟩⟩
 case rest =>
  clear HC2; (try clear c1); (try clear c2); (try clear p2); (try clear q2); (try clear hx2); (try clear qi2); (try clear c5); (try clear c18); (try clear c18b0); (try clear c18b1); (try clear c19); (try clear c19b0); (try clear c19b1); (try clear c20); (try clear c20b0); (try clear c20b1); (try clear c21); (try clear c21b0); (try clear c21b1); (try clear c22); (try clear c22b0); (try clear c22b1); (try clear p22); (try clear q22); (try clear hx22); (try clear qi22); (try clear c23); (try clear c23b0); (try clear c23b1); (try clear c24); (try clear c24b0); (try clear c24b1); (try clear c25); (try clear c25b0); (try clear c25b1); (try clear c27); (try clear c28); (try clear hcz7); (try clear hfz7); (try clear hx221_0); (try clear hx222_0); (try clear hx223_0); (try clear hx224_0); (try clear hx225_0); (try clear p221); (try clear p222); (try clear p223); (try clear p224); (try clear p225); (try clear q221); (try clear q222); (try clear q223); (try clear q224); (try clear q225); obtain ⟨kq, x0_1, rfl, HA, HJ1, HO_208005, BK207, HB⟩ := hcut
  cases kq with
  | zero => exact absurd HA.out (by simp [steeplelaw27_awake.j0])
  | succ kj1 =>
   have H := HA.out; clear HA
   simp only [steeplelaw27_awake.j0] at H
   obtain rfl := Option.some.inj H
   go_wp2
   go_ret
   exact ⟨by first | rfl | (simp [errW_none, errW_some] <;> rfl) | (simp [*, errW_none, errW_some] <;> rfl), blA HB.out⟩
end Go.Proofs.Ythiiodgpdoljoaa.PLw
namespace Go.Proofs.Ythiiodgpdoljoaa.PLw
open Go.RowKit Go.Proofs.YthiiodgpdoljoaaW.PrintWords Go.Proofs.YthiiodgpdoljoaaW.PrintLast Go.Proofs.YthiiodgpdoljoaaW.PrintMore
attribute [local go_sem] max2_int min2_int max_two min_two max_three min_three max_four min_four   -- for this text's walks alone
set_option linter.unusedVariables false
set_option linter.unusedSimpArgs false
/-! ### steeplelaw27_same: function 30 -/
mutual
def steeplelaw27_same.l0 : Nat → List (List Int) → List (List Int) → Int → Option (Bool)
 | 0, _, _, _ => none
 | k + 1, x0, x1, x5 => if x5 < (x0.length : Int) then (if 0 ≤ x5 then (if x5 < (x1.length : Int) then (if ((rd_L4 x0 x5).length : Int) = ((rd_L4 x1 x5).length : Int) then (steeplelaw27_same.l1 k x0 x1 x5 0) else (some false)) else (none)) else (none)) else (some true)
def steeplelaw27_same.l1 : Nat → List (List Int) → List (List Int) → Int → Int → Option (Bool)
 | 0, _, _, _, _ => none
 | k + 1, x0, x1, x5, x6 => if 0 ≤ x5 then (if x5 < (x0.length : Int) then (if x6 < ((rd_L4 x0 x5).length : Int) then (if 0 ≤ x6 then (if x5 < (x1.length : Int) then (if x6 < ((rd_L4 x1 x5).length : Int) then (if (rd (rd_L4 x0 x5) x6) = (rd (rd_L4 x1 x5) x6) then (steeplelaw27_same.l1 k x0 x1 x5 (wrap64 (x6 + 1))) else (some false)) else (none)) else (none)) else (none)) else (steeplelaw27_same.l0 k x0 x1 (wrap64 (x5 + 1)))) else (none)) else (none)
end
def steeplelaw27_same.f (k : Nat) (l0 : List (List Int)) (l1 : List (List Int)) : Option (Bool) := if (l0.length : Int) = (l1.length : Int) then (steeplelaw27_same.l0 k l0 l1 0) else (some false)
theorem steeplelaw27_same.mono_l : ∀ k, (∀ y0 y1 y2, LeO (steeplelaw27_same.l0 k y0 y1 y2) (steeplelaw27_same.l0 (k + 1) y0 y1 y2)) ∧ (∀ y0 y1 y2 y3, LeO (steeplelaw27_same.l1 k y0 y1 y2 y3) (steeplelaw27_same.l1 (k + 1) y0 y1 y2 y3))
 | 0 => ⟨fun _ _ _ r h => by simp [steeplelaw27_same.l0] at h, fun _ _ _ _ r h => by simp [steeplelaw27_same.l1] at h⟩
 | k + 1 => by
  obtain ⟨ih0, ih1⟩ := steeplelaw27_same.mono_l k
  refine ⟨?_, ?_⟩
  ·intro y0 y1 y2
   unfold steeplelaw27_same.l0
   repeat' first
   | (with_reducible exact ih0 _ _ _)
   | (with_reducible exact ih1 _ _ _ _)
   | (with_reducible exact LeO.refl _)
   | (with_reducible exact LeO.none _)
   | (with_reducible refine LeO.ite ?_ ?_)
   | (with_reducible refine LeO.bind ?_ (fun _ => ?_))
   | exact ih0 _ _ _
   | exact ih1 _ _ _ _
   | exact LeO.none _
   | refine LeO.ite ?_ ?_
   | refine LeO.bind ?_ (fun _ => ?_)
  ·intro y0 y1 y2 y3
   unfold steeplelaw27_same.l1
   repeat' first
   | (with_reducible exact ih0 _ _ _)
   | (with_reducible exact ih1 _ _ _ _)
   | (with_reducible exact LeO.refl _)
   | (with_reducible exact LeO.none _)
   | (with_reducible refine LeO.ite ?_ ?_)
   | (with_reducible refine LeO.bind ?_ (fun _ => ?_))
   | exact ih0 _ _ _
   | exact ih1 _ _ _ _
   | exact LeO.none _
   | refine LeO.ite ?_ ?_
   | refine LeO.bind ?_ (fun _ => ?_)
theorem steeplelaw27_same.mono : ∀ a0 a1 k, LeO (steeplelaw27_same.f k a0 a1) (steeplelaw27_same.f (k + 1) a0 a1) := by
 intro a0 a1 k
 obtain ⟨ih0, ih1⟩ := steeplelaw27_same.mono_l k
 unfold steeplelaw27_same.f
 repeat' first
   | (with_reducible exact ih0 _ _ _)
   | (with_reducible exact ih1 _ _ _ _)
   | (with_reducible exact LeO.refl _)
   | (with_reducible exact LeO.none _)
   | (with_reducible refine LeO.ite ?_ ?_)
   | (with_reducible refine LeO.bind ?_ (fun _ => ?_))
   | exact ih0 _ _ _
   | exact ih1 _ _ _ _
   | exact LeO.none _
   | refine LeO.ite ?_ ?_
   | refine LeO.bind ?_ (fun _ => ?_)
set_option maxHeartbeats 8000000 in
set_option maxRecDepth 100000 in
theorem steeplelaw27_same.calls (k : Nat) (A0 : Option Addr) (c0 : Nat) (l0 : List (List Int)) (A1 : Option Addr) (c1 : Nat) (l1 : List (List Int)) (r : Bool) (w : World) (hr0 : Kd.C (Kd.slice 43 (Kd.int .u64)) w A0 l0.length l0) (hc0 : l0.length ≤ c0) (hr1 : Kd.C (Kd.slice 43 (Kd.int .u64)) w A1 l1.length l1) (hc1 : l1.length ≤ c1) (h : steeplelaw27_same.f k l0 l1 = some r) :
  Calls Try.prog 30 #[.slice A0 l0.length c0, .slice A1 l1.length c1] w fun e w' => e = .returned (.bool r) ∧ Drawn0 w w' := by
 have HR0 := Aside0.mk hr0; have HC0 := Aside0.mk hc0; clear hr0 hc0; have HR1 := Aside0.mk hr1; have HC1 := Aside0.mk hc1; clear hr1 hc1
 have H : (if (l0.length : Int) = (l1.length : Int) then (steeplelaw27_same.l0 k l0 l1 0) else (some false)) = some r := h
 clear h
 by_cases c3 : (l0.length : Int) = (l1.length : Int)
 ·rw [if_pos c3] at H
  have c3b0 : ((l0.length : Int) == (l1.length : Int)) = true := beq_iff_eq.mpr c3; have c3b1 : ((l0.length : Int) != (l1.length : Int)) = false := bne_eq_false_iff_eq.mpr c3
  have c3b2 : (l0.length == l1.length) = true := by first | simpa using c3 | (simp at c3 ⊢; omega)
  clear c3; have H' := Aside0.mk H; clear H
  go_enter Try.func30, Try.ntmps30
  go_wp2
  repeat (go_quiet (fail); try go_wp2)
  go_loopg [5] k (fun kq v5 w' => ∃ (x5_1 : Int), v5 = .int .i64 x5_1 ∧ Aside0 (steeplelaw27_same.l0 kq l0 l1 x5_1 = some r) ∧ Aside0 (kq ≤ k) ∧ Drawn0 w w')
  case atStart => exact ⟨(0), eqA, H', ⟨Nat.le_refl _⟩, dwA⟩
  case round =>
   clear H'; (try clear c1); (try clear p2); (try clear c3); (try clear c3b0); (try clear c3b1); (try clear c3b2)
   obtain ⟨x5_1, rfl, HA, HK1, ⟨m1, rfl⟩⟩ := hrel
   cases gk with
   | zero => exact absurd HA.out (by simp [steeplelaw27_same.l0])
   | succ k1 =>
    have H := HA.out; clear HA
    simp only [steeplelaw27_same.l0] at H
    by_cases c4 : x5_1 < (l0.length : Int)
    ·rw [if_pos c4] at H
     have c4b0 : decide (x5_1 < (l0.length : Int)) = true := decide_eq_true c4; clear c4
     by_cases c5 : 0 ≤ x5_1
     ·rw [if_pos c5] at H
      have c5b0 : decide (0 ≤ x5_1) = true := decide_eq_true c5; clear c5
      by_cases c6 : x5_1 < (l1.length : Int)
      ·rw [if_pos c6] at H
       have c6b0 : decide (x5_1 < (l1.length : Int)) = true := decide_eq_true c6; clear c6
       by_cases c7 : ((rd_L4 l0 x5_1).length : Int) = ((rd_L4 l1 x5_1).length : Int)
       ·rw [if_pos c7] at H
        have c7b0 : (((rd_L4 l0 x5_1).length : Int) == ((rd_L4 l1 x5_1).length : Int)) = true := beq_iff_eq.mpr c7; have c7b1 : (((rd_L4 l0 x5_1).length : Int) != ((rd_L4 l1 x5_1).length : Int)) = false := bne_eq_false_iff_eq.mpr c7
        have c7b2 : ((rd_L4 l0 x5_1).length == (rd_L4 l1 x5_1).length) = true := by first | simpa using c7 | (simp at c7 ⊢; omega)
        clear c7; have H' := Aside0.mk H; clear H
        have p325 : 0 ≤ (x5_1 : Int) := of_decide_eq_true (by first | (with_reducible assumption) | assumption)
        have q325 : x5_1 < (l0.length : Int) := of_decide_eq_true (by first | (with_reducible assumption) | assumption)
        obtain ⟨ad325, A325_0, c325_0, e325, hx325_0, hl325_0, hi325_0⟩ := at_L4 HR0.out x5_1 p325 q325
        cases e325
        have HR325_0 := Aside0.mk hi325_0; have HC325_0 := Aside0.mk hl325_0; clear hi325_0 hl325_0; replace p325 := eq_true p325; replace q325 := eq_true q325
        have p326 : 0 ≤ (x5_1 : Int) := of_decide_eq_true (by first | (with_reducible assumption) | assumption)
        have q326 : x5_1 < (l1.length : Int) := of_decide_eq_true (by first | (with_reducible assumption) | assumption)
        obtain ⟨ad326, A326_0, c326_0, e326, hx326_0, hl326_0, hi326_0⟩ := at_L4 HR1.out x5_1 p326 q326
        cases e326
        have HR326_0 := Aside0.mk hi326_0; have HC326_0 := Aside0.mk hl326_0; clear hi326_0 hl326_0; replace p326 := eq_true p326; replace q326 := eq_true q326
        go_wp2
        repeat (go_quiet (fail); try go_wp2)
        go_loopg [6] k1 (fun kq v6 w' => ∃ (x6_2 : Int), v6 = .int .i64 x6_2 ∧ Aside0 (steeplelaw27_same.l1 kq l0 l1 x5_1 x6_2 = some r) ∧ Aside0 (kq ≤ k1) ∧ Drawn0 w w')
        case atStart => exact ⟨(0), eqA, H', ⟨Nat.le_refl _⟩, dwA⟩
        case round =>
         clear H'; (try clear c1); (try clear p2); (try clear c3); (try clear c3b0); (try clear c3b1); (try clear c3b2); (try clear p3); (try clear q3); (try clear hx3); (try clear c4); (try clear c4b0); (try clear c5); (try clear c5b0); (try clear c6); (try clear c6b0); (try clear c7); (try clear c7b0); (try clear c7b1); (try clear c7b2); (try clear hx325_0); (try clear hx326_0); (try clear p2); (try clear p325); (try clear p326); (try clear q325); (try clear q326)
         obtain ⟨x6_2, rfl, HA, HK2, ⟨m2, rfl⟩⟩ := hrel
         cases gk with
         | zero => exact absurd HA.out (by simp [steeplelaw27_same.l1])
         | succ k2 =>
          have H := HA.out; clear HA
          simp only [steeplelaw27_same.l1] at H
          by_cases c8 : 0 ≤ x5_1
          ·rw [if_pos c8] at H
           have c8b0 : decide (0 ≤ x5_1) = true := decide_eq_true c8; clear c8
           by_cases c9 : x5_1 < (l0.length : Int)
           ·rw [if_pos c9] at H
            have c9b0 : decide (x5_1 < (l0.length : Int)) = true := decide_eq_true c9; clear c9
            by_cases c10 : x6_2 < ((rd_L4 l0 x5_1).length : Int)
            ·rw [if_pos c10] at H
             have c10b0 : decide (x6_2 < ((rd_L4 l0 x5_1).length : Int)) = true := decide_eq_true c10; clear c10
             by_cases c11 : 0 ≤ x6_2
             ·rw [if_pos c11] at H
              have c11b0 : decide (0 ≤ x6_2) = true := decide_eq_true c11; clear c11
              by_cases c12 : x5_1 < (l1.length : Int)
              ·rw [if_pos c12] at H
               have c12b0 : decide (x5_1 < (l1.length : Int)) = true := decide_eq_true c12; clear c12
               by_cases c13 : x6_2 < ((rd_L4 l1 x5_1).length : Int)
               ·rw [if_pos c13] at H
                have c13b0 : decide (x6_2 < ((rd_L4 l1 x5_1).length : Int)) = true := decide_eq_true c13; clear c13
                by_cases c14 : (rd (rd_L4 l0 x5_1) x6_2) = (rd (rd_L4 l1 x5_1) x6_2)
                ·rw [if_pos c14] at H
                 have c14b0 : ((rd (rd_L4 l0 x5_1) x6_2) == (rd (rd_L4 l1 x5_1) x6_2)) = true := beq_iff_eq.mpr c14; have c14b1 : ((rd (rd_L4 l0 x5_1) x6_2) != (rd (rd_L4 l1 x5_1) x6_2)) = false := bne_eq_false_iff_eq.mpr c14; clear c14; have H' := Aside0.mk H; clear H
                 have p327 : 0 ≤ (x5_1 : Int) := of_decide_eq_true (by first | (with_reducible assumption) | assumption)
                 have q327 : x5_1 < (l0.length : Int) := of_decide_eq_true (by first | (with_reducible assumption) | assumption)
                 obtain ⟨ad327, A327_0, c327_0, e327, hx327_0, hl327_0, hi327_0⟩ := at_L4 HR0.out x5_1 p327 q327
                 obtain rfl : ad325 = ad327 := (by injection e327)
                 have HR327_0 := Aside0.mk hi327_0; have HC327_0 := Aside0.mk hl327_0; clear hi327_0 hl327_0; replace p327 := eq_true p327; replace q327 := eq_true q327
                 have p328 : 0 ≤ (x5_1 : Int) := of_decide_eq_true (by first | (with_reducible assumption) | assumption)
                 have q328 : x5_1 < (l0.length : Int) := of_decide_eq_true (by first | (with_reducible assumption) | assumption)
                 obtain ⟨ad328, A328_0, c328_0, e328, hx328_0, hl328_0, hi328_0⟩ := at_L4 HR0.out x5_1 p328 q328
                 obtain rfl : ad325 = ad328 := (by injection e328)
                 have HR328_0 := Aside0.mk hi328_0; have HC328_0 := Aside0.mk hl328_0; clear hi328_0 hl328_0; replace p328 := eq_true p328; replace q328 := eq_true q328; have ea_ := Option.some.inj (hx327_0.symm.trans hx328_0)
                 injection ea_ with ea_ en_ ec_
                 subst ea_; subst ec_; clear en_
                 have p329 : 0 ≤ (x6_2 : Int) := of_decide_eq_true (by first | (with_reducible assumption) | assumption)
                 have q329 : x6_2 < ((rd_L4 l0 x5_1).length : Int) := of_decide_eq_true (by first | (with_reducible assumption) | assumption)
                 obtain ⟨ad329, e329, hx329_0⟩ := Kd.at_int HR328_0.out x6_2 p329 q329
                 cases e329
                 replace p329 := eq_true p329; replace q329 := eq_true q329
                 have p330 : 0 ≤ (x5_1 : Int) := of_decide_eq_true (by first | (with_reducible assumption) | assumption)
                 have q330 : x5_1 < (l1.length : Int) := of_decide_eq_true (by first | (with_reducible assumption) | assumption)
                 obtain ⟨ad330, A330_0, c330_0, e330, hx330_0, hl330_0, hi330_0⟩ := at_L4 HR1.out x5_1 p330 q330
                 obtain rfl : ad326 = ad330 := (by injection e330)
                 have HR330_0 := Aside0.mk hi330_0; have HC330_0 := Aside0.mk hl330_0; clear hi330_0 hl330_0; replace p330 := eq_true p330; replace q330 := eq_true q330
                 have p331 : 0 ≤ (x6_2 : Int) := of_decide_eq_true (by first | (with_reducible assumption) | assumption)
                 have q331 : x6_2 < ((rd_L4 l1 x5_1).length : Int) := of_decide_eq_true (by first | (with_reducible assumption) | assumption)
                 obtain ⟨ad331, e331, hx331_0⟩ := Kd.at_int HR330_0.out x6_2 p331 q331
                 cases e331
                 replace p331 := eq_true p331; replace q331 := eq_true q331
                 go_wp2
                 repeat (go_quiet (fail); try go_wp2)
                 go_roundg k2
                 case measure => have := HK1.out; have := HK2.out; omega
                 case rel => exact ⟨(wrap64 (x6_2 + 1)), eqA, H', ⟨by have := HK1.out; have := HK2.out; omega⟩, dwA⟩
                ·rw [if_neg c14] at H
                 have c14b0 : ((rd (rd_L4 l0 x5_1) x6_2) == (rd (rd_L4 l1 x5_1) x6_2)) = false := beq_eq_false_iff_ne.mpr c14; have c14b1 : ((rd (rd_L4 l0 x5_1) x6_2) != (rd (rd_L4 l1 x5_1) x6_2)) = true := bne_iff_ne.mpr c14; obtain rfl := Option.some.inj H
                 have p327 : 0 ≤ (x5_1 : Int) := of_decide_eq_true (by first | (with_reducible assumption) | assumption)
                 have q327 : x5_1 < (l0.length : Int) := of_decide_eq_true (by first | (with_reducible assumption) | assumption)
                 obtain ⟨ad327, A327_0, c327_0, e327, hx327_0, hl327_0, hi327_0⟩ := at_L4 HR0.out x5_1 p327 q327
                 obtain rfl : ad325 = ad327 := (by injection e327)
                 have HR327_0 := Aside0.mk hi327_0; have HC327_0 := Aside0.mk hl327_0; clear hi327_0 hl327_0; replace p327 := eq_true p327; replace q327 := eq_true q327
                 have p328 : 0 ≤ (x5_1 : Int) := of_decide_eq_true (by first | (with_reducible assumption) | assumption)
                 have q328 : x5_1 < (l0.length : Int) := of_decide_eq_true (by first | (with_reducible assumption) | assumption)
                 obtain ⟨ad328, A328_0, c328_0, e328, hx328_0, hl328_0, hi328_0⟩ := at_L4 HR0.out x5_1 p328 q328
                 obtain rfl : ad325 = ad328 := (by injection e328)
                 have HR328_0 := Aside0.mk hi328_0; have HC328_0 := Aside0.mk hl328_0; clear hi328_0 hl328_0; replace p328 := eq_true p328; replace q328 := eq_true q328; have ea_ := Option.some.inj (hx327_0.symm.trans hx328_0)
                 injection ea_ with ea_ en_ ec_
                 subst ea_; subst ec_; clear en_
                 have p329 : 0 ≤ (x6_2 : Int) := of_decide_eq_true (by first | (with_reducible assumption) | assumption)
                 have q329 : x6_2 < ((rd_L4 l0 x5_1).length : Int) := of_decide_eq_true (by first | (with_reducible assumption) | assumption)
                 obtain ⟨ad329, e329, hx329_0⟩ := Kd.at_int HR328_0.out x6_2 p329 q329
                 cases e329
                 replace p329 := eq_true p329; replace q329 := eq_true q329
                 have p330 : 0 ≤ (x5_1 : Int) := of_decide_eq_true (by first | (with_reducible assumption) | assumption)
                 have q330 : x5_1 < (l1.length : Int) := of_decide_eq_true (by first | (with_reducible assumption) | assumption)
                 obtain ⟨ad330, A330_0, c330_0, e330, hx330_0, hl330_0, hi330_0⟩ := at_L4 HR1.out x5_1 p330 q330
                 obtain rfl : ad326 = ad330 := (by injection e330)
                 have HR330_0 := Aside0.mk hi330_0; have HC330_0 := Aside0.mk hl330_0; clear hi330_0 hl330_0; replace p330 := eq_true p330; replace q330 := eq_true q330
                 have p331 : 0 ≤ (x6_2 : Int) := of_decide_eq_true (by first | (with_reducible assumption) | assumption)
                 have q331 : x6_2 < ((rd_L4 l1 x5_1).length : Int) := of_decide_eq_true (by first | (with_reducible assumption) | assumption)
                 obtain ⟨ad331, e331, hx331_0⟩ := Kd.at_int HR330_0.out x6_2 p331 q331
                 cases e331
                 replace p331 := eq_true p331; replace q331 := eq_true q331
                 go_wp2
                 repeat (go_quiet (fail); try go_wp2)
                 go_ret
                 exact ⟨eqA, dwA⟩
               ·rw [if_neg c13] at H
                exact absurd H (by simp)
              ·rw [if_neg c12] at H
               exact absurd H (by simp)
             ·rw [if_neg c11] at H
              exact absurd H (by simp)
            ·rw [if_neg c10] at H
             have c10b0 : decide (x6_2 < ((rd_L4 l0 x5_1).length : Int)) = false := decide_eq_false c10; clear c10; have H' := Aside0.mk H; clear H
             have p327 : 0 ≤ (x5_1 : Int) := of_decide_eq_true (by first | (with_reducible assumption) | assumption)
             have q327 : x5_1 < (l0.length : Int) := of_decide_eq_true (by first | (with_reducible assumption) | assumption)
             obtain ⟨ad327, A327_0, c327_0, e327, hx327_0, hl327_0, hi327_0⟩ := at_L4 HR0.out x5_1 p327 q327
             obtain rfl : ad325 = ad327 := (by injection e327)
             have HR327_0 := Aside0.mk hi327_0; have HC327_0 := Aside0.mk hl327_0; clear hi327_0 hl327_0; replace p327 := eq_true p327; replace q327 := eq_true q327
             go_wp2
             repeat (go_quiet (fail); try go_wp2)
             go_roundg k2
             case measure => have := HK1.out; have := HK2.out; omega
             case rel => exact ⟨(wrap64 (x5_1 + 1)), eqA, H', ⟨by have := HK1.out; have := HK2.out; omega⟩, dwA⟩
           ·rw [if_neg c9] at H
            exact absurd H (by simp)
          ·rw [if_neg c8] at H
           exact absurd H (by simp)
       ·rw [if_neg c7] at H
        have c7b0 : (((rd_L4 l0 x5_1).length : Int) == ((rd_L4 l1 x5_1).length : Int)) = false := beq_eq_false_iff_ne.mpr c7; have c7b1 : (((rd_L4 l0 x5_1).length : Int) != ((rd_L4 l1 x5_1).length : Int)) = true := bne_iff_ne.mpr c7
        have c7b2 : ((rd_L4 l0 x5_1).length == (rd_L4 l1 x5_1).length) = false := by first | simpa using c7 | (simp at c7 ⊢; omega)
        obtain rfl := Option.some.inj H
        have p325 : 0 ≤ (x5_1 : Int) := of_decide_eq_true (by first | (with_reducible assumption) | assumption)
        have q325 : x5_1 < (l0.length : Int) := of_decide_eq_true (by first | (with_reducible assumption) | assumption)
        obtain ⟨ad325, A325_0, c325_0, e325, hx325_0, hl325_0, hi325_0⟩ := at_L4 HR0.out x5_1 p325 q325
        cases e325
        have HR325_0 := Aside0.mk hi325_0; have HC325_0 := Aside0.mk hl325_0; clear hi325_0 hl325_0; replace p325 := eq_true p325; replace q325 := eq_true q325
        have p326 : 0 ≤ (x5_1 : Int) := of_decide_eq_true (by first | (with_reducible assumption) | assumption)
        have q326 : x5_1 < (l1.length : Int) := of_decide_eq_true (by first | (with_reducible assumption) | assumption)
        obtain ⟨ad326, A326_0, c326_0, e326, hx326_0, hl326_0, hi326_0⟩ := at_L4 HR1.out x5_1 p326 q326
        cases e326
        have HR326_0 := Aside0.mk hi326_0; have HC326_0 := Aside0.mk hl326_0; clear hi326_0 hl326_0; replace p326 := eq_true p326; replace q326 := eq_true q326
        go_wp2
        repeat (go_quiet (fail); try go_wp2)
        go_ret
        exact ⟨eqA, dwA⟩
      ·rw [if_neg c6] at H
       exact absurd H (by simp)
     ·rw [if_neg c5] at H
      exact absurd H (by simp)
    ·rw [if_neg c4] at H
     have c4b0 : decide (x5_1 < (l0.length : Int)) = false := decide_eq_false c4; clear c4; obtain rfl := Option.some.inj H
     go_wp2
     repeat (go_quiet (fail); try go_wp2)
     go_ret
     exact ⟨eqA, dwA⟩
 ·rw [if_neg c3] at H
  have c3b0 : ((l0.length : Int) == (l1.length : Int)) = false := beq_eq_false_iff_ne.mpr c3; have c3b1 : ((l0.length : Int) != (l1.length : Int)) = true := bne_iff_ne.mpr c3
  have c3b2 : (l0.length == l1.length) = false := by first | simpa using c3 | (simp at c3 ⊢; omega)
  obtain rfl := Option.some.inj H
  go_enter Try.func30, Try.ntmps30
  go_wp2
  repeat (go_quiet (fail); try go_wp2)
  go_ret
  exact ⟨eqA, dwA⟩
end Go.Proofs.Ythiiodgpdoljoaa.PLw
namespace Go.Proofs.Ythiiodgpdoljoaa.PLw
open Go.RowKit Go.Proofs.YthiiodgpdoljoaaW.PrintWords Go.Proofs.YthiiodgpdoljoaaW.PrintLast Go.Proofs.YthiiodgpdoljoaaW.PrintMore
attribute [local go_sem] max2_int min2_int max_two min_two max_three min_three max_four min_four   -- for this text's walks alone
set_option linter.unusedVariables false
set_option linter.unusedSimpArgs false
/-! ### steeplelaw27_WitnessRuns: function 5 -/
mutual
def steeplelaw27_WitnessRuns.j0 : Nat → List (List Int) → Bool → Int → Int → Int → Int → Int → List (S105) → Option (Bool)
 | 0, _, _, _, _, _, _, _, _ => none
 | k + 1, x1, x15, x333000, x333001, x333002, x333003, x333004, x333005 => if x15 = true then ((steeplelaw27_awake.f k).bind fun t335 => (some t335)) else ((witness_Run.f k x333000 x333001 x333002 x333003 x333004 x333005 x1).bind fun bt336 => ((steeplelaw25_Ref.f k x333000 x333001 x333002 x333003 x333004 x333005).bind fun bt340 => ((steepleref27_Run.f k bt340.1 bt340.2.1 bt340.2.2.1 bt340.2.2.2.1 bt340.2.2.2.2.1 bt340.2.2.2.2.2 x1).bind fun bt348 => ((steeplelaw27_awake.f k).bind fun t353 => (if t353 = true then (if bt336.2 = bt348.2 then ((steeplelaw27_same.f k bt336.1 bt348.1).bind fun t354 => (steeplelaw27_WitnessRuns.j1 k t354)) else (steeplelaw27_WitnessRuns.j1 k false)) else (steeplelaw27_WitnessRuns.j1 k false))))))
def steeplelaw27_WitnessRuns.j1 : Nat → Bool → Option (Bool)
 | 0, _ => none
 | k + 1, x4 => some x4
end
def steeplelaw27_WitnessRuns.f (k : Nat) (a0_0 : Int) (a0_1 : Int) (a0_2 : Int) (a0_3 : Int) (a0_4 : Int) (l0_5 : List (S105)) (l1 : List (List Int)) : Option (Bool) := (steeplelaw27_Few.f k a0_0 a0_1 a0_2 a0_3 a0_4 l0_5).bind fun t333 => (if t333 = true then ((steeplelaw27_words.f k l1 10 8).bind fun t334 => (steeplelaw27_WitnessRuns.j0 k l1 (!t334) a0_0 a0_1 a0_2 a0_3 a0_4 l0_5)) else (steeplelaw27_WitnessRuns.j0 k l1 true a0_0 a0_1 a0_2 a0_3 a0_4 l0_5))
theorem steeplelaw27_WitnessRuns.mono_l : ∀ k, (∀ y0 y1 y2 y3 y4 y5 y6 y7, LeO (steeplelaw27_WitnessRuns.j0 k y0 y1 y2 y3 y4 y5 y6 y7) (steeplelaw27_WitnessRuns.j0 (k + 1) y0 y1 y2 y3 y4 y5 y6 y7)) ∧ (∀ y0, LeO (steeplelaw27_WitnessRuns.j1 k y0) (steeplelaw27_WitnessRuns.j1 (k + 1) y0))
 | 0 => ⟨fun _ _ _ _ _ _ _ _ r h => by simp [steeplelaw27_WitnessRuns.j0] at h, fun _ r h => by simp [steeplelaw27_WitnessRuns.j1] at h⟩
 | k + 1 => by
  obtain ⟨ih0, ih1⟩ := steeplelaw27_WitnessRuns.mono_l k
  refine ⟨?_, ?_⟩
  ·intro y0 y1 y2 y3 y4 y5 y6 y7
   unfold steeplelaw27_WitnessRuns.j0
   repeat' first
   | (with_reducible exact ih0 _ _ _ _ _ _ _ _)
   | (with_reducible exact ih1 _)
   | (with_reducible exact steeplelaw25_Ref.mono _ _ _ _ _ _ _)
   | (with_reducible exact steeplelaw27_Few.mono _ _ _ _ _ _ _)
   | (with_reducible exact steeplelaw27_awake.mono _)
   | (with_reducible exact steeplelaw27_same.mono _ _ _)
   | (with_reducible exact steeplelaw27_words.mono _ _ _ _)
   | (with_reducible exact steepleref27_Run.mono _ _ _ _ _ _ _ _)
   | (with_reducible exact witness_Run.mono _ _ _ _ _ _ _ _)
   | (with_reducible exact LeO.refl _)
   | (with_reducible exact LeO.none _)
   | (with_reducible refine LeO.ite ?_ ?_)
   | (with_reducible refine LeO.bind ?_ (fun _ => ?_))
   | exact ih0 _ _ _ _ _ _ _ _
   | exact ih1 _
   | exact steeplelaw25_Ref.mono _ _ _ _ _ _ _
   | exact steeplelaw27_Few.mono _ _ _ _ _ _ _
   | exact steeplelaw27_awake.mono _
   | exact steeplelaw27_same.mono _ _ _
   | exact steeplelaw27_words.mono _ _ _ _
   | exact steepleref27_Run.mono _ _ _ _ _ _ _ _
   | exact witness_Run.mono _ _ _ _ _ _ _ _
   | exact LeO.none _
   | refine LeO.ite ?_ ?_
   | refine LeO.bind ?_ (fun _ => ?_)
  ·intro y0
   unfold steeplelaw27_WitnessRuns.j1
   repeat' first
   | (with_reducible exact ih0 _ _ _ _ _ _ _ _)
   | (with_reducible exact ih1 _)
   | (with_reducible exact steeplelaw25_Ref.mono _ _ _ _ _ _ _)
   | (with_reducible exact steeplelaw27_Few.mono _ _ _ _ _ _ _)
   | (with_reducible exact steeplelaw27_awake.mono _)
   | (with_reducible exact steeplelaw27_same.mono _ _ _)
   | (with_reducible exact steeplelaw27_words.mono _ _ _ _)
   | (with_reducible exact steepleref27_Run.mono _ _ _ _ _ _ _ _)
   | (with_reducible exact witness_Run.mono _ _ _ _ _ _ _ _)
   | (with_reducible exact LeO.refl _)
   | (with_reducible exact LeO.none _)
   | (with_reducible refine LeO.ite ?_ ?_)
   | (with_reducible refine LeO.bind ?_ (fun _ => ?_))
   | exact ih0 _ _ _ _ _ _ _ _
   | exact ih1 _
   | exact steeplelaw25_Ref.mono _ _ _ _ _ _ _
   | exact steeplelaw27_Few.mono _ _ _ _ _ _ _
   | exact steeplelaw27_awake.mono _
   | exact steeplelaw27_same.mono _ _ _
   | exact steeplelaw27_words.mono _ _ _ _
   | exact steepleref27_Run.mono _ _ _ _ _ _ _ _
   | exact witness_Run.mono _ _ _ _ _ _ _ _
   | exact LeO.none _
   | refine LeO.ite ?_ ?_
   | refine LeO.bind ?_ (fun _ => ?_)
theorem steeplelaw27_WitnessRuns.mono : ∀ a0 a1 a2 a3 a4 a5 a6 k, LeO (steeplelaw27_WitnessRuns.f k a0 a1 a2 a3 a4 a5 a6) (steeplelaw27_WitnessRuns.f (k + 1) a0 a1 a2 a3 a4 a5 a6) := by
 intro a0 a1 a2 a3 a4 a5 a6 k
 obtain ⟨ih0, ih1⟩ := steeplelaw27_WitnessRuns.mono_l k
 unfold steeplelaw27_WitnessRuns.f
 repeat' first
   | (with_reducible exact ih0 _ _ _ _ _ _ _ _)
   | (with_reducible exact ih1 _)
   | (with_reducible exact steeplelaw25_Ref.mono _ _ _ _ _ _ _)
   | (with_reducible exact steeplelaw27_Few.mono _ _ _ _ _ _ _)
   | (with_reducible exact steeplelaw27_awake.mono _)
   | (with_reducible exact steeplelaw27_same.mono _ _ _)
   | (with_reducible exact steeplelaw27_words.mono _ _ _ _)
   | (with_reducible exact steepleref27_Run.mono _ _ _ _ _ _ _ _)
   | (with_reducible exact witness_Run.mono _ _ _ _ _ _ _ _)
   | (with_reducible exact LeO.refl _)
   | (with_reducible exact LeO.none _)
   | (with_reducible refine LeO.ite ?_ ?_)
   | (with_reducible refine LeO.bind ?_ (fun _ => ?_))
   | exact ih0 _ _ _ _ _ _ _ _
   | exact ih1 _
   | exact steeplelaw25_Ref.mono _ _ _ _ _ _ _
   | exact steeplelaw27_Few.mono _ _ _ _ _ _ _
   | exact steeplelaw27_awake.mono _
   | exact steeplelaw27_same.mono _ _ _
   | exact steeplelaw27_words.mono _ _ _ _
   | exact steepleref27_Run.mono _ _ _ _ _ _ _ _
   | exact witness_Run.mono _ _ _ _ _ _ _ _
   | exact LeO.none _
   | refine LeO.ite ?_ ?_
   | refine LeO.bind ?_ (fun _ => ?_)
set_option maxHeartbeats 8000000 in
set_option maxRecDepth 100000 in
theorem steeplelaw27_WitnessRuns.calls (k : Nat) (a0_0 : Int) (a0_1 : Int) (a0_2 : Int) (a0_3 : Int) (a0_4 : Int) (A0_5 : Option Addr) (c0_5 : Nat) (l0_5 : List (S105)) (A1 : Option Addr) (c1 : Nat) (l1 : List (List Int)) (r : Bool) (w : World) (hr0_5 : Kd.C k105 w A0_5 l0_5.length l0_5) (hc0_5 : l0_5.length ≤ c0_5) (hr1 : Kd.C (Kd.slice 43 (Kd.int .u64)) w A1 l1.length l1) (hc1 : l1.length ≤ c1) (h : steeplelaw27_WitnessRuns.f k a0_0 a0_1 a0_2 a0_3 a0_4 l0_5 l1 = some r) :
  Calls Try.prog 5 #[.agg #[.int .i64 a0_0, .int .i64 a0_1, .int .i64 a0_2, .int .i64 a0_3, .int .i64 a0_4, .slice A0_5 l0_5.length c0_5], .slice A1 l1.length c1] w fun e w' => e = .returned (.bool r) ∧ Below w.heap.size w w' := by
 have hu24 := Try.underlying24; have hu61 := Try.underlying61; have HR0_5 := Aside0.mk hr0_5; have HC0_5 := Aside0.mk hc0_5; clear hr0_5 hc0_5; have HR1 := Aside0.mk hr1; have HC1 := Aside0.mk hc1; clear hr1 hc1; have HB := Aside0.mk (Below.refl w.heap.size w)
 have H : ((steeplelaw27_Few.f k a0_0 a0_1 a0_2 a0_3 a0_4 l0_5).bind fun t333 => (if t333 = true then ((steeplelaw27_words.f k l1 10 8).bind fun t334 => (steeplelaw27_WitnessRuns.j0 k l1 (!t334) a0_0 a0_1 a0_2 a0_3 a0_4 l0_5)) else (steeplelaw27_WitnessRuns.j0 k l1 true a0_0 a0_1 a0_2 a0_3 a0_4 l0_5))) = some r := h
 clear h; have HC3 := Aside0.mk H; clear H
 go_enter Try.func5, Try.ntmps5
 go_upto_region 1 with (first | ((with_reducible refine gate_dst (N := 2) rfl ?_); refine box_event ?hg (N := 2) ?hd (cs := #[.int .i64 a0_0, .int .i64 a0_1, .int .i64 a0_2, .int .i64 a0_3, .int .i64 a0_4, .slice A0_5 l0_5.length c0_5]) (t := 24) ?hr ?_; (case hd => rfl); (case hg => rfl); (case hr => first | (go_simp; done) | (go_simp; rfl)); intro gb332 hg w4 hbox hb; have n0_ := Aside0.mk (below_step (blA HB.out) hb); have n1_ := Aside0.mk (hbox); have n2_ := Aside0.mk ((by rw [hg]; exact (below_size (blA HB.out)) : w.heap.size ≤ gb332)); have n3_ := Aside0.mk ((by rw [hg]; exact (below_size (blA HB.out)) : w.heap.size ≤ gb332)); clear HB; have HB := n0_; have BK332 := n1_; have GW332 := n2_; have GE332 := n3_; clear n0_ n1_ n2_ n3_; clear hb hbox hg))
 (try simp only [Act.put, List.setIfInBounds_toArray, List.set_cons_zero, List.set_cons_succ])
 go_cut [15] (fun v15 wc => ∃ (kq : Nat) (x15_2 : Bool), v15 = .bool x15_2 ∧ Aside0 (steeplelaw27_WitnessRuns.j0 kq l1 x15_2 a0_0 a0_1 a0_2 a0_3 a0_4 l0_5 = some r) ∧ Aside0 (kq ≤ k) ∧ Aside0 (wc.heap[gb332]? = some (.cells #[.int .i64 a0_0, .int .i64 a0_1, .int .i64 a0_2, .int .i64 a0_3, .int .i64 a0_4, (.slice A0_5 l0_5.length c0_5)] 24 (0, 0))) ∧ Aside0 (Below w.heap.size w wc))
 case first =>
  have H := HC3.out; clear HC3; replace H := Option.bind_eq_some_iff.mp H; obtain ⟨t333, A50, H⟩ := H
  (try dsimp only at H)
  have A5 := Aside0.mk A50; clear A50
  by_cases c6 : t333 = true
  ·subst c6
   have H1 : ((steeplelaw27_words.f k l1 10 8).bind fun t334 => (steeplelaw27_WitnessRuns.j0 k l1 (!t334) a0_0 a0_1 a0_2 a0_3 a0_4 l0_5)) = some r := by rw [if_pos rfl] at H; exact H
   clear H; have H := H1; clear H1; replace H := Option.bind_eq_some_iff.mp H; obtain ⟨t334, A70, H⟩ := H; replace H : (steeplelaw27_WitnessRuns.j0 k l1 (!t334) a0_0 a0_1 a0_2 a0_3 a0_4 l0_5) = some r := H; have A7 := Aside0.mk A70; clear A70; have H' := Aside0.mk H; clear H
   have hcz8 := fun i => blk_cell BK332.out i
   have hfz8 := fun i => blk_frozen BK332.out i
   go_wp2_with (first | ((with_reducible refine gate_callee (f := 25) rfl ?_); refine goesL_ (some 9) rfl rfl Try.func25 (by kernel_rfl) rfl #[.agg #[.int .i64 a0_0, .int .i64 a0_1, .int .i64 a0_2, .int .i64 a0_3, .int .i64 a0_4, .slice A0_5 l0_5.length c0_5]] rfl gsA ?_; (with_reducible refine (steeplelaw27_Few.calls k a0_0 a0_1 a0_2 a0_3 a0_4 _ _ l0_5 true _ ?side1 ?side2 A5.out).mono ?_); (case side1 => repeat (first | exact (Kd.C_below HR0_5.out HB.out) | (with_reducible refine Kd.C_alloc ?_ _) | (with_reducible refine Kd.C_drewN ?_ _) | (with_reducible refine Kd.C_drew ?_))); (case side2 => exact HC0_5.out); rintro e w9 ⟨rfl, hb⟩; refine ⟨_, rfl, ?_⟩; have n0_ := Aside0.mk (blk_below (bkA BK332.out) hb); have n1_ := Aside0.mk (below_step (blA HB.out) hb); clear BK332; clear HB; have BK332 := n0_; have HB := n1_; clear n0_ n1_; (try clear hb)) | (go_at_call 26; (with_reducible refine (steeplelaw27_words.calls k _ _ l1 10 8 t334 _ ?side1 ?side2 A7.out).mono ?_); (case side1 => repeat (first | exact (Kd.C_below HR1.out HB.out) | (with_reducible refine Kd.C_alloc ?_ _) | (with_reducible refine Kd.C_drewN ?_ _) | (with_reducible refine Kd.C_drew ?_))); (case side2 => exact HC1.out); rintro e w' ⟨rfl, ⟨nd, rfl⟩⟩))
   go_meet
   case rel => exact ⟨_, (!t334), eqA, H', ⟨omA⟩, ⟨bkA BK332.out⟩, ⟨blA HB.out⟩⟩
  ·replace c6 := Bool.eq_false_iff.mpr c6; subst c6
   have H1 : (steeplelaw27_WitnessRuns.j0 k l1 true a0_0 a0_1 a0_2 a0_3 a0_4 l0_5) = some r := by rw [if_neg (show ¬ (false = true) by decide)] at H; exact H
   clear H; have H := H1; clear H1; have H' := Aside0.mk H; clear H
   have hcz10 := fun i => blk_cell BK332.out i
   have hfz10 := fun i => blk_frozen BK332.out i
   go_wp2_with (first | ((with_reducible refine gate_callee (f := 25) rfl ?_); refine goesL_ (some 9) rfl rfl Try.func25 (by kernel_rfl) rfl #[.agg #[.int .i64 a0_0, .int .i64 a0_1, .int .i64 a0_2, .int .i64 a0_3, .int .i64 a0_4, .slice A0_5 l0_5.length c0_5]] rfl gsA ?_; (with_reducible refine (steeplelaw27_Few.calls k a0_0 a0_1 a0_2 a0_3 a0_4 _ _ l0_5 false _ ?side1 ?side2 A5.out).mono ?_); (case side1 => repeat (first | exact (Kd.C_below HR0_5.out HB.out) | (with_reducible refine Kd.C_alloc ?_ _) | (with_reducible refine Kd.C_drewN ?_ _) | (with_reducible refine Kd.C_drew ?_))); (case side2 => exact HC0_5.out); rintro e w11 ⟨rfl, hb⟩; refine ⟨_, rfl, ?_⟩; have n0_ := Aside0.mk (blk_below (bkA BK332.out) hb); have n1_ := Aside0.mk (below_step (blA HB.out) hb); clear BK332; clear HB; have BK332 := n0_; have HB := n1_; clear n0_ n1_; (try clear hb)))
   go_meet
   case rel => exact ⟨_, (true), eqA, H', ⟨omA⟩, ⟨bkA BK332.out⟩, ⟨blA HB.out⟩⟩
 case rest =>
  clear HC3; (try clear c1); (try clear c2); (try clear p2); (try clear c5); (try clear c6); (try clear hcz10); (try clear hcz8); (try clear hfz10); (try clear hfz8); obtain ⟨kq, x15_2, rfl, HA, HJ2, BK332, HB⟩ := hcut
  cases kq with
  | zero => exact absurd HA.out (by simp [steeplelaw27_WitnessRuns.j0])
  | succ kj2 =>
   have H := HA.out; clear HA
   simp only [steeplelaw27_WitnessRuns.j0] at H
   by_cases c12 : x15_2 = true
   ·subst c12
    have H1 : ((steeplelaw27_awake.f kj2).bind fun t335 => (some t335)) = some r := by rw [if_pos rfl] at H; exact H
    clear H; have H := H1; clear H1; replace H := Option.bind_eq_some_iff.mp H; obtain ⟨t335, A130, H⟩ := H; replace H : (some t335) = some r := H; have A13 := Aside0.mk A130; clear A130; obtain rfl := Option.some.inj H
    go_wp2_with (first | ((with_reducible refine gate_callee (f := 27) rfl ?_); refine goesL_ (some 16) rfl rfl Try.func27 (by kernel_rfl) rfl #[] rfl gsA ?_; (with_reducible refine (steeplelaw27_awake.calls kj2  t335 _ A13.out).mono ?_); rintro e w14 ⟨rfl, hb⟩; refine ⟨_, rfl, ?_⟩; have n0_ := Aside0.mk (blk_below (bkA BK332.out) hb); have n1_ := Aside0.mk (below_step (blA HB.out) hb); clear BK332; clear HB; have BK332 := n0_; have HB := n1_; clear n0_ n1_; (try clear hb)))
    go_ret
    exact ⟨by first | rfl | (simp [errW_none, errW_some] <;> rfl) | (simp [*, errW_none, errW_some] <;> rfl), blA HB.out⟩
   ·replace c12 := Bool.eq_false_iff.mpr c12; subst c12
    have H1 : ((witness_Run.f kj2 a0_0 a0_1 a0_2 a0_3 a0_4 l0_5 l1).bind fun bt336 => ((steeplelaw25_Ref.f kj2 a0_0 a0_1 a0_2 a0_3 a0_4 l0_5).bind fun bt340 => ((steepleref27_Run.f kj2 bt340.1 bt340.2.1 bt340.2.2.1 bt340.2.2.2.1 bt340.2.2.2.2.1 bt340.2.2.2.2.2 l1).bind fun bt348 => ((steeplelaw27_awake.f kj2).bind fun t353 => (if t353 = true then (if bt336.2 = bt348.2 then ((steeplelaw27_same.f kj2 bt336.1 bt348.1).bind fun t354 => (steeplelaw27_WitnessRuns.j1 kj2 t354)) else (steeplelaw27_WitnessRuns.j1 kj2 false)) else (steeplelaw27_WitnessRuns.j1 kj2 false)))))) = some r := by rw [if_neg (show ¬ (false = true) by decide)] at H; exact H
    clear H; have H := H1; clear H1; replace H := Option.bind_eq_some_iff.mp H
    obtain ⟨⟨t336, t339⟩, A150, H⟩ := H
    (try dsimp only at H)
    have A15 := Aside0.mk A150; clear A150; replace H := Option.bind_eq_some_iff.mp H
    obtain ⟨⟨t340, t341, t342, t343, t344, t345⟩, A160, H⟩ := H
    (try dsimp only at H)
    have A16 := Aside0.mk A160; clear A160; replace H := Option.bind_eq_some_iff.mp H
    obtain ⟨⟨t348, t351⟩, A170, H⟩ := H
    (try dsimp only at H)
    have A17 := Aside0.mk A170; clear A170; have HC18 := Aside0.mk H; clear H
    have hcz19 := fun i => blk_cell BK332.out i
    have hfz19 := fun i => blk_frozen BK332.out i
    go_upto_region 5 with (first | ((with_reducible refine gate_callee (f := 28) rfl ?_); refine goesL_ (some 20) rfl rfl Try.func28 (by kernel_rfl) rfl #[.agg #[.int .i64 a0_0, .int .i64 a0_1, .int .i64 a0_2, .int .i64 a0_3, .int .i64 a0_4, .slice A0_5 l0_5.length c0_5], .slice A1 l1.length c1] rfl gsA ?_; (with_reducible refine (witness_Run.calls kj2 a0_0 a0_1 a0_2 a0_3 a0_4 _ _ l0_5 _ _ l1 t336 t339 _ ?side1 ?side2 ?side3 ?side4 A15.out).mono ?_); (case side1 => repeat (first | exact (Kd.C_below HR0_5.out HB.out) | (with_reducible refine Kd.C_alloc ?_ _) | (with_reducible refine Kd.C_drewN ?_ _) | (with_reducible refine Kd.C_drew ?_))); (case side2 => exact HC0_5.out); (case side3 => repeat (first | exact (Kd.C_below HR1.out HB.out) | (with_reducible refine Kd.C_alloc ?_ _) | (with_reducible refine Kd.C_drewN ?_ _) | (with_reducible refine Kd.C_drew ?_))); (case side4 => exact HC1.out); rintro e w20 ⟨v337, rfl, ho0, hb⟩; refine ⟨_, rfl, ?_⟩; have n0_ := Aside0.mk (Kd.S_lower ho0 (below_size (blA HB.out))); have n1_ := Aside0.mk (blk_below (bkA BK332.out) hb); have n2_ := Aside0.mk (below_step (blA HB.out) hb); clear BK332; clear HB; have HO338 := n0_; have BK332 := n1_; have HB := n2_; clear n0_ n1_ n2_; (try clear hb); (try clear ho0); have hcz21 := fun i => blk_cell BK332.out i; have hfz21 := fun i => blk_frozen BK332.out i; ) | ((with_reducible refine gate_callee (f := 13) rfl ?_); refine goesL_ (some 24) rfl rfl Try.func13 (by kernel_rfl) rfl #[.agg #[.int .i64 a0_0, .int .i64 a0_1, .int .i64 a0_2, .int .i64 a0_3, .int .i64 a0_4, .slice A0_5 l0_5.length c0_5]] rfl gsA ?_; (with_reducible refine (steeplelaw25_Ref.calls kj2 a0_0 a0_1 a0_2 a0_3 a0_4 _ _ l0_5 t340 t341 t342 t343 t344 t345 _ ?side1 ?side2 A16.out).mono ?_); (case side1 => repeat (first | exact (Kd.C_below HR0_5.out HB.out) | (with_reducible refine Kd.C_alloc ?_ _) | (with_reducible refine Kd.C_drewN ?_ _) | (with_reducible refine Kd.C_drew ?_))); (case side2 => exact HC0_5.out); rintro e w22 ⟨v346, rfl, ho0, hb⟩; refine ⟨_, rfl, ?_⟩; have n0_ := Aside0.mk (Kd.S_below (by (with_reducible repeat (first | apply Kd.S_alloc | apply Kd.S_drewN | apply Kd.S_drew)); exact HO338.out) hb); have n1_ := Aside0.mk (Kd.R_lower ho0 (below_size (blA HB.out))); have n2_ := Aside0.mk (blk_below (bkA BK332.out) hb); have n3_ := Aside0.mk (below_step (blA HB.out) hb); clear HO338; clear BK332; clear HB; have HO338 := n0_; have HO347 := n1_; have BK332 := n2_; have HB := n3_; clear n0_ n1_ n2_ n3_; (try clear hb); (try clear ho0); obtain ⟨Ao23, co23, eo23⟩ := Kd.R_slice HO347.out; subst eo23) | ((with_reducible refine gate_callee (f := 29) rfl ?_); refine goesL_ (some 26) rfl rfl Try.func29 (by kernel_rfl) rfl #[.agg #[.int .i64 t340, .int .i64 t341, .int .i64 t342, .int .i64 t343, .int .i64 t344, .slice Ao23 t345.length co23], .slice A1 l1.length c1] rfl gsA ?_; (with_reducible refine (steepleref27_Run.calls kj2 t340 t341 t342 t343 t344 _ _ t345 _ _ l1 t348 t351 _ ?side1 ?side2 ?side3 ?side4 A17.out).mono ?_); (case side1 => repeat (first | exact (Kd.R_reads' HO347.out).2.2 | (with_reducible refine Kd.C_alloc ?_ _) | (with_reducible refine Kd.C_drewN ?_ _) | (with_reducible refine Kd.C_drew ?_))); (case side2 => exact (Kd.R_reads' HO347.out).2.1); (case side3 => repeat (first | exact (Kd.C_below HR1.out HB.out) | (with_reducible refine Kd.C_alloc ?_ _) | (with_reducible refine Kd.C_drewN ?_ _) | (with_reducible refine Kd.C_drew ?_))); (case side4 => exact HC1.out); rintro e w24 ⟨v349, rfl, ho0, hb⟩; refine ⟨_, rfl, ?_⟩; have n0_ := Aside0.mk (Kd.S_elder' (by (with_reducible repeat (first | apply Kd.S_alloc | apply Kd.S_drewN | apply Kd.S_drew)); exact HO338.out) (Kd.S_base ho0) hb); have n1_ := Aside0.mk (Kd.R_below (raA HO347.out) hb); have n2_ := Aside0.mk (Kd.S_lower (Kd.S_new' ho0 (Kd.S_lt (by (with_reducible repeat (first | apply Kd.S_alloc | apply Kd.S_drewN | apply Kd.S_drew)); exact HO338.out))) (below_size (blA HB.out))); have n3_ := Aside0.mk (blk_below (bkA BK332.out) hb); have n4_ := Aside0.mk (below_step (blA HB.out) hb); clear HO338; clear HO347; clear BK332; clear HB; have HO338 := n0_; have HO347 := n1_; have HO350 := n2_; have BK332 := n3_; have HB := n4_; clear n0_ n1_ n2_ n3_ n4_; (try clear hb); (try clear ho0)) | ((with_reducible refine gate_dst (N := 7) rfl ?_); refine box_event ?hg (N := 7) ?hd (cs := #[.slice none 0 0, .int .i64 0]) (t := 61) ?hr ?_; (case hd => rfl); (case hg => rfl); (case hr => first | (go_simp; done) | (go_simp; rfl)); intro gb352 hg w25 hbox hb; have n0_ := Aside0.mk (Kd.S_below (by (with_reducible repeat (first | apply Kd.S_alloc | apply Kd.S_drewN | apply Kd.S_drew)); exact HO338.out) hb); have n1_ := Aside0.mk (Kd.R_below (raA HO347.out) hb); have n2_ := Aside0.mk (Kd.S_below (by (with_reducible repeat (first | apply Kd.S_alloc | apply Kd.S_drewN | apply Kd.S_drew)); exact HO350.out) hb); have n3_ := Aside0.mk (blk_below (bkA BK332.out) hb); have n4_ := Aside0.mk (below_step (blA HB.out) hb); have n5_ := Aside0.mk (hbox); have n6_ := Aside0.mk ((by rw [hg]; exact (below_size (blA HB.out)) : w.heap.size ≤ gb352)); have n7_ := Aside0.mk ((by rw [hg]; exact (below_size (blA HB.out)) : w.heap.size ≤ gb352)); have n8_ := Aside0.mk ((by rw [hg]; exact Nat.ne_of_lt (blk_lt (bkA BK332.out)) : gb332 ≠ gb352)); have n9_ := Aside0.mk ((by rw [hg]; exact Nat.ne_of_gt (blk_lt (bkA BK332.out)) : gb352 ≠ gb332)); clear HO338; clear HO347; clear HO350; clear BK332; clear HB; have HO338 := n0_; have HO347 := n1_; have HO350 := n2_; have BK332 := n3_; have HB := n4_; have BK352 := n5_; have GW352 := n6_; have GE352 := n7_; have NB332_352 := n8_; have NB352_332 := n9_; clear n0_ n1_ n2_ n3_ n4_ n5_ n6_ n7_ n8_ n9_; clear hb hbox hg; obtain ⟨Ao26, co26, eo26⟩ := Kd.S_slice HO350.out; subst eo26; have hnb27 := NB352_332.out; have hnc27 := NB332_352.out; have hcz28 := fun i => blk_cell BK352.out i; have hfz28 := fun i => blk_frozen BK352.out i; ))
    (try simp only [Act.put, List.setIfInBounds_toArray, List.set_cons_zero, List.set_cons_succ])
    go_cut [4] (fun v4 wc => ∃ (kq : Nat) (x4_17 : Bool), v4 = .bool x4_17 ∧ Aside0 (steeplelaw27_WitnessRuns.j1 kq x4_17 = some r) ∧ Aside0 (kq ≤ kj2) ∧ Aside0 (Kd.S (Kd.slice 43 (Kd.int .u64)) 68 wc w.heap.size (fun _ => True) (.slice Ao26 t348.length co26) t348) ∧ Aside0 (wc.heap[gb332]? = some (.cells #[.int .i64 a0_0, .int .i64 a0_1, .int .i64 a0_2, .int .i64 a0_3, .int .i64 a0_4, (.slice A0_5 l0_5.length c0_5)] 24 (0, 0))) ∧ Aside0 (wc.heap[gb352]? = some (.cells #[(.slice Ao26 t348.length co26), .int .i64 t351] 61 (0, 0))) ∧ Aside0 (Below w.heap.size w wc))
    case first =>
     have H := HC18.out; clear HC18; replace H := Option.bind_eq_some_iff.mp H; obtain ⟨t353, A290, H⟩ := H
     (try dsimp only at H)
     have A29 := Aside0.mk A290; clear A290
     by_cases c30 : t353 = true
     ·subst c30
      have H1 : (if t339 = t351 then ((steeplelaw27_same.f kj2 t336 t348).bind fun t354 => (steeplelaw27_WitnessRuns.j1 kj2 t354)) else (steeplelaw27_WitnessRuns.j1 kj2 false)) = some r := by rw [if_pos rfl] at H; exact H
      clear H; have H := H1; clear H1
      by_cases c31 : t339 = t351
      ·rw [if_pos c31] at H
       have c31b0 : (t339 == t351) = true := beq_iff_eq.mpr c31; have c31b1 : (t339 != t351) = false := bne_eq_false_iff_eq.mpr c31; clear c31
       (first | rw [c31b0] | (simp only [i64_w, i32_w]; rw [c31b0]) | skip)
       replace H := Option.bind_eq_some_iff.mp H; obtain ⟨t354, A320, H⟩ := H; replace H : (steeplelaw27_WitnessRuns.j1 kj2 t354) = some r := H; have A32 := Aside0.mk A320; clear A320; have H' := Aside0.mk H; clear H
       go_wp2_with (first | ((with_reducible refine gate_callee (f := 27) rfl ?_); refine goesL_ (some 27) rfl rfl Try.func27 (by kernel_rfl) rfl #[] rfl gsA ?_; (with_reducible refine (steeplelaw27_awake.calls kj2  true _ A29.out).mono ?_); rintro e w33 ⟨rfl, hb⟩; refine ⟨_, rfl, ?_⟩; have n0_ := Aside0.mk (Kd.S_below (by (with_reducible repeat (first | apply Kd.S_alloc | apply Kd.S_drewN | apply Kd.S_drew)); exact (Kd.S_mono (Kd.S_far (p := ⟨gb352, 1, none⟩) (Kd.S_far (p := ⟨gb352, 0, none⟩) (Kd.S_types HO338.out BK352.out (by decide)) (fun _ hk => hk.2) (.slice Ao26 t348.length co26)) (fun _ hk => hk.2) (.int .i64 t351)) (fun _ h_ => h_.1))) hb); have n1_ := Aside0.mk (Kd.R_below (by (with_reducible repeat (first | apply Kd.R_alloc | apply Kd.R_drewN | apply Kd.R_drew)); exact (Kd.R_mono (Kd.R_far (p := ⟨gb352, 1, none⟩) (Kd.R_far (p := ⟨gb352, 0, none⟩) (Kd.R_types HO347.out BK352.out (by decide)) (fun _ hk => hk.2) (.slice Ao26 t348.length co26)) (fun _ hk => hk.2) (.int .i64 t351)) (fun _ h_ => h_.1))) hb); have n2_ := Aside0.mk (Kd.S_below (by (with_reducible repeat (first | apply Kd.S_alloc | apply Kd.S_drewN | apply Kd.S_drew)); exact (Kd.S_mono (Kd.S_far (p := ⟨gb352, 1, none⟩) (Kd.S_far (p := ⟨gb352, 0, none⟩) (Kd.S_types HO350.out BK352.out (by decide)) (fun _ hk => hk.2) (.slice Ao26 t348.length co26)) (fun _ hk => hk.2) (.int .i64 t351)) (fun _ h_ => h_.1))) hb); have n3_ := Aside0.mk (blk_below (g := gb332) (o := .cells #[.int .i64 a0_0, .int .i64 a0_1, .int .i64 a0_2, .int .i64 a0_3, .int .i64 a0_4, .slice A0_5 l0_5.length c0_5] 24 (0, 0)) (by refine bkA ?_; refine blk_far ?_ NB332_352.out _; refine bkA ?_; refine blk_far ?_ NB332_352.out _; refine bkA ?_; exact BK332.out) hb); have n4_ := Aside0.mk (blk_below (g := gb352) (o := .cells #[.slice Ao26 t348.length co26, .int .i64 t351] 61 (0, 0)) (by refine bkA ?_; refine blk_put (cs := #[.slice Ao26 t348.length co26, .int .i64 0]) ?_ 1 _ rfl; refine bkA ?_; refine blk_put (cs := #[.slice none 0 0, .int .i64 0]) ?_ 0 _ rfl; refine bkA ?_; exact BK352.out) hb); have n5_ := Aside0.mk (below_step (blA HB.out) hb); clear HO338; clear HO347; clear HO350; clear BK332; clear BK352; clear HB; have HO338 := n0_; have HO347 := n1_; have HO350 := n2_; have BK332 := n3_; have BK352 := n4_; have HB := n5_; clear n0_ n1_ n2_ n3_ n4_ n5_; (try clear hb); have hnb34 := NB352_332.out; have hnc34 := NB332_352.out; have hcz35 := fun i => blk_cell BK352.out i; have hfz35 := fun i => blk_frozen BK352.out i; obtain ⟨Ao36, co36, eo36⟩ := Kd.S_slice HO338.out; subst eo36) | (go_at_call 30; (with_reducible refine (steeplelaw27_same.calls kj2 _ _ t336 _ _ t348 t354 _ ?side1 ?side2 ?side3 ?side4 A32.out).mono ?_); (case side1 => repeat (first | exact (Kd.S_reads' HO338.out).2.2 | (with_reducible refine Kd.C_alloc ?_ _) | (with_reducible refine Kd.C_drewN ?_ _) | (with_reducible refine Kd.C_drew ?_))); (case side2 => exact (Kd.S_reads' HO338.out).2.1); (case side3 => repeat (first | exact (Kd.S_reads' HO350.out).2.2 | (with_reducible refine Kd.C_alloc ?_ _) | (with_reducible refine Kd.C_drewN ?_ _) | (with_reducible refine Kd.C_drew ?_))); (case side4 => exact (Kd.S_reads' HO350.out).2.1); rintro e w' ⟨rfl, ⟨nd, rfl⟩⟩))
       go_meet
       case rel => exact ⟨_, (t354), eqA, H', ⟨by have := HJ2.out; first | omega | exact Nat.le_refl _⟩, ⟨by (with_reducible repeat (first | apply Kd.S_alloc | apply Kd.S_drewN | apply Kd.S_drew)); exact Kd.S_mono HO350.out (fun _ hk => trivial)⟩, ⟨bkA BK332.out⟩, ⟨bkA BK352.out⟩, ⟨blA HB.out⟩⟩
      ·rw [if_neg c31] at H
       have c31b0 : (t339 == t351) = false := beq_eq_false_iff_ne.mpr c31; have c31b1 : (t339 != t351) = true := bne_iff_ne.mpr c31
       (first | rw [c31b0] | (simp only [i64_w, i32_w]; rw [c31b0]) | skip)
       have H' := Aside0.mk H; clear H
       go_wp2_with (first | ((with_reducible refine gate_callee (f := 27) rfl ?_); refine goesL_ (some 27) rfl rfl Try.func27 (by kernel_rfl) rfl #[] rfl gsA ?_; (with_reducible refine (steeplelaw27_awake.calls kj2  true _ A29.out).mono ?_); rintro e w37 ⟨rfl, hb⟩; refine ⟨_, rfl, ?_⟩; have n0_ := Aside0.mk (Kd.S_below (by (with_reducible repeat (first | apply Kd.S_alloc | apply Kd.S_drewN | apply Kd.S_drew)); exact (Kd.S_mono (Kd.S_far (p := ⟨gb352, 1, none⟩) (Kd.S_far (p := ⟨gb352, 0, none⟩) (Kd.S_types HO338.out BK352.out (by decide)) (fun _ hk => hk.2) (.slice Ao26 t348.length co26)) (fun _ hk => hk.2) (.int .i64 t351)) (fun _ h_ => h_.1))) hb); have n1_ := Aside0.mk (Kd.R_below (by (with_reducible repeat (first | apply Kd.R_alloc | apply Kd.R_drewN | apply Kd.R_drew)); exact (Kd.R_mono (Kd.R_far (p := ⟨gb352, 1, none⟩) (Kd.R_far (p := ⟨gb352, 0, none⟩) (Kd.R_types HO347.out BK352.out (by decide)) (fun _ hk => hk.2) (.slice Ao26 t348.length co26)) (fun _ hk => hk.2) (.int .i64 t351)) (fun _ h_ => h_.1))) hb); have n2_ := Aside0.mk (Kd.S_below (by (with_reducible repeat (first | apply Kd.S_alloc | apply Kd.S_drewN | apply Kd.S_drew)); exact (Kd.S_mono (Kd.S_far (p := ⟨gb352, 1, none⟩) (Kd.S_far (p := ⟨gb352, 0, none⟩) (Kd.S_types HO350.out BK352.out (by decide)) (fun _ hk => hk.2) (.slice Ao26 t348.length co26)) (fun _ hk => hk.2) (.int .i64 t351)) (fun _ h_ => h_.1))) hb); have n3_ := Aside0.mk (blk_below (g := gb332) (o := .cells #[.int .i64 a0_0, .int .i64 a0_1, .int .i64 a0_2, .int .i64 a0_3, .int .i64 a0_4, .slice A0_5 l0_5.length c0_5] 24 (0, 0)) (by refine bkA ?_; refine blk_far ?_ NB332_352.out _; refine bkA ?_; refine blk_far ?_ NB332_352.out _; refine bkA ?_; exact BK332.out) hb); have n4_ := Aside0.mk (blk_below (g := gb352) (o := .cells #[.slice Ao26 t348.length co26, .int .i64 t351] 61 (0, 0)) (by refine bkA ?_; refine blk_put (cs := #[.slice Ao26 t348.length co26, .int .i64 0]) ?_ 1 _ rfl; refine bkA ?_; refine blk_put (cs := #[.slice none 0 0, .int .i64 0]) ?_ 0 _ rfl; refine bkA ?_; exact BK352.out) hb); have n5_ := Aside0.mk (below_step (blA HB.out) hb); clear HO338; clear HO347; clear HO350; clear BK332; clear BK352; clear HB; have HO338 := n0_; have HO347 := n1_; have HO350 := n2_; have BK332 := n3_; have BK352 := n4_; have HB := n5_; clear n0_ n1_ n2_ n3_ n4_ n5_; (try clear hb); have hnb38 := NB352_332.out; have hnc38 := NB332_352.out; have hcz39 := fun i => blk_cell BK352.out i; have hfz39 := fun i => blk_frozen BK352.out i; ))
       go_meet
       case rel => exact ⟨_, (false), eqA, H', ⟨by have := HJ2.out; first | omega | exact Nat.le_refl _⟩, ⟨by (with_reducible repeat (first | apply Kd.S_alloc | apply Kd.S_drewN | apply Kd.S_drew)); exact Kd.S_mono HO350.out (fun _ hk => trivial)⟩, ⟨bkA BK332.out⟩, ⟨bkA BK352.out⟩, ⟨blA HB.out⟩⟩
     ·replace c30 := Bool.eq_false_iff.mpr c30; subst c30
      have H1 : (steeplelaw27_WitnessRuns.j1 kj2 false) = some r := by rw [if_neg (show ¬ (false = true) by decide)] at H; exact H
      clear H; have H := H1; clear H1; have H' := Aside0.mk H; clear H
      go_wp2_with (first | ((with_reducible refine gate_callee (f := 27) rfl ?_); refine goesL_ (some 27) rfl rfl Try.func27 (by kernel_rfl) rfl #[] rfl gsA ?_; (with_reducible refine (steeplelaw27_awake.calls kj2  false _ A29.out).mono ?_); rintro e w40 ⟨rfl, hb⟩; refine ⟨_, rfl, ?_⟩; have n0_ := Aside0.mk (Kd.S_below (by (with_reducible repeat (first | apply Kd.S_alloc | apply Kd.S_drewN | apply Kd.S_drew)); exact (Kd.S_mono (Kd.S_far (p := ⟨gb352, 1, none⟩) (Kd.S_far (p := ⟨gb352, 0, none⟩) (Kd.S_types HO338.out BK352.out (by decide)) (fun _ hk => hk.2) (.slice Ao26 t348.length co26)) (fun _ hk => hk.2) (.int .i64 t351)) (fun _ h_ => h_.1))) hb); have n1_ := Aside0.mk (Kd.R_below (by (with_reducible repeat (first | apply Kd.R_alloc | apply Kd.R_drewN | apply Kd.R_drew)); exact (Kd.R_mono (Kd.R_far (p := ⟨gb352, 1, none⟩) (Kd.R_far (p := ⟨gb352, 0, none⟩) (Kd.R_types HO347.out BK352.out (by decide)) (fun _ hk => hk.2) (.slice Ao26 t348.length co26)) (fun _ hk => hk.2) (.int .i64 t351)) (fun _ h_ => h_.1))) hb); have n2_ := Aside0.mk (Kd.S_below (by (with_reducible repeat (first | apply Kd.S_alloc | apply Kd.S_drewN | apply Kd.S_drew)); exact (Kd.S_mono (Kd.S_far (p := ⟨gb352, 1, none⟩) (Kd.S_far (p := ⟨gb352, 0, none⟩) (Kd.S_types HO350.out BK352.out (by decide)) (fun _ hk => hk.2) (.slice Ao26 t348.length co26)) (fun _ hk => hk.2) (.int .i64 t351)) (fun _ h_ => h_.1))) hb); have n3_ := Aside0.mk (blk_below (g := gb332) (o := .cells #[.int .i64 a0_0, .int .i64 a0_1, .int .i64 a0_2, .int .i64 a0_3, .int .i64 a0_4, .slice A0_5 l0_5.length c0_5] 24 (0, 0)) (by refine bkA ?_; refine blk_far ?_ NB332_352.out _; refine bkA ?_; refine blk_far ?_ NB332_352.out _; refine bkA ?_; exact BK332.out) hb); have n4_ := Aside0.mk (blk_below (g := gb352) (o := .cells #[.slice Ao26 t348.length co26, .int .i64 t351] 61 (0, 0)) (by refine bkA ?_; refine blk_put (cs := #[.slice Ao26 t348.length co26, .int .i64 0]) ?_ 1 _ rfl; refine bkA ?_; refine blk_put (cs := #[.slice none 0 0, .int .i64 0]) ?_ 0 _ rfl; refine bkA ?_; exact BK352.out) hb); have n5_ := Aside0.mk (below_step (blA HB.out) hb); clear HO338; clear HO347; clear HO350; clear BK332; clear BK352; clear HB; have HO338 := n0_; have HO347 := n1_; have HO350 := n2_; have BK332 := n3_; have BK352 := n4_; have HB := n5_; clear n0_ n1_ n2_ n3_ n4_ n5_; (try clear hb)))
      go_meet
      case rel => exact ⟨_, (false), eqA, H', ⟨by have := HJ2.out; first | omega | exact Nat.le_refl _⟩, ⟨by (with_reducible repeat (first | apply Kd.S_alloc | apply Kd.S_drewN | apply Kd.S_drew)); exact Kd.S_mono HO350.out (fun _ hk => trivial)⟩, ⟨bkA BK332.out⟩, ⟨bkA BK352.out⟩, ⟨blA HB.out⟩⟩
    case rest =>
     clear HC18; (try clear c1); (try clear c2); (try clear p2); (try clear c3); (try clear c5); (try clear c6); (try clear c12); (try clear c13); (try clear c25); (try clear c27); (try clear c28); (try clear c29); (try clear c30); (try clear c31); (try clear c31b0); (try clear c31b1); (try clear c34); (try clear c38); (try clear hcz10); (try clear hcz19); (try clear hcz21); (try clear hcz28); (try clear hcz35); (try clear hcz39); (try clear hcz8); (try clear hfz10); (try clear hfz19); (try clear hfz21); (try clear hfz28); (try clear hfz35); (try clear hfz39); (try clear hfz8); (try clear p2); obtain ⟨kq, x4_17, rfl, HA, HJ17, HO_353000, BK332, BK352, HB⟩ := hcut
     cases kq with
     | zero => exact absurd HA.out (by simp [steeplelaw27_WitnessRuns.j1])
     | succ kj17 =>
      have H := HA.out; clear HA
      simp only [steeplelaw27_WitnessRuns.j1] at H
      obtain rfl := Option.some.inj H
      go_wp2
      go_ret
      exact ⟨by first | rfl | (simp [errW_none, errW_some] <;> rfl) | (simp [*, errW_none, errW_some] <;> rfl), blA HB.out⟩
end Go.Proofs.Ythiiodgpdoljoaa.PLw
namespace Go.Proofs.Ythiiodgpdoljoaa.Bit
open Go Go.RowKit Go.Proofs.Ythiiodgpdoljoaa.PLw Go.Proofs.YthiiodgpdoljoaaW.PrintWords Go.Proofs.YthiiodgpdoljoaaW.PrintLast Go.Proofs.YthiiodgpdoljoaaW.PrintMore
set_option linter.unusedVariables false
set_option linter.unusedSimpArgs false
theorem runG_good {w R C : Nat} {cols : Int} (hC : p2 cols = (C : Int)) : ∀ (l : List S105) (all all' : List (List Int)), runG w R l all = some all' → Good w R all → all.length ≤ C → (walk (w : Int) cols l (all.length : Int)).2 = 0 → Good w R all' ∧ all'.length ≤ C
  | [], all, all', h, G, ha, hw => by
    obtain rfl := Option.some.inj h
    exact ⟨G, ha⟩
  | g :: gs, all, all', h, G, ha, hw => by
    unfold walk at hw
    by_cases hg : gErr (w : Int) cols g (all.length : Int) = 0
    case neg => simp only [hg, if_false] at hw
    simp only [hg, if_true] at hw
    obtain ⟨f1, f8, f2, f2', f3, f3', f4, fd, f7, fs, fn⟩ := gate_facts hg (Int.natCast_nonneg _)
    clear hg
    unfold runG at h
    by_cases h8 : g.f0 = 8
    · have hm0 : makes g.f0 = 0 := by rw [h8]; rfl
      rw [hm0, Int.add_zero] at hw
      rw [if_pos h8] at h
      by_cases heq : rd_L4 all g.f2 = rd_L4 all g.f3
      · rw [if_pos heq] at h
        exact runG_good hC gs all all' h G ha hw
      · rw [if_neg heq] at h; cases h
    · rw [← new_len w R g all h8] at hw
      rw [hC] at fn
      rw [if_neg h8] at h
      exact runG_good hC gs _ all' h (good_new G g f2 f2' f3 f3') (tail_open w R C g all h8 fn).2 hw
theorem finish_lens {w R C : Nat} (hR : R ≤ 64) (hC : C ≤ 64) (o : Option (List (List Int))) (h : ∀ all, o = some all → Good w R all ∧ all.length ≤ C) : Lens 1000 1000 (finish C R o).1 := by
  cases o with
  | none => exact ⟨Nat.zero_le _, fun c hc => by cases hc⟩
  | some all =>
    obtain ⟨G, hl⟩ := h all rfl
    refine ⟨?_, fun c hc => ?_⟩
    · show (all ++ List.replicate (C - all.length) (List.replicate R 0)).length ≤ 1000
      rw [List.length_append, List.length_replicate]; omega
    · rcases List.mem_append.mp hc with hc | hc
      · rw [(G c hc).1]; omega
      · rw [(List.mem_replicate.mp hc).2, List.length_replicate]; omega
theorem same1 (a : List (List Int)) (hL : Lens 1000 1000 a) (i : Nat) (hi : i < a.length) (r : Bool) (h : Ev (fun k => steeplelaw27_same.l0 k a a ((i + 1 : Nat) : Int)) r) (d : Nat) : ∀ j : Nat, a[i].length - j = d → j ≤ a[i].length →
    Ev (fun k => steeplelaw27_same.l1 k a a (i : Int) (j : Int)) r := by
  obtain ⟨wi, iL, i0⟩ := stepW hi hL.1
  have hl := hL.2 _ (List.getElem_mem hi)
  have hrd := rdL_nat a i hi
  induction d with
  | zero =>
    intro j hd hj
    have hjR : j = a[i].length := Nat.le_antisymm hj (Nat.sub_eq_zero_iff_le.mp hd)
    refine Ev.step (fun k => ?_) h
    simp only [steeplelaw27_same.l1]
    rw [if_pos i0, if_pos iL, hrd, if_neg (by rw [hjR]; exact Int.lt_irrefl _), wi]
  | succ d ih =>
    intro j hd hj
    obtain ⟨s1, s2, s3⟩ := stepD hd
    obtain ⟨w1, jR, j0⟩ := stepW s1 hl
    refine Ev.step (fun k => ?_) (ih (j + 1) s2 s3)
    simp only [steeplelaw27_same.l1]
    rw [if_pos i0, if_pos iL, hrd, if_pos jR, if_pos j0, if_pos iL, if_pos jR, if_pos trivial, w1]
theorem same0 (a : List (List Int)) (hL : Lens 1000 1000 a) (d : Nat) : ∀ i : Nat, a.length - i = d → i ≤ a.length → Ev (fun k => steeplelaw27_same.l0 k a a (i : Int)) true := by
  induction d with
  | zero =>
    intro i hd hi
    have hiC : i = a.length := Nat.le_antisymm hi (Nat.sub_eq_zero_iff_le.mp hd)
    refine evFuel 1 fun m => ?_
    simp only [steeplelaw27_same.l0]
    rw [if_neg (by rw [hiC]; exact Int.lt_irrefl _)]
  | succ d ih =>
    intro i hd hi
    obtain ⟨s1, s2, s3⟩ := stepD hd
    obtain ⟨w1, iL, i0⟩ := stepW s1 hL.1
    refine Ev.step (fun k => ?_) (same1 a hL i s1 true (ih (i + 1) s2 s3) a[i].length 0 (Nat.sub_zero _) (Nat.zero_le _))
    simp only [steeplelaw27_same.l0]
    rw [if_pos iL, if_pos i0, if_pos iL, if_pos trivial]
    rfl
theorem same_refl (a : List (List Int)) (hL : Lens 1000 1000 a) : Ev (fun k => steeplelaw27_same.f k a a) true := by
  refine Ev.congr (fun k => ?_) (same0 a hL a.length 0 (Nat.sub_zero _) (Nat.zero_le _))
  unfold steeplelaw27_same.f
  rw [if_pos rfl]
  rfl
theorem words0 (n m : Nat) (a : List (List Int)) (hn : a.length ≤ 1000) (d : Nat) : ∀ i : Nat, a.length - i = d → i ≤ a.length → Ev (fun k => steeplelaw27_words.l0 k a (m : Int) (i : Int)) ((a.drop i).all fun c => decide (c.length ≤ m)) := by
  induction d with
  | zero =>
    intro i hd hi
    have hiC : i = a.length := Nat.le_antisymm hi (Nat.sub_eq_zero_iff_le.mp hd)
    refine evFuel 1 fun m => ?_
    simp only [steeplelaw27_words.l0]
    rw [if_neg (by rw [hiC]; exact Int.lt_irrefl _), List.drop_of_length_le (Nat.le_of_eq hiC.symm)]
    rfl
  | succ d ih =>
    intro i hd hi
    obtain ⟨s1, s2, s3⟩ := stepD hd
    obtain ⟨w1, iL, i0⟩ := stepW s1 hn
    by_cases hb : a[i].length ≤ m
    · refine Ev.step (fun k => ?_) (?_ : Ev (fun k => steeplelaw27_words.l0 k a (m : Int) ((i + 1 : Nat) : Int)) _)
      · simp only [steeplelaw27_words.l0]
        rw [if_pos iL, if_pos i0, rdL_nat a i s1, if_neg (by omega), w1]
      · rw [List.drop_eq_getElem_cons s1, List.all_cons, decide_eq_true hb, Bool.true_and]
        exact ih (i + 1) s2 s3
    · refine evFuel 1 fun k => ?_
      simp only [steeplelaw27_words.l0]
      rw [if_pos iL, if_pos i0, rdL_nat a i s1, if_pos (by omega), List.drop_eq_getElem_cons s1, List.all_cons, decide_eq_false hb, Bool.false_and]
theorem words_ev (n m : Nat) (hn : n ≤ 1000) (a : List (List Int)) : ∃ b, Ev (fun k => steeplelaw27_words.f k a (n : Int) (m : Int)) b ∧ (b = true → Lens n m a) := by
  by_cases h : a.length ≤ n
  · refine ⟨_, Ev.congr (fun k => ?_) (words0 n m a (Nat.le_trans h hn) a.length 0 (Nat.sub_zero _) (Nat.zero_le _)), fun hb => ⟨h, fun c hc => ?_⟩⟩
    · unfold steeplelaw27_words.f
      rw [if_neg (by omega)]
      rfl
    · rw [List.drop_zero] at hb
      exact of_decide_eq_true (List.all_eq_true.mp hb c hc)
  · refine ⟨false, evFuel 0 fun k => ?_, fun h => by cases h⟩
    unfold steeplelaw27_words.f
    rw [if_pos (by omega)]
theorem check_ev (wide rows cols pub priv : Int) (l : List S105) : Ev (fun k => circuit_Check.f k wide rows cols pub priv l) (lookS wide rows cols pub priv l).2 := evFuel 60 fun m => checkSpec m wide rows cols pub priv l
theorem refCheck_ev (wide rows cols pub priv : Int) (l : List S105) (hl : l.length ≤ 40) : Ev (fun k => steepleref25_Check.f k wide rows cols pub priv (l.map toG)) (lookS wide rows cols pub priv l).2 := evFuel 100 fun m => refCheck m wide rows cols pub priv l hl
theorem ref_ev (wide rows cols pub priv : Int) (l : List S105) (hl : l.length ≤ 40) : Ev (fun k => steeplelaw25_Ref.f k wide rows cols pub priv l) (wide, rows, cols, pub, priv, l.map toG) := evBig 41 fun m hm => refG m wide rows cols pub priv l (by omega) (by omega)
theorem few_ev (wide rows cols pub priv : Int) (l : List S105) : ∃ b, Ev (fun k => steeplelaw27_Few.f k wide rows cols pub priv l) b ∧ (b = true → l.length ≤ 40) := by
  unfold steeplelaw27_Few.f
  by_cases h : (l.length : Int) > 12
  · by_cases h2 : (l.length : Int) > 30
    · refine ⟨decide ((l.length : Int) ≤ 40), evFuel 0 fun k => ?_, fun hb => ?_⟩
      · simp only [h, h2, if_true]
      · have := of_decide_eq_true hb; omega
    · exact ⟨false, evFuel 0 fun k => by simp only [h, h2, if_true, if_false], fun h => by cases h⟩
  · have key : ∀ b, Ev (fun k => if (lookS wide rows cols pub priv l).2 = 0 then (if rows ≤ 2 then some (decide (cols ≤ 5)) else some false) else some true) b → Ev (fun k => if (l.length : Int) > 12 then (if (l.length : Int) > 30 then (some (decide ((l.length : Int) ≤ 40))) else (some false)) else ((steeplelaw25_Ref.f k wide rows cols pub priv l).bind fun bt129 => ((steepleref25_Check.f k bt129.1 bt129.2.1 bt129.2.2.1 bt129.2.2.2.1 bt129.2.2.2.2.1 bt129.2.2.2.2.2).bind fun t137 => (if t137 = 0 then (if rows ≤ 2 then (some (decide (cols ≤ 5))) else (some false)) else (some true))))) b := by
      intro b hb
      simp only [h, if_false]
      refine Ev.bind (ref_ev wide rows cols pub priv l (by omega)) ?_
      exact Ev.bind (refCheck_ev wide rows cols pub priv l (by omega)) hb
    by_cases h0 : (lookS wide rows cols pub priv l).2 = 0
    · by_cases h2 : rows ≤ 2
      · exact ⟨_, key _ (by simp only [h0, h2, if_true]; exact Ev.now _), fun _ => by omega⟩
      · exact ⟨_, key _ (by simp only [h0, h2, if_true, if_false]; exact Ev.now _), fun _ => by omega⟩
    · exact ⟨_, key _ (by simp only [h0, if_false]; exact Ev.now _), fun _ => by omega⟩
theorem awake_ev : Ev (fun k => steeplelaw27_awake.f k) true := Ev.of (k := 100) (fun k => steeplelaw27_awake.mono k) (by kernel_rfl)
/-- Both runs come to the same. -/
theorem runs_both (wide rows cols pub priv : Int) (l : List S105) (hl : l.length ≤ 40) (given : List (List Int)) (hL : Lens 1000 1000 given) (hW : W64 given) :
    ∃ p, Ev (fun k => witness_Run.f k wide rows cols pub priv l given) p ∧ Ev (fun k => steepleref27_Run.f k wide rows cols pub priv (l.map toG) given) p ∧ Lens 1000 1000 p.1 := by
  have hck := check_ev wide rows cols pub priv l
  have hrk := refCheck_ev wide rows cols pub priv l hl
  unfold witness_Run.f steepleref27_Run.f
  by_cases h0 : (lookS wide rows cols pub priv l).2 = 0
  · obtain ⟨a1, a2, a3, a4, a5, a6, a7, a8, a9, a10, hS⟩ := lookS_cases h0
    rw [h0] at hck hrk
    obtain ⟨w, rfl⟩ := Int.eq_ofNat_of_zero_le a1
    have cx : Cx w (2 ^ rows.toNat) (2 ^ cols.toNat) rows cols := ⟨by omega, a3, a4, a5, a6, p2_nat rows, p2_nat cols⟩
    have hb := p2_bound a5 a6
    have hpp : wrap64 (pub + priv) = pub + priv := w64 (by omega) (by omega)
    have hfp := fits_prog cx pub priv l given hL (pub + priv)
    have hfr := fits_ref cx pub priv (l.map toG) given hW hL (pub + priv)
    by_cases hf : fitsF rows (mostI w) given (pub + priv) = 0
    · obtain ⟨hlen, G⟩ := fits_good cx given hW (pub + priv) hf
      rw [hf] at hfr hfp
      have hwk : (walk (w : Int) cols l (given.length : Int)).2 = 0 := by rw [hlen, ← hS]; exact h0
      have hgc : given.length ≤ 2 ^ cols.toNat := by have := cx.hC; omega
      obtain ⟨hR, hC, _, _⟩ := cx.two
      refine ⟨finish (2 ^ cols.toNat) (2 ^ rows.toNat) (runG w (2 ^ rows.toNat) l given), ?_, ?_, finish_lens hR hC _ (fun all he => runG_good cx.hC l given all he G hgc hwk)⟩
      · refine Ev.bind hck ?_
        simp only [if_true]
        rw [hpp, hfp]
        simp only [Option.bind_some, if_true]
        exact progCopy w rows cols pub priv _ _ cx l (by omega) given G hgc hwk given.length 0 (Nat.sub_zero _) (Nat.zero_le _)
      · refine Ev.bind hrk ?_
        simp only [if_true]
        rw [hpp]
        refine Ev.bind hfr ?_
        simp only [if_true]
        exact refCopy w rows cols pub priv _ _ cx l (by omega) given G hgc hwk (2 ^ cols.toNat) 0 (Nat.sub_zero _) (Nat.zero_le _)
    · refine ⟨([], fitsF rows (mostI w) given (pub + priv)), ?_, ?_, Nat.zero_le _, fun c hc => by cases hc⟩
      · refine Ev.bind hck ?_
        simp only [if_true]
        rw [hpp, hfp]
        simp only [Option.bind_some, hf, if_false]
        exact Ev.now _
      · refine Ev.bind hrk ?_
        simp only [if_true]
        rw [hpp]
        refine Ev.bind hfr ?_
        simp only [hf, if_false]
        exact Ev.bind hfr (Ev.now _)
  · refine ⟨([], (lookS wide rows cols pub priv l).2), ?_, ?_, Nat.zero_le _, fun c hc => by cases hc⟩
    · refine Ev.bind hck ?_
      simp only [h0, if_false]
      exact Ev.now _
    · refine Ev.bind hrk ?_
      simp only [h0, if_false]
      exact Ev.bind hrk (Ev.now _)
theorem runsPure (wide rows cols pub priv : Int) (l : List S105) (given : List (List Int)) (hW : W64 given) : ∃ k, steeplelaw27_WitnessRuns.f k wide rows cols pub priv l given = some true := by
  apply Ev.rounds
  unfold steeplelaw27_WitnessRuns.f
  have quiet : Ev (fun k => steeplelaw27_WitnessRuns.j0 k given true wide rows cols pub priv l) true := by
    refine Ev.step (fun k => ?_) (Ev.bind (f := fun _ t => some t) awake_ev (Ev.now true))
    simp only [steeplelaw27_WitnessRuns.j0, if_true]
  obtain ⟨b, hb, hbl⟩ := few_ev wide rows cols pub priv l
  refine Ev.bind hb ?_
  cases b with
  | false =>
    simp only [Bool.false_eq_true, if_false]
    exact quiet
  | true =>
    simp only [if_true]
    obtain ⟨c, hc, hcl⟩ := words_ev 10 8 (by decide) given
    refine Ev.bind hc ?_
    cases c with
    | false => exact quiet
    | true =>
      have hl := hbl rfl
      have hL0 := hcl rfl
      have hL : Lens 1000 1000 given := ⟨Nat.le_trans hL0.1 (by decide), fun c hc => Nat.le_trans (hL0.2 c hc) (by decide)⟩
      obtain ⟨p, hp, hr, hs⟩ := runs_both wide rows cols pub priv l hl given hL hW
      have main := Ev.bind (f := fun k bt333 => (steeplelaw25_Ref.f k wide rows cols pub priv l).bind fun bt337 => ((steepleref27_Run.f k bt337.1 bt337.2.1 bt337.2.2.1 bt337.2.2.2.1 bt337.2.2.2.2.1 bt337.2.2.2.2.2 given).bind fun bt345 => ((steeplelaw27_awake.f k).bind fun t350 => (if t350 = true then (if bt333.2 = bt345.2 then ((steeplelaw27_same.f k bt333.1 bt345.1).bind fun t351 => (steeplelaw27_WitnessRuns.j1 k t351)) else (steeplelaw27_WitnessRuns.j1 k false)) else (steeplelaw27_WitnessRuns.j1 k false))))) (r := true) hp (by
        refine Ev.bind (ref_ev wide rows cols pub priv l hl) ?_
        refine Ev.bind hr ?_
        refine Ev.bind awake_ev ?_
        simp only [if_true]
        refine Ev.bind (same_refl p.1 hs) ?_
        exact Ev.step (fun k => by simp only [steeplelaw27_WitnessRuns.j1]) (Ev.now true))
      refine Ev.step (fun k => ?_) main
      simp only [steeplelaw27_WitnessRuns.j0, Bool.not_true, Bool.false_eq_true, if_false]
end Go.Proofs.Ythiiodgpdoljoaa.Bit
