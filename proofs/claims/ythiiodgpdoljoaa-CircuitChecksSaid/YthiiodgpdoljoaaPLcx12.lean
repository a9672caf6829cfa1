-- Laid by our own driver (wip/tools/xprint.py) out of the kit's print.
import Derived.Test.YthiiodgpdoljoaaPLcx0
import Derived.Test.YthiiodgpdoljoaaPLcx11
namespace Go.Proofs.Ythiiodgpdoljoaa.PLc
open Go.RowKit Go.Proofs.YthiiodgpdoljoaaW.PrintWords Go.Proofs.YthiiodgpdoljoaaW.PrintLast Go.Proofs.YthiiodgpdoljoaaW.PrintMore
attribute [local go_sem] max2_int min2_int max_two min_two max_three min_three max_four min_four   -- for this text's walks alone
set_option linter.unusedVariables false
set_option linter.unusedSimpArgs false

/-! ### circuit_board_done: function 116 -/
def circuit_board_done.T0 : Bool × List (List Nat × List Nat) := (true, [([], []), ([], []), ([1], [1]), ([2], [2]), ([3], [3]), ([], []), ([5], [5]), ([6], [6]), ([7], [7]), ([8], [8]), ([4, 9], [4, 9]), ([0, 0, 1, 2, 3, 4, 5, 6, 7, 8, 9, 10], [0]), ([11, 0, 1, 2, 3, 4, 5, 6, 7, 8, 9, 10], [11]), ([12, 10, 10, 0, 1, 2, 3, 4, 5, 6, 7, 8, 9, 10], [10, 12])])
def circuit_board_done.B0 : List Nat := [0, 0, 2, 6, 14, 0, 32, 96, 224, 480, 1022, 2047, 4095, 8191]
theorem circuit_board_done.tab0 : rtab .any (opsOf Try.f116 0) = circuit_board_done.T0 := by kernel_rfl
theorem circuit_board_done.bits0 : waitsOk circuit_board_done.T0.2 circuit_board_done.B0 = true := by kernel_rfl
set_option maxHeartbeats 4000000 in
set_option maxRecDepth 100000 in
theorem circuit_board_done.calls {base n : Nat} {w0 w : World} {g : Nat} {b : Bd} (H : BrdS base w0 w g b n) (hn : n < 100000) :
  Calls Try.prog 116 #[.pointer (some ⟨g, 0, none⟩)] w fun e w' => e = .returned (.tuple #[]) ∧ BrdS base w0 w' g b.done (n + 1) := by
 obtain ⟨⟨vw, vc, vl, bg, hbg, rw, rc, rl⟩, hB, hS, hT⟩ := H
 have BG := Aside0.mk bg; have HBG := Aside0.mk hbg; have RW := Aside0.mk rw; have RC := Aside0.mk rc; have RL := Aside0.mk rl; have HB := Aside0.mk hB
 have HZ := Aside0.mk (Nat.le_trans hbg (Nat.le_of_lt (blk_lt bg)))
 have hs1 := hS.1; have hs2 := hS.2.1; have hs3 := hS.2.2; have HS := Aside0.mk hS; have KT := Aside0.mk hT
 clear bg hbg rw rc rl hB hS hT; have hu108 := Try.underlying108; obtain ⟨A0, c0, e0⟩ := Kd.R_slice RL.out; subst e0
 go_enter Try.func116, Try.ntmps116
 (try go_wp2_with fail)
 refine start_ (n := 14) (S := fun w' => w'.cell? ⟨g, 1, none⟩ = some vc ∧ w'.cell? ⟨g, 2, none⟩ = some (.slice A0 b.l.length c0)) (ds := [13]) #[false, false, false, false, false, false, false, false, false, false, false, false, false, false] (by kernel_rfl) rfl rfl ⟨(blk_cell (blk_drew BG.out) 1).trans rfl, (blk_cell (blk_drew BG.out) 2).trans rfl⟩ (fun hHeld => ?_)
 refine with_tabW circuit_board_done.tab0 circuit_board_done.bits0 (fun HT_ HW_ => ?_)
 replace BG := Aside0.mk (blk_drew BG.out); replace RW := Aside0.mk (Kd.R_drew RW.out); replace RC := Aside0.mk (Kd.R_drew RC.out); replace RL := Aside0.mk (Kd.R_drew RL.out); replace HB := Aside0.mk (below_drew1 HB.out); replace KT := Aside0.mk (KT.out.below (below_drew (Below.refl _ _)))
 generalize w.drew = w2 at BG RW RC RL HB KT hHeld ⊢
 refine pure_ (i := 0) (N := some 2) (v := ?_) (a' := ?_) #[true, false, false, false, false, false, false, false, false, false, false, false, false, false] rfl rfl (any_of HT_.out (by kernel_rfl)) (fun _ _ _ h => h) (Or.inl ⟨by rfl, ?_⟩) ?_ ?_
 rotate_left
 ·intro w'; go_simp; with_reducible rfl
 rotate_left
 ·simp only [Act.put, List.setIfInBounds_toArray, List.set_cons_zero, List.set_cons_succ, i64_w, i32_w]; rfl
 refine pure_ (i := 1) (N := some 3) (v := ?_) (a' := ?_) #[true, true, false, false, false, false, false, false, false, false, false, false, false, false] rfl rfl (any_of HT_.out (by kernel_rfl)) (fun _ _ _ h => h) (Or.inl ⟨by rfl, ?_⟩) ?_ ?_
 rotate_left
 ·intro w'; go_simp; with_reducible rfl
 rotate_left
 ·simp only [Act.put, List.setIfInBounds_toArray, List.set_cons_zero, List.set_cons_succ, i64_w, i32_w]; rfl
 refine pure_ (i := 2) (N := some 4) (v := ?_) (a' := ?_) #[true, true, true, false, false, false, false, false, false, false, false, false, false, false] rfl rfl (any_of HT_.out (by kernel_rfl)) (fun _ _ _ h => h) (Or.inl ⟨by rfl, ?_⟩) ?_ ?_
 rotate_left
 ·intro w'; go_simp; with_reducible rfl
 rotate_left
 ·simp only [Act.put, List.setIfInBounds_toArray, List.set_cons_zero, List.set_cons_succ, i64_w, i32_w]; rfl
 refine pure_ (i := 3) (N := some 5) (v := ?_) (a' := ?_) #[true, true, true, true, false, false, false, false, false, false, false, false, false, false] rfl rfl (any_of HT_.out (by kernel_rfl)) (fun _ _ _ h => h) (Or.inl ⟨by rfl, ?_⟩) ?_ ?_
 rotate_left
 ·intro w'; go_simp; with_reducible rfl
 rotate_left
 ·simp only [Act.put, List.setIfInBounds_toArray, List.set_cons_zero, List.set_cons_succ, i64_w, i32_w]; rfl
 refine take_ (i := 4) (N := some 6) (v := ?_) (a' := ?_) #[true, true, true, true, true, false, false, false, false, false, false, false, false, false] rfl rfl (take_ofW HT_.out HW_.out (by kernel_rfl)) (fun _ _ _ h => h) (Or.inl ⟨by rfl, ?_⟩) hHeld ?_ ?_
 rotate_left
 ·rintro w' ⟨s0, s1⟩; go_simp; with_reducible rfl
 rotate_left
 ·simp only [Act.put, List.setIfInBounds_toArray, List.set_cons_zero, List.set_cons_succ, i64_w, i32_w]; rfl
 refine pure_ (i := 5) (N := some 7) (v := ?_) (a' := ?_) #[true, true, true, true, true, true, false, false, false, false, false, false, false, false] rfl rfl (any_of HT_.out (by kernel_rfl)) (fun _ _ _ h => h) (Or.inl ⟨by rfl, ?_⟩) ?_ ?_
 rotate_left
 ·intro w'; go_simp; with_reducible rfl
 rotate_left
 ·simp only [Act.put, List.setIfInBounds_toArray, List.set_cons_zero, List.set_cons_succ, i64_w, i32_w]; rfl
 refine pure_ (i := 6) (N := some 8) (v := ?_) (a' := ?_) #[true, true, true, true, true, true, true, false, false, false, false, false, false, false] rfl rfl (any_of HT_.out (by kernel_rfl)) (fun _ _ _ h => h) (Or.inl ⟨by rfl, ?_⟩) ?_ ?_
 rotate_left
 ·intro w'; go_simp; with_reducible rfl
 rotate_left
 ·simp only [Act.put, List.setIfInBounds_toArray, List.set_cons_zero, List.set_cons_succ, i64_w, i32_w]; rfl
 refine pure_ (i := 7) (N := some 9) (v := ?_) (a' := ?_) #[true, true, true, true, true, true, true, true, false, false, false, false, false, false] rfl rfl (any_of HT_.out (by kernel_rfl)) (fun _ _ _ h => h) (Or.inl ⟨by rfl, ?_⟩) ?_ ?_
 rotate_left
 ·intro w'; go_simp; with_reducible rfl
 rotate_left
 ·simp only [Act.put, List.setIfInBounds_toArray, List.set_cons_zero, List.set_cons_succ, i64_w, i32_w]; rfl
 refine take_ (i := 8) (N := some 10) (v := ?_) (a' := ?_) #[true, true, true, true, true, true, true, true, true, false, false, false, false, false] rfl rfl (take_ofW HT_.out HW_.out (by kernel_rfl)) (fun _ _ _ h => h) (Or.inl ⟨by rfl, ?_⟩) hHeld ?_ ?_
 rotate_left
 ·rintro w' ⟨s0, s1⟩; go_simp; with_reducible rfl
 rotate_left
 ·simp only [Act.put, List.setIfInBounds_toArray, List.set_cons_zero, List.set_cons_succ, i64_w, i32_w]; rfl
 refine one_ (i := 9) (N := some 11) #[true, true, true, true, true, true, true, true, true, true, false, false, false, false] rfl rfl (one_of HT_.out (by kernel_rfl)) (by decide) (fun K hK => ?_)
 refine value_ (w1 := ?_) (v := ?_) (by rfl) rfl ?_ ?_
 rotate_left 2
 ·go_simp; (constructor <;> rfl)
 refine hK.out _ _ ⟨(blk_cell (blk_alloc BG.out _) 1).trans rfl, (blk_cell (blk_alloc BG.out _) 2).trans rfl⟩ (fun hHeld => ?_)
 clear hK K
 refine norm_ (a' := ?_) ?_ ?_
 rotate_left
 ·show Act.put _ (some 11) _ = _; simp only [Act.put, List.setIfInBounds_toArray, List.set_cons_zero, List.set_cons_succ, i64_w, i32_w]; rfl
 refine one_ (i := 10) (N := some 12) #[true, true, true, true, true, true, true, true, true, true, true, false, false, false] rfl rfl (one_of HT_.out (by kernel_rfl)) (by decide) (fun K hK => ?_)
 refine Kd.R_append_step (Kd.slice 118 k118) (w0 := w0) base (by rfl) (.tmp 6) (.tmp 11) 34 50 (.slice none 0 0) 24 rfl Try.underlying34 info50 rfl (by decide) (by omega) vc b.cs b.l [.slice A0 b.l.length c0] (fun _ => True) (fun k => some k ≠ vc.ownBlock) rfl rfl ⟨.slice A0 b.l.length c0, rfl, Kd.R_mono (apartTyped RL.out RC.out (by decide)) (fun k hk => hk.2)⟩ (fun _ hk => ⟨trivial, hk⟩) (fun _ _ => trivial) (Kd.R_mono RC.out (fun _ _ => trivial)) HB.out (Nat.le_trans HBG.out (Nat.le_of_lt (blk_lt BG.out))) (by omega) ?_
 intro v1 w3 ho hb hg hat
 have BG3 := Aside0.mk (blk_grown BG.out hg (Kd.R_ne RC.out BG.out (by decide)))
 have KT3 := Aside0.mk (((KT.out.grown hg 50 (fun k hk => (ownTyped RC.out hk).2) (by decide)).set 1 v1).set 2 (.slice none 0 0))
 have FIN := Aside0.mk (Brd.doneP BG.out HBG.out RW.out RC.out RL.out ho hg); have HB3 := Aside0.mk hb; have HO := Aside0.mk ho; clear ho hb hg hat
 refine hK.out _ _ ⟨(blk_cell (BG3.out) 1).trans rfl, (blk_cell (BG3.out) 2).trans rfl⟩ (fun hHeld => ?_)
 clear hK K
 refine norm_ (a' := ?_) ?_ ?_
 rotate_left
 ·show Act.put _ (some 12) _ = _; simp only [Act.put, List.setIfInBounds_toArray, List.set_cons_zero, List.set_cons_succ, i64_w, i32_w]; rfl
 refine pure_ (i := 11) (N := some 13) (v := ?_) (a' := ?_) #[true, true, true, true, true, true, true, true, true, true, true, true, false, false] rfl rfl (any_of HT_.out (by kernel_rfl)) (fun _ _ _ h => h) (Or.inl ⟨by rfl, ?_⟩) ?_ ?_
 rotate_left
 ·intro w'; go_simp; with_reducible rfl
 rotate_left
 ·simp only [Act.put, List.setIfInBounds_toArray, List.set_cons_zero, List.set_cons_succ, i64_w, i32_w]; rfl
 refine pure_ (i := 12) (N := some 14) (v := ?_) (a' := ?_) #[true, true, true, true, true, true, true, true, true, true, true, true, true, false] rfl rfl (any_of HT_.out (by kernel_rfl)) (fun _ _ _ h => h) (Or.inl ⟨by rfl, ?_⟩) ?_ ?_
 rotate_left
 ·intro w'; go_simp; with_reducible rfl
 rotate_left
 ·simp only [Act.put, List.setIfInBounds_toArray, List.set_cons_zero, List.set_cons_succ, i64_w, i32_w]; rfl
 refine last_ (i := 13) (N := none) #[true, true, true, true, true, true, true, true, true, true, true, true, true, true] rfl rfl (one_of HT_.out (by kernel_rfl)) (by decide) (fun K hK => ?_)
 have hs : w3.cell? ⟨g, 1, none⟩ = some vc := (blk_cell BG3.out 1).trans rfl; have hfs := blk_frozen BG3.out 1
 refine skip_ (w1 := w3.setCell ⟨g, 1, none⟩ v1) (by rfl) rfl ?_ ?_
 ·obtain ⟨A1, c1, e1⟩ := Kd.R_slice HO.out; subst e1; go_simp
 refine hK.out _ _ ?_
 clear hK K hs hfs
 refine done_ (done_of HT_.out (by kernel_rfl)) ?_
 have hc2 := (blk_cell (blk_set BG3.out 1 v1) 2).trans rfl; have hf2 := blk_frozen (blk_set BG3.out 1 v1) 2; clear HT_ HW_ hHeld
 go_wp2
 (first | go_end0 | ((try simp only [Exit.inBlock, Exit.then]); refine bodyPost_ret (results_none rfl _ _ _) rfl ?_))
 exact ⟨rfl, FIN.out, (HB3.out.setCell HBG.out _).setCell HBG.out _, HS.out.done, KT3.out⟩


/-! ### circuit_board_prod: function 119 -/
set_option maxHeartbeats 4000000 in
set_option maxRecDepth 100000 in
theorem circuit_board_prod.calls (x : Int) (y : Int) {base n : Nat} {w0 w : World} {g : Nat} {b : Bd} (H : BrdS base w0 w g b n) (hn : n < 100000) :
  Calls Try.prog 119 #[.pointer (some ⟨g, 0, none⟩), .int .i64 x, .int .i64 y] w fun e w' => e = .returned (.int .i64 b.l.length) ∧ BrdS base w0 w' g (b.put (opP x y)) (n + 1) := by
 have HS := Aside0.mk H; clear H
 have hu118 := Try.underlying118; have hu74 := Try.underlying74
 go_enter Try.func119, Try.ntmps119
 go_wp2_with (go_at_call 118; refine (circuit_board_put.calls (opP x y) HS.out hn).mono ?_; rintro e w' ⟨rfl, hb⟩; have HR := Aside0.mk hb; clear hb)
 go_ret
 exact ⟨rfl, HR.out⟩


end Go.Proofs.Ythiiodgpdoljoaa.PLc
