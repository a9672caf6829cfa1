-- Laid by our own driver (wip/tools/xprint.py) out of the kit's print.
import Derived.Test.YthiiodgpdoljoaaPLcx0
import Derived.Test.YthiiodgpdoljoaaPLcx9
import Derived.Test.YthiiodgpdoljoaaPLcx11
namespace Go.Proofs.Ythiiodgpdoljoaa.PLc
open Go.RowKit Go.Proofs.YthiiodgpdoljoaaW.PrintWords Go.Proofs.YthiiodgpdoljoaaW.PrintLast Go.Proofs.YthiiodgpdoljoaaW.PrintMore
attribute [local go_sem] max2_int min2_int max_two min_two max_three min_three max_four min_four   -- for this text's walks alone
set_option linter.unusedVariables false
set_option linter.unusedSimpArgs false

/-! ### circuit_board_wire: function 113 -/

theorem wrap_ok {i : Int} (h0 : 0 ≤ i) (h : i < 1000000) : wrap64 (i + 1) = i + 1 := by unfold wrap64; omega
theorem rd76_at (ws : List S76) (i : Nat) (h : i < ws.length) : rd_T76 ws (i : Int) = ws[i] := by simp [rd_T76, List.getD_eq_getElem?_getD, h]
theorem claimIndex (ws : List S76) (x : S76) (hn : ws.length < 1000000) (d : Nat) : ∀ (k i : Nat), ws.length - i = d → i ≤ ws.length → d < k → (∀ j, (h : j < ws.length) → j < i → eq76 x ws[j] = false) →
  api_Claim.l0 k ws (ws.length : Int) (i : Int) x.f0 x.f1 x.f2 x.f3.f0 x.f3.f1 = some (if wIdx ws x < ws.length then (wIdx ws x : Int) else -1) := by
 induction d with
 | zero =>
  intro k i hd hi hk hno
  obtain ⟨k, rfl⟩ : ∃ m, k = m + 1 := ⟨k - 1, by omega⟩
  simp only [api_Claim.l0]
  rw [if_neg (by omega), if_neg]
  unfold wIdx
  rw [List.findIdx_lt_length]
  rintro ⟨y, hy, he⟩
  obtain ⟨j, hj, rfl⟩ := List.getElem_of_mem hy
  rw [hno j hj (by omega)] at he
  exact absurd he (by decide)
 | succ d ih =>
  intro k i hd hi hk hno
  obtain ⟨k, rfl⟩ : ∃ m, k = m + 1 := ⟨k - 1, by omega⟩
  have hlt : i < ws.length := by omega
  simp only [api_Claim.l0]
  rw [if_pos (by omega), if_pos (by omega), if_pos (by omega), rd76_at ws i hlt]
  show (if eq76 x ws[i] = true then _ else _) = _
  by_cases he : eq76 x ws[i] = true
  ·have hw : wIdx ws x = i := by
    unfold wIdx
    rw [List.findIdx_eq hlt]
    exact ⟨he, fun j hj => hno j (by omega) hj⟩
   rw [if_pos he, hw, if_pos hlt]
  ·rw [if_neg he, wrap_ok (by omega) (by omega)]
   have := ih k (i + 1) (by omega) (by omega) (by omega) (fun j hj hji => by
    rcases Nat.lt_or_ge j i with h | h
    ·exact hno j hj h
    ·have : j = i := by omega
     subst this
     simpa using he)
   simpa using this
theorem claimIndexF (ws : List S76) (x : S76) (hn : ws.length < 1000000) : api_Claim.f (ws.length + 1) ws x.f0 x.f1 x.f2 x.f3.f0 x.f3.f1 = some (if wIdx ws x < ws.length then (wIdx ws x : Int) else -1) :=
 claimIndex ws x hn ws.length (ws.length + 1) 0 (by omega) (by omega) (by omega) (fun j _ h => by omega)
def circuit_board_wire.T1 : Bool × List (List Nat × List Nat) := (true, [([], []), ([0], [0]), ([1], [1]), ([2], [2]), ([], []), ([3, 4], [3, 4]), ([5, 5, 0, 1, 2, 3, 4, 5], [5])])
def circuit_board_wire.B1 : List Nat := [0, 1, 3, 7, 0, 31, 63]
theorem circuit_board_wire.tab1 : rtab .any (opsOf Try.f113 1) = circuit_board_wire.T1 := by kernel_rfl
theorem circuit_board_wire.bits1 : waitsOk circuit_board_wire.T1.2 circuit_board_wire.B1 = true := by kernel_rfl
def circuit_board_wire.T4 : Bool × List (List Nat × List Nat) := (true, [([], []), ([], []), ([1], [1]), ([2], [2]), ([3], [3]), ([], []), ([5], [5]), ([4, 6], [4, 6]), ([0, 0, 1, 2, 3, 4, 5, 6, 7], [0]), ([8, 0, 1, 2, 3, 4, 5, 6, 7], [8]), ([9, 7, 7, 0, 1, 2, 3, 4, 5, 6, 7], [7, 9])])
def circuit_board_wire.B4 : List Nat := [0, 0, 2, 6, 14, 0, 32, 126, 255, 511, 1023]
theorem circuit_board_wire.tab4 : rtab .any (opsOf Try.f113 4) = circuit_board_wire.T4 := by kernel_rfl
theorem circuit_board_wire.bits4 : waitsOk circuit_board_wire.T4.2 circuit_board_wire.B4 = true := by kernel_rfl
set_option maxHeartbeats 4000000 in
set_option maxRecDepth 100000 in
theorem circuit_board_wire.calls (op : S76) {base n : Nat} {w0 w : World} {g : Nat} {b : Bd} (H : BrdS base w0 w g b n) (hn : n < 100000) :
  Calls Try.prog 113 #[.pointer (some ⟨g, 0, none⟩), .agg #[.int .i64 op.f0, .int .i64 op.f1, .int .i64 op.f2, .int .u64 op.f3.f0, .int .u64 op.f3.f1]] w fun e w' => e = .returned (.int .i64 (wIdx b.ws op)) ∧ BrdS base w0 w' g (b.wire op) (n + 1) := by
 obtain ⟨⟨vw, vc, vl, bg, hbg, rw, rc, rl⟩, hB, hS, hT⟩ := H
 have BG := Aside0.mk bg; have HBG := Aside0.mk hbg; have RW := Aside0.mk rw; have RC := Aside0.mk rc; have RL := Aside0.mk rl; have HB := Aside0.mk hB
 have HZ := Aside0.mk (Nat.le_trans hbg (Nat.le_of_lt (blk_lt bg)))
 have hs1 := hS.1; have hs2 := hS.2.1; have hs3 := hS.2.2; have HS := Aside0.mk hS; have KT := Aside0.mk hT
 clear bg hbg rw rc rl hB hS hT; have hu76 := Try.underlying76; have hu108 := Try.underlying108
 go_enter Try.func113, Try.ntmps113
 go_wp2_with ((with_reducible refine gate_dst (N := 3) rfl ?_); refine box_event rfl (N := 3) rfl (cs := #[.int .i64 op.f0, .int .i64 op.f1, .int .i64 op.f2, .int .u64 op.f3.f0, .int .u64 op.f3.f1]) (t := 76) (by first | (go_simp; done) | (go_simp; rfl)) ?_; intro gb hgb w1 hbox hb; have BB := Aside0.mk hbox; have HGB := Aside0.mk hgb; have HBB := Aside0.mk hb; clear hbox hgb hb)
 have NEB : Aside0 (some gb ≠ vw.ownBlock) := Aside0.mk (fun e => by have := (ownTyped RW.out e.symm).1; have := HGB.out; omega)
 replace HB := Aside0.mk (below_then HB.out HZ.out HBB.out); replace KT := Aside0.mk (KT.out.below HBB.out)
 replace BG := Aside0.mk (blk_below BG.out HBB.out); replace RW := Aside0.mk (Kd.R_below RW.out HBB.out); replace RC := Aside0.mk (Kd.R_below RC.out HBB.out); replace RL := Aside0.mk (Kd.R_below RL.out HBB.out)
 obtain ⟨r, hr, hcase⟩ : ∃ r : Int, api_Claim.f (b.ws.length + 1) b.ws op.f0 op.f1 op.f2 op.f3.f0 op.f3.f1 = some r ∧ ((wIdx b.ws op < b.ws.length ∧ r = (wIdx b.ws op : Int)) ∨ (¬ wIdx b.ws op < b.ws.length ∧ r = -1)) := by
  rw [claimIndexF b.ws op (by omega)]
  by_cases h : wIdx b.ws op < b.ws.length
  ·exact ⟨_, rfl, .inl ⟨h, by rw [if_pos h]⟩⟩
  ·exact ⟨_, rfl, .inr ⟨h, by rw [if_neg h]⟩⟩
 have HR := Aside0.mk hr; have HCASE := Aside0.mk hcase; clear hr hcase
 refine start_ (n := 7) (S := fun w' => w'.cell? ⟨g, 0, none⟩ = some vw ∧ w'.cell? ⟨gb, 0, none⟩ = some (.int .i64 op.f0) ∧ w'.cell? ⟨gb, 1, none⟩ = some (.int .i64 op.f1) ∧ w'.cell? ⟨gb, 2, none⟩ = some (.int .i64 op.f2) ∧ w'.cell? ⟨gb, 3, none⟩ = some (.int .u64 op.f3.f0) ∧ w'.cell? ⟨gb, 4, none⟩ = some (.int .u64 op.f3.f1)) (ds := []) #[false, false, false, false, false, false, false] (by kernel_rfl) rfl rfl ⟨(blk_cell (blk_drew BG.out) 0).trans rfl, (blk_cell (blk_drew BB.out) 0).trans rfl, (blk_cell (blk_drew BB.out) 1).trans rfl, (blk_cell (blk_drew BB.out) 2).trans rfl, (blk_cell (blk_drew BB.out) 3).trans rfl, (blk_cell (blk_drew BB.out) 4).trans rfl⟩ (fun hHeld => ?_)
 refine with_tabW circuit_board_wire.tab1 circuit_board_wire.bits1 (fun HT_ HW_ => ?_)
 replace BG := Aside0.mk (blk_drew BG.out); replace BB := Aside0.mk (blk_drew BB.out); replace RW := Aside0.mk (Kd.R_drew RW.out); replace RC := Aside0.mk (Kd.R_drew RC.out); replace RL := Aside0.mk (Kd.R_drew RL.out); replace HB := Aside0.mk (below_drew1 HB.out); replace KT := Aside0.mk (KT.out.below (below_drew (Below.refl _ _)))
 generalize w1.drew = w2 at BG BB RW RC RL HB KT hHeld ⊢
 refine pure_ (i := 0) (N := some 6) (v := ?_) (a' := ?_) #[true, false, false, false, false, false, false] rfl rfl (any_of HT_.out (by kernel_rfl)) (fun _ _ _ h => h) (Or.inl ⟨by rfl, ?_⟩) ?_ ?_
 rotate_left
 ·intro w'; go_simp; with_reducible rfl
 rotate_left
 ·simp only [Act.put, List.setIfInBounds_toArray, List.set_cons_zero, List.set_cons_succ, i64_w, i32_w]; rfl
 refine pure_ (i := 1) (N := some 7) (v := ?_) (a' := ?_) #[true, true, false, false, false, false, false] rfl rfl (any_of HT_.out (by kernel_rfl)) (fun _ _ _ h => h) (Or.inl ⟨by rfl, ?_⟩) ?_ ?_
 rotate_left
 ·intro w'; go_simp; with_reducible rfl
 rotate_left
 ·simp only [Act.put, List.setIfInBounds_toArray, List.set_cons_zero, List.set_cons_succ, i64_w, i32_w]; rfl
 refine pure_ (i := 2) (N := some 8) (v := ?_) (a' := ?_) #[true, true, true, false, false, false, false] rfl rfl (any_of HT_.out (by kernel_rfl)) (fun _ _ _ h => h) (Or.inl ⟨by rfl, ?_⟩) ?_ ?_
 rotate_left
 ·intro w'; go_simp; with_reducible rfl
 rotate_left
 ·simp only [Act.put, List.setIfInBounds_toArray, List.set_cons_zero, List.set_cons_succ, i64_w, i32_w]; rfl
 refine take_ (i := 3) (N := some 9) (v := ?_) (a' := ?_) #[true, true, true, true, false, false, false] rfl rfl (take_ofW HT_.out HW_.out (by kernel_rfl)) (fun _ _ _ h => h) (Or.inl ⟨by rfl, ?_⟩) hHeld ?_ ?_
 rotate_left
 ·rintro w' ⟨s0, s1, s2, s3, s4, s5⟩; go_simp; with_reducible rfl
 rotate_left
 ·simp only [Act.put, List.setIfInBounds_toArray, List.set_cons_zero, List.set_cons_succ, i64_w, i32_w]; rfl
 refine take_ (i := 4) (N := some 10) (v := ?_) (a' := ?_) #[true, true, true, true, true, false, false] rfl rfl (take_ofW HT_.out HW_.out (by kernel_rfl)) (fun _ _ _ h => h) (Or.inl ⟨by rfl, ?_⟩) hHeld ?_ ?_
 rotate_left
 ·rintro w' ⟨s0, s1, s2, s3, s4, s5⟩; go_simp; with_reducible rfl
 rotate_left
 ·simp only [Act.put, List.setIfInBounds_toArray, List.set_cons_zero, List.set_cons_succ, i64_w, i32_w]; rfl
 refine one_ (i := 5) (N := some 11) #[true, true, true, true, true, true, false] rfl rfl (one_of HT_.out (by kernel_rfl)) (by decide) (fun K hK => ?_)
 obtain ⟨A1, c1, e1, hc1, RD⟩ := Kd.R_reads RW.out; subst e1
 refine goes_ Try.func134 (by kernel_rfl) rfl #[.slice A1 b.ws.length c1, .agg #[.int .i64 op.f0, .int .i64 op.f1, .int .i64 op.f2, .int .u64 op.f3.f0, .int .u64 op.f3.f1]] (by rfl) rfl rfl (by (try simp only [List.map_toArray, List.map_cons, List.map_nil]); first | done | rfl) ?_
 refine (api_Claim.calls (b.ws.length + 1) A1 c1 b.ws op.f0 op.f1 op.f2 op.f3.f0 op.f3.f1 _ w2 RD hc1 HR.out).mono ?_
 rintro e w3 ⟨rfl, hb⟩
 refine ⟨_, rfl, ?_⟩
 replace KT := Aside0.mk (KT.out.below hb); replace HB := Aside0.mk (below_then HB.out (Nat.le_trans HBG.out (Nat.le_of_lt (blk_lt BG.out))) hb)
 replace BG := Aside0.mk (blk_below BG.out hb); replace BB := Aside0.mk (blk_below BB.out hb); replace RW := Aside0.mk (Kd.R_below RW.out hb); replace RC := Aside0.mk (Kd.R_below RC.out hb); replace RL := Aside0.mk (Kd.R_below RL.out hb)
 clear hb RD
 refine hK.out _ _ ⟨(blk_cell (BG.out) 0).trans rfl, (blk_cell (BB.out) 0).trans rfl, (blk_cell (BB.out) 1).trans rfl, (blk_cell (BB.out) 2).trans rfl, (blk_cell (BB.out) 3).trans rfl, (blk_cell (BB.out) 4).trans rfl⟩ (fun hHeld => ?_)
 clear hK K
 refine norm_ (a' := ?_) ?_ ?_
 rotate_left
 ·show Act.put _ (some 11) _ = _; simp only [Act.put, List.setIfInBounds_toArray, List.set_cons_zero, List.set_cons_succ, i64_w, i32_w]; rfl
 refine pure_ (i := 6) (N := some 5) (v := ?_) (a' := ?_) #[true, true, true, true, true, true, true] rfl rfl (any_of HT_.out (by kernel_rfl)) (fun _ _ _ h => h) (Or.inl ⟨by rfl, ?_⟩) ?_ ?_
 rotate_left
 ·intro w'; go_simp; with_reducible rfl
 rotate_left
 ·simp only [Act.put, List.setIfInBounds_toArray, List.set_cons_zero, List.set_cons_succ, i64_w, i32_w]; rfl
 refine done_ (done_of HT_.out (by kernel_rfl)) ?_
 rcases HCASE.out with ⟨h1, rfl⟩ | ⟨h1, rfl⟩
 ·go_wp2
  go_ret
  refine ⟨rfl, ⟨⟨_, vc, vl, BG.out, HBG.out, ?_, RC.out, RL.out⟩, HB.out, HS.out.wire op, KT.out⟩⟩
  simp only [Bd.wire, wAdd, if_pos h1]
  exact RW.out
 ·have hw1 : wIdx b.ws op = b.ws.length := by
   have := List.findIdx_le_length (p := eq76 op) (xs := b.ws)
   unfold wIdx at *
   omega
  have HW1 := Aside0.mk hw1; clear h1 hw1 HR
  go_wp2
  clear HCASE hHeld HT_ HW_
  refine start_ (n := 11) (S := fun w' => w'.cell? ⟨g, 0, none⟩ = some (.slice A1 b.ws.length c1) ∧ w'.cell? ⟨gb, 0, none⟩ = some (.int .i64 op.f0) ∧ w'.cell? ⟨gb, 1, none⟩ = some (.int .i64 op.f1) ∧ w'.cell? ⟨gb, 2, none⟩ = some (.int .i64 op.f2) ∧ w'.cell? ⟨gb, 3, none⟩ = some (.int .u64 op.f3.f0) ∧ w'.cell? ⟨gb, 4, none⟩ = some (.int .u64 op.f3.f1)) (ds := [10]) #[false, false, false, false, false, false, false, false, false, false, false] (by kernel_rfl) rfl rfl ⟨(blk_cell (blk_drew BG.out) 0).trans rfl, (blk_cell (blk_drew BB.out) 0).trans rfl, (blk_cell (blk_drew BB.out) 1).trans rfl, (blk_cell (blk_drew BB.out) 2).trans rfl, (blk_cell (blk_drew BB.out) 3).trans rfl, (blk_cell (blk_drew BB.out) 4).trans rfl⟩ (fun hHeld => ?_)
  refine with_tabW circuit_board_wire.tab4 circuit_board_wire.bits4 (fun HT_ HW_ => ?_)
  replace BG := Aside0.mk (blk_drew BG.out); replace BB := Aside0.mk (blk_drew BB.out); replace RW := Aside0.mk (Kd.R_drew RW.out); replace RC := Aside0.mk (Kd.R_drew RC.out); replace RL := Aside0.mk (Kd.R_drew RL.out); replace HB := Aside0.mk (below_drew1 HB.out); replace KT := Aside0.mk (KT.out.below (below_drew (Below.refl _ _)))
  generalize w3.drew = w2 at BG BB RW RC RL HB KT hHeld ⊢
  refine pure_ (i := 0) (N := some 15) (v := ?_) (a' := ?_) #[true, false, false, false, false, false, false, false, false, false, false] rfl rfl (any_of HT_.out (by kernel_rfl)) (fun _ _ _ h => h) (Or.inl ⟨by rfl, ?_⟩) ?_ ?_
  rotate_left
  ·intro w'; go_simp; with_reducible rfl
  rotate_left
  ·simp only [Act.put, List.setIfInBounds_toArray, List.set_cons_zero, List.set_cons_succ, i64_w, i32_w]; rfl
  refine pure_ (i := 1) (N := some 16) (v := ?_) (a' := ?_) #[true, true, false, false, false, false, false, false, false, false, false] rfl rfl (any_of HT_.out (by kernel_rfl)) (fun _ _ _ h => h) (Or.inl ⟨by rfl, ?_⟩) ?_ ?_
  rotate_left
  ·intro w'; go_simp; with_reducible rfl
  rotate_left
  ·simp only [Act.put, List.setIfInBounds_toArray, List.set_cons_zero, List.set_cons_succ, i64_w, i32_w]; rfl
  refine pure_ (i := 2) (N := some 17) (v := ?_) (a' := ?_) #[true, true, true, false, false, false, false, false, false, false, false] rfl rfl (any_of HT_.out (by kernel_rfl)) (fun _ _ _ h => h) (Or.inl ⟨by rfl, ?_⟩) ?_ ?_
  rotate_left
  ·intro w'; go_simp; with_reducible rfl
  rotate_left
  ·simp only [Act.put, List.setIfInBounds_toArray, List.set_cons_zero, List.set_cons_succ, i64_w, i32_w]; rfl
  refine pure_ (i := 3) (N := some 18) (v := ?_) (a' := ?_) #[true, true, true, true, false, false, false, false, false, false, false] rfl rfl (any_of HT_.out (by kernel_rfl)) (fun _ _ _ h => h) (Or.inl ⟨by rfl, ?_⟩) ?_ ?_
  rotate_left
  ·intro w'; go_simp; with_reducible rfl
  rotate_left
  ·simp only [Act.put, List.setIfInBounds_toArray, List.set_cons_zero, List.set_cons_succ, i64_w, i32_w]; rfl
  refine take_ (i := 4) (N := some 19) (v := ?_) (a' := ?_) #[true, true, true, true, true, false, false, false, false, false, false] rfl rfl (take_ofW HT_.out HW_.out (by kernel_rfl)) (fun _ _ _ h => h) (Or.inl ⟨by rfl, ?_⟩) hHeld ?_ ?_
  rotate_left
  ·rintro w' ⟨s0, s1, s2, s3, s4, s5⟩; go_simp; with_reducible rfl
  rotate_left
  ·simp only [Act.put, List.setIfInBounds_toArray, List.set_cons_zero, List.set_cons_succ, i64_w, i32_w]; rfl
  refine take_ (i := 5) (N := some 20) (v := ?_) (a' := ?_) #[true, true, true, true, true, true, false, false, false, false, false] rfl rfl (take_ofW HT_.out HW_.out (by kernel_rfl)) (fun _ _ _ h => h) (Or.inl ⟨by rfl, ?_⟩) hHeld ?_ ?_
  rotate_left
  ·rintro w' ⟨s0, s1, s2, s3, s4, s5⟩; go_simp; with_reducible rfl
  rotate_left
  ·simp only [Act.put, List.setIfInBounds_toArray, List.set_cons_zero, List.set_cons_succ, i64_w, i32_w]; rfl
  refine one_ (i := 6) (N := some 21) #[true, true, true, true, true, true, true, false, false, false, false] rfl rfl (one_of HT_.out (by kernel_rfl)) (by decide) (fun K hK => ?_)
  refine value_ (w1 := ?_) (v := ?_) (by rfl) rfl ?_ ?_
  rotate_left 2
  ·go_simp; (constructor <;> rfl)
  refine hK.out _ _ ⟨(blk_cell (blk_alloc BG.out _) 0).trans rfl, (blk_cell (blk_alloc BB.out _) 0).trans rfl, (blk_cell (blk_alloc BB.out _) 1).trans rfl, (blk_cell (blk_alloc BB.out _) 2).trans rfl, (blk_cell (blk_alloc BB.out _) 3).trans rfl, (blk_cell (blk_alloc BB.out _) 4).trans rfl⟩ (fun hHeld => ?_)
  clear hK K
  refine norm_ (a' := ?_) ?_ ?_
  rotate_left
  ·show Act.put _ (some 21) _ = _; simp only [Act.put, List.setIfInBounds_toArray, List.set_cons_zero, List.set_cons_succ, i64_w, i32_w]; rfl
  refine one_ (i := 7) (N := some 22) #[true, true, true, true, true, true, true, true, false, false, false] rfl rfl (one_of HT_.out (by kernel_rfl)) (by decide) (fun K hK => ?_)
  refine Kd.R_append_step k76 (w0 := w0) base (by rfl) (.tmp 19) (.tmp 21) 30 76 (.agg #[(.int .i64 0), (.int .i64 0), (.int .i64 0), (.int .u64 0), (.int .u64 0)]) 40 rfl Try.underlying30 info76 rfl (by decide) (by omega) (.slice A1 b.ws.length c1) b.ws op [.int .i64 op.f0, .int .i64 op.f1, .int .i64 op.f2, .int .u64 op.f3.f0, .int .u64 op.f3.f1] (fun _ => True) (fun _ => False) rfl rfl (k76_mkM _ _ _ op) (fun _ hk => hk.elim) (fun _ _ => trivial) RW.out HB.out (Nat.le_trans HBG.out (Nat.le_of_lt (blk_lt BG.out))) (by omega) ?_
  intro v1 w3 ho hb hg hat
  have BG3 := Aside0.mk (blk_grown BG.out hg (Kd.R_ne RW.out BG.out (by decide))); have BB3 := Aside0.mk (blk_grown BB.out hg NEB.out)
  have KT3 := Aside0.mk ((KT.out.grown hg 76 (fun k hk => (ownTyped RW.out hk).2) (by decide)).set 0 v1)
  have FIN := Aside0.mk (Brd.wireP BG.out HBG.out RW.out RC.out RL.out ho hg); have HB3 := Aside0.mk hb; have HO := Aside0.mk ho; clear ho hb hg hat
  refine hK.out _ _ ⟨(blk_cell (BG3.out) 0).trans rfl, (blk_cell (BB3.out) 0).trans rfl, (blk_cell (BB3.out) 1).trans rfl, (blk_cell (BB3.out) 2).trans rfl, (blk_cell (BB3.out) 3).trans rfl, (blk_cell (BB3.out) 4).trans rfl⟩ (fun hHeld => ?_)
  clear hK K
  refine norm_ (a' := ?_) ?_ ?_
  rotate_left
  ·show Act.put _ (some 22) _ = _; simp only [Act.put, List.setIfInBounds_toArray, List.set_cons_zero, List.set_cons_succ, i64_w, i32_w]; rfl
  refine pure_ (i := 8) (N := some 23) (v := ?_) (a' := ?_) #[true, true, true, true, true, true, true, true, true, false, false] rfl rfl (any_of HT_.out (by kernel_rfl)) (fun _ _ _ h => h) (Or.inl ⟨by rfl, ?_⟩) ?_ ?_
  rotate_left
  ·intro w'; go_simp; with_reducible rfl
  rotate_left
  ·simp only [Act.put, List.setIfInBounds_toArray, List.set_cons_zero, List.set_cons_succ, i64_w, i32_w]; rfl
  refine pure_ (i := 9) (N := some 24) (v := ?_) (a' := ?_) #[true, true, true, true, true, true, true, true, true, true, false] rfl rfl (any_of HT_.out (by kernel_rfl)) (fun _ _ _ h => h) (Or.inl ⟨by rfl, ?_⟩) ?_ ?_
  rotate_left
  ·intro w'; go_simp; with_reducible rfl
  rotate_left
  ·simp only [Act.put, List.setIfInBounds_toArray, List.set_cons_zero, List.set_cons_succ, i64_w, i32_w]; rfl
  refine last_ (i := 10) (N := none) #[true, true, true, true, true, true, true, true, true, true, true] rfl rfl (one_of HT_.out (by kernel_rfl)) (by decide) (fun K hK => ?_)
  have hs : w3.cell? ⟨g, 0, none⟩ = some (.slice A1 b.ws.length c1) := (blk_cell BG3.out 0).trans rfl; have hfs := blk_frozen BG3.out 0
  refine skip_ (w1 := w3.setCell ⟨g, 0, none⟩ v1) (by rfl) rfl ?_ ?_
  ·obtain ⟨A1, c1, e1⟩ := Kd.R_slice HO.out; subst e1; go_simp
  refine hK.out _ _ ?_
  clear hK K hs hfs
  refine done_ (done_of HT_.out (by kernel_rfl)) ?_
  obtain ⟨vw', vc', vl', bg, hbg, rw, rc, rl⟩ := FIN.out; obtain ⟨A2, c2, e2⟩ := Kd.R_slice rw; subst e2; have hcl := (blk_cell bg 0).trans rfl; clear bg hbg rw rc rl
  go_wp2
  go_ret
  refine ⟨?_, ?_⟩
  ·rw [HW1.out]; simp [List.length_append]
  ·refine ⟨?_, HB3.out.setCell HBG.out _, HS.out.wire op, KT3.out⟩
   have := FIN.out
   simp only [Bd.wire, wAdd, HW1.out, Nat.lt_irrefl, if_false]
   exact this


end Go.Proofs.Ythiiodgpdoljoaa.PLc
