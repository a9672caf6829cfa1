-- Laid by our own driver (wip/tools/xprint.py) out of the kit's print.
import Derived.Test.YthiiodgpdoljoaaPLcx0
import Derived.Test.YthiiodgpdoljoaaPLcx10
import Derived.Test.YthiiodgpdoljoaaPLcx11
import Derived.Test.YthiiodgpdoljoaaPLcx12
namespace Go.Proofs.Ythiiodgpdoljoaa.PLc
open Go.RowKit Go.Proofs.YthiiodgpdoljoaaW.PrintWords Go.Proofs.YthiiodgpdoljoaaW.PrintLast Go.Proofs.YthiiodgpdoljoaaW.PrintMore
attribute [local go_sem] max2_int min2_int max_two min_two max_three min_three max_four min_four   -- for this text's walks alone
set_option linter.unusedVariables false
set_option linter.unusedSimpArgs false

/-! ### circuit_board_add: function 120 -/

@[reducible] def cl (c : Int) : S76 := ⟨c, 0, 0, ⟨0, 0⟩⟩
@[reducible] def clk (c k s : Int) : S76 := ⟨c, k, s, ⟨0, 0⟩⟩
def gate8 (b : Bd) (_d a c _s : Int) : Bd :=
 let x : Int := wIdx b.ws (cl a); let b := b.wire (cl a)
 let y : Int := wIdx b.ws (cl c); let b := b.wire (cl c)
 let i : Int := b.l.length; let b := b.put (opV x)
 let j : Int := b.l.length; let b := b.put (opV y)
 let b := b.put (opS i j)
 b.done
def gateT (b : Bd) (r d a _c s : Int) : Bd :=
 let x : Int := wIdx b.ws (cl d); let b := b.wire (cl d)
 let y : Int := wIdx b.ws (clk a r s); let b := b.wire (clk a r s)
 let i : Int := b.l.length; let b := b.put (opV x)
 let j : Int := b.l.length; let b := b.put (opV y)
 let b := b.put (opS i j)
 b.done
def gate3 (b : Bd) (d a _c _s : Int) : Bd :=
 let x : Int := wIdx b.ws (cl d); let b := b.wire (cl d)
 let y : Int := wIdx b.ws (cl a); let b := b.wire (cl a)
 let i : Int := b.l.length; let b := b.put (opV x)
 let j : Int := b.l.length; let b := b.put (opV y)
 let m : Int := b.l.length; let b := b.put (opS i j)
 let n : Int := b.l.length; let b := b.put ⟨1, 0, 0, ⟨0, 1⟩⟩
 let b := b.put (opS m n)
 b.done
def gate1 (b : Bd) (d a c _s : Int) : Bd :=
 let x : Int := wIdx b.ws (cl d); let b := b.wire (cl d)
 let y : Int := wIdx b.ws (cl a); let b := b.wire (cl a)
 let z : Int := wIdx b.ws (cl c); let b := b.wire (cl c)
 let i : Int := b.l.length; let b := b.put (opV x)
 let j : Int := b.l.length; let b := b.put (opV y)
 let m : Int := b.l.length; let b := b.put (opS i j)
 let n : Int := b.l.length; let b := b.put (opV z)
 let b := b.put (opS m n)
 b.done
def gate2 (b : Bd) (d a c _s : Int) : Bd :=
 let x : Int := wIdx b.ws (cl d); let b := b.wire (cl d)
 let y : Int := wIdx b.ws (cl a); let b := b.wire (cl a)
 let z : Int := wIdx b.ws (cl c); let b := b.wire (cl c)
 let i : Int := b.l.length; let b := b.put (opV x)
 let j : Int := b.l.length; let b := b.put (opV y)
 let m : Int := b.l.length; let b := b.put (opV z)
 let n : Int := b.l.length; let b := b.put (opP j m)
 let b := b.put (opS i n)
 b.done
def add0 (b : Bd) (c s x y0 : Int) : Bd :=
 let y : Int := wIdx b.ws (cl c); let b := b.wire (cl c)
 let k : Int := wIdx b.ws (cl s); let b := b.wire (cl s)
 let i : Int := b.l.length; let b := b.put (opV x)
 let j : Int := b.l.length; let b := b.put (opV y0)
 let m : Int := b.l.length; let b := b.put (opS i j)
 let n : Int := b.l.length; let b := b.put (opV y)
 let b := b.put (opS m n)
 let b := b.done
 let i : Int := b.l.length; let b := b.put (opV k)
 let j : Int := b.l.length; let b := b.put (opV y0)
 let m : Int := b.l.length; let b := b.put (opV y)
 let n : Int := b.l.length; let b := b.put (opP j m)
 b.put (opS i n)
def add1 (b : Bd) (c s x y0 : Int) : Bd :=
 let y : Int := wIdx b.ws (cl c); let b := b.wire (cl c)
 let k : Int := wIdx b.ws (cl s); let b := b.wire (cl s)
 let t : Int := wIdx b.ws (clk s 1 1); let b := b.wire (clk s 1 1)
 let i : Int := b.l.length; let b := b.put (opV x)
 let j : Int := b.l.length; let b := b.put (opV y0)
 let m : Int := b.l.length; let b := b.put (opS i j)
 let n : Int := b.l.length; let b := b.put (opV y)
 let i : Int := b.l.length; let b := b.put (opS m n)
 let j : Int := b.l.length; let b := b.put (opV t)
 let b := b.put (opS i j)
 let b := b.done
 let i : Int := b.l.length; let b := b.put (opV k)
 let j : Int := b.l.length; let b := b.put (opV y0)
 let m : Int := b.l.length; let b := b.put (opV y)
 let n : Int := b.l.length; let b := b.put (opP j m)
 let e : Int := b.l.length; let b := b.put (opS i n)
 let z : Int := b.l.length; let b := b.put (opV t)
 let j : Int := b.l.length; let b := b.put (opV y0)
 let m : Int := b.l.length; let b := b.put (opV y)
 let q : Int := b.l.length; let b := b.put (opS j m)
 let r : Int := b.l.length; let b := b.put (opP z q)
 b.put (opS e r)
def gate7 (b : Bd) (w d a c s : Int) : Bd :=
 let x : Int := wIdx b.ws (cl d); let b := b.wire (cl d)
 let y : Int := wIdx b.ws (cl a); let b := b.wire (cl a)
 (if w = 0 then add0 b c s x y else add1 b c s x y).done

theorem BrdS.ne {base : Nat} {w0 w : World} {g : Nat} {b : Bd} {n k : Nat} {cells : Array Value} {t : TypeId} (h : BrdS base w0 w g b n) (hk : w.heap[k]? = some (.cells cells t (0, 0))) (ht : t ≠ 108) : k ≠ g := by
 obtain ⟨_, _, _, bg, _⟩ := h.brd
 exact blk_ne hk bg ht
theorem Bd.Small.mono {b : Bd} {n m : Nat} (h : b.Small n) (hm : n ≤ m) : b.Small m := ⟨by have := h.1; omega, by have := h.2.1; omega, by have := h.2.2; omega⟩
theorem BrdS.back {base : Nat} {w0 w wa wb w' : World} {g : Nat} {b b' : Bd} {n m k : Nat} (H : BrdS base w0 w g b n) (ha : Below w.heap.size w wa) (hb : Below wa.heap.size wa wb) (h : BrdS base wb w' g b' m) (hm : m ≤ k) : BrdS base w0 w' g b' k :=
 have h2 := (H.step ha).step hb
 ⟨h.brd, h2.below.trans h.below, h.small.mono hm, h2.kept.trans h.kept⟩
def circuit_board_add.T1 : Bool × List (List Nat × List Nat) := (true, [([], []), ([], []), ([1], [1]), ([2], [2]), ([0, 3], [0, 3]), ([], []), ([], []), ([6], [6]), ([7], [7]), ([5, 8, 4], [5, 8]), ([4, 9, 0, 1, 2, 3, 4], [4]), ([9, 10, 0, 1, 2, 3, 4, 5, 6, 7, 8, 9, 10], [9])])
def circuit_board_add.B1 : List Nat := [0, 0, 2, 6, 15, 0, 0, 64, 192, 511, 1023, 2047]
theorem circuit_board_add.tab1 : rtab .any (opsOf Try.f120 1) = circuit_board_add.T1 := by kernel_rfl
theorem circuit_board_add.bits1 : waitsOk circuit_board_add.T1.2 circuit_board_add.B1 = true := by kernel_rfl
set_option maxHeartbeats 4000000 in
set_option maxRecDepth 100000 in
theorem add0.calls (s0 s1 s2 s3 s4 : Int) (As : Option Addr) (ns cs : Nat) (d a c s x y : Int) {base n : Nat} {w0 w : World} {g : Nat} {b : Bd} (H : BrdS base w0 w g b n) (hn : n < 90000) (hw : (s0 == 0) = true) :
  Calls Try.prog 120 #[.pointer (some ⟨g, 0, none⟩), .agg #[.int .i64 s0, .int .i64 s1, .int .i64 s2, .int .i64 s3, .int .i64 s4, .slice As ns cs], .agg #[.int .i64 7, .int .i64 d, .int .i64 a, .int .i64 c, .int .i64 s], .int .i64 x, .int .i64 y] w fun e w' => e = .returned (.tuple #[]) ∧ BrdS base w0 w' g (add0 b c s x y) (n + 50) := by
 have H0 := Aside0.mk H; clear H
 have hu24 := Try.underlying24; have hu105 := Try.underlying105; have hu76 := Try.underlying76; have hu74 := Try.underlying74; have hu118 := Try.underlying118
 go_enter Try.func120, Try.ntmps120
 go_wp2_with (first | ((with_reducible refine gate_dst (N := 6) rfl ?_); refine box_event rfl (N := 6) rfl (cs := #[.int .i64 s0, .int .i64 s1, .int .i64 s2, .int .i64 s3, .int .i64 s4, .slice As ns cs]) (t := 24) (by first | (go_simp; done) | (go_simp; rfl)) ?_; intro gs hgs wgs hbox hb; have BKgs := Aside0.mk hbox; have HBgs := Aside0.mk hb; clear hbox hb hgs; have hcs0 := (blk_cell BKgs.out 0).trans rfl) | ((with_reducible refine gate_dst (N := 7) rfl ?_); refine box_event rfl (N := 7) rfl (cs := #[.int .i64 7, .int .i64 d, .int .i64 a, .int .i64 c, .int .i64 s]) (t := 105) (by first | (go_simp; done) | (go_simp; rfl)) ?_; intro gg hgg wgg hbox hb; have BKgg := Aside0.mk hbox; have HBgg := Aside0.mk hb; clear hbox hb hgg; replace BKgs := Aside0.mk (blk_below BKgs.out HBgg.out); have HS := Aside0.mk (⟨(H0.out.brd.below HBgs.out).below HBgg.out, Below.refl _ _, H0.out.small, TK.refl _ _⟩ : BrdS base wgg wgg g b n); have NGg := Aside0.mk (HS.out.ne BKgg.out (by decide)); have NGs := Aside0.mk (HS.out.ne BKgs.out (by decide)); have hcg0 := (blk_cell BKgg.out 0).trans rfl; have hcg1 := (blk_cell BKgg.out 1).trans rfl; have hcg2 := (blk_cell BKgg.out 2).trans rfl; have hcg3 := (blk_cell BKgg.out 3).trans rfl; have hcg4 := (blk_cell BKgg.out 4).trans rfl; have hcs0 := (blk_cell BKgs.out 0).trans rfl))
 clear hcs0 hcg0 hcg1 hcg2 hcg3 hcg4
 refine start_ (n := 12) (S := fun w' => w'.cell? ⟨gg, 3, none⟩ = some (.int .i64 c) ∧ w'.cell? ⟨gg, 4, none⟩ = some (.int .i64 s)) (ds := []) #[false, false, false, false, false, false, false, false, false, false, false, false] (by kernel_rfl) rfl rfl ⟨(blk_cell (blk_drew (HS.out.kept gg _ 105 BKgg.out (by decide) (by decide) (by decide) NGg.out)) 3).trans rfl, (blk_cell (blk_drew (HS.out.kept gg _ 105 BKgg.out (by decide) (by decide) (by decide) NGg.out)) 4).trans rfl⟩ (fun hHeld => ?_)
 refine with_tabW circuit_board_add.tab1 circuit_board_add.bits1 (fun HT_ HW_ => ?_)
 replace HS := Aside0.mk (HS.out.step (below_drew (Below.refl _ _)))
 generalize wgg.drew = wd at HS hHeld ⊢
 refine pure_ (i := 0) (N := some 15) (v := ?_) (a' := ?_) #[true, false, false, false, false, false, false, false, false, false, false, false] rfl rfl (any_of HT_.out (by kernel_rfl)) (fun _ _ _ h => h) (Or.inl ⟨by rfl, ?_⟩) ?_ ?_
 rotate_left
 ·intro w'; go_simp; with_reducible rfl
 rotate_left
 ·simp only [Act.put, List.setIfInBounds_toArray, List.set_cons_zero, List.set_cons_succ, i64_w, i32_w]; rfl
 refine pure_ (i := 1) (N := some 16) (v := ?_) (a' := ?_) #[true, true, false, false, false, false, false, false, false, false, false, false] rfl rfl (any_of HT_.out (by kernel_rfl)) (fun _ _ _ h => h) (Or.inl ⟨by rfl, ?_⟩) ?_ ?_
 rotate_left
 ·intro w'; go_simp; with_reducible rfl
 rotate_left
 ·simp only [Act.put, List.setIfInBounds_toArray, List.set_cons_zero, List.set_cons_succ, i64_w, i32_w]; rfl
 refine take_ (i := 2) (N := some 17) (v := ?_) (a' := ?_) #[true, true, true, false, false, false, false, false, false, false, false, false] rfl rfl (take_ofW HT_.out HW_.out (by kernel_rfl)) (fun _ _ _ h => h) (Or.inl ⟨by rfl, ?_⟩) hHeld ?_ ?_
 rotate_left
 ·rintro w' ⟨s0, s1⟩; go_simp; with_reducible rfl
 rotate_left
 ·simp only [Act.put, List.setIfInBounds_toArray, List.set_cons_zero, List.set_cons_succ, i64_w, i32_w]; rfl
 refine pure_ (i := 3) (N := some 18) (v := ?_) (a' := ?_) #[true, true, true, true, false, false, false, false, false, false, false, false] rfl rfl (any_of HT_.out (by kernel_rfl)) (fun _ _ _ h => h) (Or.inl ⟨by rfl, ?_⟩) ?_ ?_
 rotate_left
 ·intro w'; go_simp; with_reducible rfl
 rotate_left
 ·simp only [Act.put, List.setIfInBounds_toArray, List.set_cons_zero, List.set_cons_succ, i64_w, i32_w]; rfl
 refine pure_ (i := 5) (N := some 20) (v := ?_) (a' := ?_) #[true, true, true, true, false, true, false, false, false, false, false, false] rfl rfl (any_of HT_.out (by kernel_rfl)) (fun _ _ _ h => h) (Or.inl ⟨by rfl, ?_⟩) ?_ ?_
 rotate_left
 ·intro w'; go_simp; with_reducible rfl
 rotate_left
 ·simp only [Act.put, List.setIfInBounds_toArray, List.set_cons_zero, List.set_cons_succ, i64_w, i32_w]; rfl
 refine pure_ (i := 6) (N := some 21) (v := ?_) (a' := ?_) #[true, true, true, true, false, true, true, false, false, false, false, false] rfl rfl (any_of HT_.out (by kernel_rfl)) (fun _ _ _ h => h) (Or.inl ⟨by rfl, ?_⟩) ?_ ?_
 rotate_left
 ·intro w'; go_simp; with_reducible rfl
 rotate_left
 ·simp only [Act.put, List.setIfInBounds_toArray, List.set_cons_zero, List.set_cons_succ, i64_w, i32_w]; rfl
 refine take_ (i := 7) (N := some 22) (v := ?_) (a' := ?_) #[true, true, true, true, false, true, true, true, false, false, false, false] rfl rfl (take_ofW HT_.out HW_.out (by kernel_rfl)) (fun _ _ _ h => h) (Or.inl ⟨by rfl, ?_⟩) hHeld ?_ ?_
 rotate_left
 ·rintro w' ⟨s0, s1⟩; go_simp; with_reducible rfl
 rotate_left
 ·simp only [Act.put, List.setIfInBounds_toArray, List.set_cons_zero, List.set_cons_succ, i64_w, i32_w]; rfl
 refine pure_ (i := 8) (N := some 23) (v := ?_) (a' := ?_) #[true, true, true, true, false, true, true, true, true, false, false, false] rfl rfl (any_of HT_.out (by kernel_rfl)) (fun _ _ _ h => h) (Or.inl ⟨by rfl, ?_⟩) ?_ ?_
 rotate_left
 ·intro w'; go_simp; with_reducible rfl
 rotate_left
 ·simp only [Act.put, List.setIfInBounds_toArray, List.set_cons_zero, List.set_cons_succ, i64_w, i32_w]; rfl
 refine one_ (i := 4) (N := some 19) #[true, true, true, true, true, true, true, true, true, false, false, false] rfl rfl (one_of HT_.out (by kernel_rfl)) (by decide) (fun K hK => ?_)
 refine goes_ Try.func113 (by kernel_rfl) rfl #[.pointer (some ⟨g, 0, none⟩), .agg #[.int .i64 c, .int .i64 0, .int .i64 0, .int .u64 0, .int .u64 0]] (by rfl) rfl rfl (by (try simp only [List.map_toArray, List.map_cons, List.map_nil]); first | done | rfl) ?_
 refine (circuit_board_wire.calls (cl c) HS.out (by omega)).mono ?_
 rintro e w' ⟨rfl, hb⟩; replace HS := Aside0.mk hb; clear hb; refine ⟨_, rfl, ?_⟩
 refine hK.out _ _ ⟨(blk_cell (HS.out.kept gg _ 105 BKgg.out (by decide) (by decide) (by decide) NGg.out) 3).trans rfl, (blk_cell (HS.out.kept gg _ 105 BKgg.out (by decide) (by decide) (by decide) NGg.out) 4).trans rfl⟩ (fun hHeld => ?_)
 clear hK K
 refine norm_ (a' := ?_) ?_ ?_
 rotate_left
 ·show Act.put _ (some 19) _ = _; simp only [Act.put, List.setIfInBounds_toArray, List.set_cons_zero, List.set_cons_succ, i64_w, i32_w]; rfl
 refine one_ (i := 9) (N := some 24) #[true, true, true, true, true, true, true, true, true, true, false, false] rfl rfl (one_of HT_.out (by kernel_rfl)) (by decide) (fun K hK => ?_)
 refine goes_ Try.func113 (by kernel_rfl) rfl #[.pointer (some ⟨g, 0, none⟩), .agg #[.int .i64 s, .int .i64 0, .int .i64 0, .int .u64 0, .int .u64 0]] (by rfl) rfl rfl (by (try simp only [List.map_toArray, List.map_cons, List.map_nil]); first | done | rfl) ?_
 refine (circuit_board_wire.calls (cl s) HS.out (by omega)).mono ?_
 rintro e w' ⟨rfl, hb⟩; replace HS := Aside0.mk hb; clear hb; refine ⟨_, rfl, ?_⟩
 refine hK.out _ _ ⟨(blk_cell (HS.out.kept gg _ 105 BKgg.out (by decide) (by decide) (by decide) NGg.out) 3).trans rfl, (blk_cell (HS.out.kept gg _ 105 BKgg.out (by decide) (by decide) (by decide) NGg.out) 4).trans rfl⟩ (fun hHeld => ?_)
 clear hK K
 refine norm_ (a' := ?_) ?_ ?_
 rotate_left
 ·show Act.put _ (some 24) _ = _; simp only [Act.put, List.setIfInBounds_toArray, List.set_cons_zero, List.set_cons_succ, i64_w, i32_w]; rfl
 refine pure_ (i := 10) (N := some 10) (v := ?_) (a' := ?_) #[true, true, true, true, true, true, true, true, true, true, true, false] rfl rfl (any_of HT_.out (by kernel_rfl)) (fun _ _ _ h => h) (Or.inl ⟨by rfl, ?_⟩) ?_ ?_
 rotate_left
 ·intro w'; go_simp; with_reducible rfl
 rotate_left
 ·simp only [Act.put, List.setIfInBounds_toArray, List.set_cons_zero, List.set_cons_succ, i64_w, i32_w]; rfl
 refine pure_ (i := 11) (N := some 11) (v := ?_) (a' := ?_) #[true, true, true, true, true, true, true, true, true, true, true, true] rfl rfl (any_of HT_.out (by kernel_rfl)) (fun _ _ _ h => h) (Or.inl ⟨by rfl, ?_⟩) ?_ ?_
 rotate_left
 ·intro w'; go_simp; with_reducible rfl
 rotate_left
 ·simp only [Act.put, List.setIfInBounds_toArray, List.set_cons_zero, List.set_cons_succ, i64_w, i32_w]; rfl
 refine done_ (done_of HT_.out (by kernel_rfl)) ?_
 clear HT_ HW_ hHeld
 have BKg_ := HS.out.kept gg _ 105 BKgg.out (by decide) (by decide) (by decide) NGg.out; have BKs_ := HS.out.kept gs _ 24 BKgs.out (by decide) (by decide) (by decide) NGs.out; have hcg0 := (blk_cell BKg_ 0).trans rfl; have hcg1 := (blk_cell BKg_ 1).trans rfl; have hcg2 := (blk_cell BKg_ 2).trans rfl; have hcg3 := (blk_cell BKg_ 3).trans rfl; have hcg4 := (blk_cell BKg_ 4).trans rfl; have hcs0 := (blk_cell BKs_ 0).trans rfl; clear BKg_ BKs_
 go_wp2_with (first | (go_at_call 113; (with_reducible refine (circuit_board_wire.calls (clk s 1 1) HS.out (by omega)).mono ?_); rintro e w' ⟨rfl, hb⟩; replace HS := Aside0.mk hb; clear hb; have BKg_ := HS.out.kept gg _ 105 BKgg.out (by decide) (by decide) (by decide) NGg.out; have BKs_ := HS.out.kept gs _ 24 BKgs.out (by decide) (by decide) (by decide) NGs.out; have hcg0 := (blk_cell BKg_ 0).trans rfl; have hcg1 := (blk_cell BKg_ 1).trans rfl; have hcg2 := (blk_cell BKg_ 2).trans rfl; have hcg3 := (blk_cell BKg_ 3).trans rfl; have hcg4 := (blk_cell BKg_ 4).trans rfl; have hcs0 := (blk_cell BKs_ 0).trans rfl; clear BKg_ BKs_) | (go_at_call 115; refine (circuit_board_v.calls _ HS.out (by omega)).mono ?_; rintro e w' ⟨rfl, hb⟩; replace HS := Aside0.mk hb; clear hb; have BKg_ := HS.out.kept gg _ 105 BKgg.out (by decide) (by decide) (by decide) NGg.out; have BKs_ := HS.out.kept gs _ 24 BKgs.out (by decide) (by decide) (by decide) NGs.out; have hcg0 := (blk_cell BKg_ 0).trans rfl; have hcg1 := (blk_cell BKg_ 1).trans rfl; have hcg2 := (blk_cell BKg_ 2).trans rfl; have hcg3 := (blk_cell BKg_ 3).trans rfl; have hcg4 := (blk_cell BKg_ 4).trans rfl; have hcs0 := (blk_cell BKs_ 0).trans rfl; clear BKg_ BKs_) | (go_at_call 114; refine (circuit_board_sum.calls _ _ HS.out (by omega)).mono ?_; rintro e w' ⟨rfl, hb⟩; replace HS := Aside0.mk hb; clear hb; have BKg_ := HS.out.kept gg _ 105 BKgg.out (by decide) (by decide) (by decide) NGg.out; have BKs_ := HS.out.kept gs _ 24 BKgs.out (by decide) (by decide) (by decide) NGs.out; have hcg0 := (blk_cell BKg_ 0).trans rfl; have hcg1 := (blk_cell BKg_ 1).trans rfl; have hcg2 := (blk_cell BKg_ 2).trans rfl; have hcg3 := (blk_cell BKg_ 3).trans rfl; have hcg4 := (blk_cell BKg_ 4).trans rfl; have hcs0 := (blk_cell BKs_ 0).trans rfl; clear BKg_ BKs_) | (go_at_call 119; refine (circuit_board_prod.calls _ _ HS.out (by omega)).mono ?_; rintro e w' ⟨rfl, hb⟩; replace HS := Aside0.mk hb; clear hb; have BKg_ := HS.out.kept gg _ 105 BKgg.out (by decide) (by decide) (by decide) NGg.out; have BKs_ := HS.out.kept gs _ 24 BKgs.out (by decide) (by decide) (by decide) NGs.out; have hcg0 := (blk_cell BKg_ 0).trans rfl; have hcg1 := (blk_cell BKg_ 1).trans rfl; have hcg2 := (blk_cell BKg_ 2).trans rfl; have hcg3 := (blk_cell BKg_ 3).trans rfl; have hcg4 := (blk_cell BKg_ 4).trans rfl; have hcs0 := (blk_cell BKs_ 0).trans rfl; clear BKg_ BKs_) | (go_at_call 116; refine (circuit_board_done.calls  HS.out (by omega)).mono ?_; rintro e w' ⟨rfl, hb⟩; replace HS := Aside0.mk hb; clear hb; have BKg_ := HS.out.kept gg _ 105 BKgg.out (by decide) (by decide) (by decide) NGg.out; have BKs_ := HS.out.kept gs _ 24 BKgs.out (by decide) (by decide) (by decide) NGs.out; have hcg0 := (blk_cell BKg_ 0).trans rfl; have hcg1 := (blk_cell BKg_ 1).trans rfl; have hcg2 := (blk_cell BKg_ 2).trans rfl; have hcg3 := (blk_cell BKg_ 3).trans rfl; have hcg4 := (blk_cell BKg_ 4).trans rfl; have hcs0 := (blk_cell BKs_ 0).trans rfl; clear BKg_ BKs_))
 (first | go_end0 | ((try simp only [Exit.inBlock, Exit.then]); refine bodyPost_ret (results_none rfl _ _ _) rfl ?_))
 exact ⟨rfl, BrdS.back H0.out HBgs.out HBgg.out HS.out (by omega)⟩
set_option maxHeartbeats 4000000 in
set_option maxRecDepth 100000 in
theorem add1.calls (s0 s1 s2 s3 s4 : Int) (As : Option Addr) (ns cs : Nat) (d a c s x y : Int) {base n : Nat} {w0 w : World} {g : Nat} {b : Bd} (H : BrdS base w0 w g b n) (hn : n < 90000) (hw : (s0 == 0) = false) :
  Calls Try.prog 120 #[.pointer (some ⟨g, 0, none⟩), .agg #[.int .i64 s0, .int .i64 s1, .int .i64 s2, .int .i64 s3, .int .i64 s4, .slice As ns cs], .agg #[.int .i64 7, .int .i64 d, .int .i64 a, .int .i64 c, .int .i64 s], .int .i64 x, .int .i64 y] w fun e w' => e = .returned (.tuple #[]) ∧ BrdS base w0 w' g (add1 b c s x y) (n + 50) := by
 have H0 := Aside0.mk H; clear H
 have hu24 := Try.underlying24; have hu105 := Try.underlying105; have hu76 := Try.underlying76; have hu74 := Try.underlying74; have hu118 := Try.underlying118
 go_enter Try.func120, Try.ntmps120
 go_wp2_with (first | ((with_reducible refine gate_dst (N := 6) rfl ?_); refine box_event rfl (N := 6) rfl (cs := #[.int .i64 s0, .int .i64 s1, .int .i64 s2, .int .i64 s3, .int .i64 s4, .slice As ns cs]) (t := 24) (by first | (go_simp; done) | (go_simp; rfl)) ?_; intro gs hgs wgs hbox hb; have BKgs := Aside0.mk hbox; have HBgs := Aside0.mk hb; clear hbox hb hgs; have hcs0 := (blk_cell BKgs.out 0).trans rfl) | ((with_reducible refine gate_dst (N := 7) rfl ?_); refine box_event rfl (N := 7) rfl (cs := #[.int .i64 7, .int .i64 d, .int .i64 a, .int .i64 c, .int .i64 s]) (t := 105) (by first | (go_simp; done) | (go_simp; rfl)) ?_; intro gg hgg wgg hbox hb; have BKgg := Aside0.mk hbox; have HBgg := Aside0.mk hb; clear hbox hb hgg; replace BKgs := Aside0.mk (blk_below BKgs.out HBgg.out); have HS := Aside0.mk (⟨(H0.out.brd.below HBgs.out).below HBgg.out, Below.refl _ _, H0.out.small, TK.refl _ _⟩ : BrdS base wgg wgg g b n); have NGg := Aside0.mk (HS.out.ne BKgg.out (by decide)); have NGs := Aside0.mk (HS.out.ne BKgs.out (by decide)); have hcg0 := (blk_cell BKgg.out 0).trans rfl; have hcg1 := (blk_cell BKgg.out 1).trans rfl; have hcg2 := (blk_cell BKgg.out 2).trans rfl; have hcg3 := (blk_cell BKgg.out 3).trans rfl; have hcg4 := (blk_cell BKgg.out 4).trans rfl; have hcs0 := (blk_cell BKgs.out 0).trans rfl))
 clear hcs0 hcg0 hcg1 hcg2 hcg3 hcg4
 refine start_ (n := 12) (S := fun w' => w'.cell? ⟨gg, 3, none⟩ = some (.int .i64 c) ∧ w'.cell? ⟨gg, 4, none⟩ = some (.int .i64 s)) (ds := []) #[false, false, false, false, false, false, false, false, false, false, false, false] (by kernel_rfl) rfl rfl ⟨(blk_cell (blk_drew (HS.out.kept gg _ 105 BKgg.out (by decide) (by decide) (by decide) NGg.out)) 3).trans rfl, (blk_cell (blk_drew (HS.out.kept gg _ 105 BKgg.out (by decide) (by decide) (by decide) NGg.out)) 4).trans rfl⟩ (fun hHeld => ?_)
 refine with_tabW circuit_board_add.tab1 circuit_board_add.bits1 (fun HT_ HW_ => ?_)
 replace HS := Aside0.mk (HS.out.step (below_drew (Below.refl _ _)))
 generalize wgg.drew = wd at HS hHeld ⊢
 refine pure_ (i := 0) (N := some 15) (v := ?_) (a' := ?_) #[true, false, false, false, false, false, false, false, false, false, false, false] rfl rfl (any_of HT_.out (by kernel_rfl)) (fun _ _ _ h => h) (Or.inl ⟨by rfl, ?_⟩) ?_ ?_
 rotate_left
 ·intro w'; go_simp; with_reducible rfl
 rotate_left
 ·simp only [Act.put, List.setIfInBounds_toArray, List.set_cons_zero, List.set_cons_succ, i64_w, i32_w]; rfl
 refine pure_ (i := 1) (N := some 16) (v := ?_) (a' := ?_) #[true, true, false, false, false, false, false, false, false, false, false, false] rfl rfl (any_of HT_.out (by kernel_rfl)) (fun _ _ _ h => h) (Or.inl ⟨by rfl, ?_⟩) ?_ ?_
 rotate_left
 ·intro w'; go_simp; with_reducible rfl
 rotate_left
 ·simp only [Act.put, List.setIfInBounds_toArray, List.set_cons_zero, List.set_cons_succ, i64_w, i32_w]; rfl
 refine take_ (i := 2) (N := some 17) (v := ?_) (a' := ?_) #[true, true, true, false, false, false, false, false, false, false, false, false] rfl rfl (take_ofW HT_.out HW_.out (by kernel_rfl)) (fun _ _ _ h => h) (Or.inl ⟨by rfl, ?_⟩) hHeld ?_ ?_
 rotate_left
 ·rintro w' ⟨s0, s1⟩; go_simp; with_reducible rfl
 rotate_left
 ·simp only [Act.put, List.setIfInBounds_toArray, List.set_cons_zero, List.set_cons_succ, i64_w, i32_w]; rfl
 refine pure_ (i := 3) (N := some 18) (v := ?_) (a' := ?_) #[true, true, true, true, false, false, false, false, false, false, false, false] rfl rfl (any_of HT_.out (by kernel_rfl)) (fun _ _ _ h => h) (Or.inl ⟨by rfl, ?_⟩) ?_ ?_
 rotate_left
 ·intro w'; go_simp; with_reducible rfl
 rotate_left
 ·simp only [Act.put, List.setIfInBounds_toArray, List.set_cons_zero, List.set_cons_succ, i64_w, i32_w]; rfl
 refine pure_ (i := 5) (N := some 20) (v := ?_) (a' := ?_) #[true, true, true, true, false, true, false, false, false, false, false, false] rfl rfl (any_of HT_.out (by kernel_rfl)) (fun _ _ _ h => h) (Or.inl ⟨by rfl, ?_⟩) ?_ ?_
 rotate_left
 ·intro w'; go_simp; with_reducible rfl
 rotate_left
 ·simp only [Act.put, List.setIfInBounds_toArray, List.set_cons_zero, List.set_cons_succ, i64_w, i32_w]; rfl
 refine pure_ (i := 6) (N := some 21) (v := ?_) (a' := ?_) #[true, true, true, true, false, true, true, false, false, false, false, false] rfl rfl (any_of HT_.out (by kernel_rfl)) (fun _ _ _ h => h) (Or.inl ⟨by rfl, ?_⟩) ?_ ?_
 rotate_left
 ·intro w'; go_simp; with_reducible rfl
 rotate_left
 ·simp only [Act.put, List.setIfInBounds_toArray, List.set_cons_zero, List.set_cons_succ, i64_w, i32_w]; rfl
 refine take_ (i := 7) (N := some 22) (v := ?_) (a' := ?_) #[true, true, true, true, false, true, true, true, false, false, false, false] rfl rfl (take_ofW HT_.out HW_.out (by kernel_rfl)) (fun _ _ _ h => h) (Or.inl ⟨by rfl, ?_⟩) hHeld ?_ ?_
 rotate_left
 ·rintro w' ⟨s0, s1⟩; go_simp; with_reducible rfl
 rotate_left
 ·simp only [Act.put, List.setIfInBounds_toArray, List.set_cons_zero, List.set_cons_succ, i64_w, i32_w]; rfl
 refine pure_ (i := 8) (N := some 23) (v := ?_) (a' := ?_) #[true, true, true, true, false, true, true, true, true, false, false, false] rfl rfl (any_of HT_.out (by kernel_rfl)) (fun _ _ _ h => h) (Or.inl ⟨by rfl, ?_⟩) ?_ ?_
 rotate_left
 ·intro w'; go_simp; with_reducible rfl
 rotate_left
 ·simp only [Act.put, List.setIfInBounds_toArray, List.set_cons_zero, List.set_cons_succ, i64_w, i32_w]; rfl
 refine one_ (i := 4) (N := some 19) #[true, true, true, true, true, true, true, true, true, false, false, false] rfl rfl (one_of HT_.out (by kernel_rfl)) (by decide) (fun K hK => ?_)
 refine goes_ Try.func113 (by kernel_rfl) rfl #[.pointer (some ⟨g, 0, none⟩), .agg #[.int .i64 c, .int .i64 0, .int .i64 0, .int .u64 0, .int .u64 0]] (by rfl) rfl rfl (by (try simp only [List.map_toArray, List.map_cons, List.map_nil]); first | done | rfl) ?_
 refine (circuit_board_wire.calls (cl c) HS.out (by omega)).mono ?_
 rintro e w' ⟨rfl, hb⟩; replace HS := Aside0.mk hb; clear hb; refine ⟨_, rfl, ?_⟩
 refine hK.out _ _ ⟨(blk_cell (HS.out.kept gg _ 105 BKgg.out (by decide) (by decide) (by decide) NGg.out) 3).trans rfl, (blk_cell (HS.out.kept gg _ 105 BKgg.out (by decide) (by decide) (by decide) NGg.out) 4).trans rfl⟩ (fun hHeld => ?_)
 clear hK K
 refine norm_ (a' := ?_) ?_ ?_
 rotate_left
 ·show Act.put _ (some 19) _ = _; simp only [Act.put, List.setIfInBounds_toArray, List.set_cons_zero, List.set_cons_succ, i64_w, i32_w]; rfl
 refine one_ (i := 9) (N := some 24) #[true, true, true, true, true, true, true, true, true, true, false, false] rfl rfl (one_of HT_.out (by kernel_rfl)) (by decide) (fun K hK => ?_)
 refine goes_ Try.func113 (by kernel_rfl) rfl #[.pointer (some ⟨g, 0, none⟩), .agg #[.int .i64 s, .int .i64 0, .int .i64 0, .int .u64 0, .int .u64 0]] (by rfl) rfl rfl (by (try simp only [List.map_toArray, List.map_cons, List.map_nil]); first | done | rfl) ?_
 refine (circuit_board_wire.calls (cl s) HS.out (by omega)).mono ?_
 rintro e w' ⟨rfl, hb⟩; replace HS := Aside0.mk hb; clear hb; refine ⟨_, rfl, ?_⟩
 refine hK.out _ _ ⟨(blk_cell (HS.out.kept gg _ 105 BKgg.out (by decide) (by decide) (by decide) NGg.out) 3).trans rfl, (blk_cell (HS.out.kept gg _ 105 BKgg.out (by decide) (by decide) (by decide) NGg.out) 4).trans rfl⟩ (fun hHeld => ?_)
 clear hK K
 refine norm_ (a' := ?_) ?_ ?_
 rotate_left
 ·show Act.put _ (some 24) _ = _; simp only [Act.put, List.setIfInBounds_toArray, List.set_cons_zero, List.set_cons_succ, i64_w, i32_w]; rfl
 refine pure_ (i := 10) (N := some 10) (v := ?_) (a' := ?_) #[true, true, true, true, true, true, true, true, true, true, true, false] rfl rfl (any_of HT_.out (by kernel_rfl)) (fun _ _ _ h => h) (Or.inl ⟨by rfl, ?_⟩) ?_ ?_
 rotate_left
 ·intro w'; go_simp; with_reducible rfl
 rotate_left
 ·simp only [Act.put, List.setIfInBounds_toArray, List.set_cons_zero, List.set_cons_succ, i64_w, i32_w]; rfl
 refine pure_ (i := 11) (N := some 11) (v := ?_) (a' := ?_) #[true, true, true, true, true, true, true, true, true, true, true, true] rfl rfl (any_of HT_.out (by kernel_rfl)) (fun _ _ _ h => h) (Or.inl ⟨by rfl, ?_⟩) ?_ ?_
 rotate_left
 ·intro w'; go_simp; with_reducible rfl
 rotate_left
 ·simp only [Act.put, List.setIfInBounds_toArray, List.set_cons_zero, List.set_cons_succ, i64_w, i32_w]; rfl
 refine done_ (done_of HT_.out (by kernel_rfl)) ?_
 clear HT_ HW_ hHeld
 have BKg_ := HS.out.kept gg _ 105 BKgg.out (by decide) (by decide) (by decide) NGg.out; have BKs_ := HS.out.kept gs _ 24 BKgs.out (by decide) (by decide) (by decide) NGs.out; have hcg0 := (blk_cell BKg_ 0).trans rfl; have hcg1 := (blk_cell BKg_ 1).trans rfl; have hcg2 := (blk_cell BKg_ 2).trans rfl; have hcg3 := (blk_cell BKg_ 3).trans rfl; have hcg4 := (blk_cell BKg_ 4).trans rfl; have hcs0 := (blk_cell BKs_ 0).trans rfl; clear BKg_ BKs_
 go_wp2_with (first | (go_at_call 113; (with_reducible refine (circuit_board_wire.calls (clk s 1 1) HS.out (by omega)).mono ?_); rintro e w' ⟨rfl, hb⟩; replace HS := Aside0.mk hb; clear hb; have BKg_ := HS.out.kept gg _ 105 BKgg.out (by decide) (by decide) (by decide) NGg.out; have BKs_ := HS.out.kept gs _ 24 BKgs.out (by decide) (by decide) (by decide) NGs.out; have hcg0 := (blk_cell BKg_ 0).trans rfl; have hcg1 := (blk_cell BKg_ 1).trans rfl; have hcg2 := (blk_cell BKg_ 2).trans rfl; have hcg3 := (blk_cell BKg_ 3).trans rfl; have hcg4 := (blk_cell BKg_ 4).trans rfl; have hcs0 := (blk_cell BKs_ 0).trans rfl; clear BKg_ BKs_) | (go_at_call 115; refine (circuit_board_v.calls _ HS.out (by omega)).mono ?_; rintro e w' ⟨rfl, hb⟩; replace HS := Aside0.mk hb; clear hb; have BKg_ := HS.out.kept gg _ 105 BKgg.out (by decide) (by decide) (by decide) NGg.out; have BKs_ := HS.out.kept gs _ 24 BKgs.out (by decide) (by decide) (by decide) NGs.out; have hcg0 := (blk_cell BKg_ 0).trans rfl; have hcg1 := (blk_cell BKg_ 1).trans rfl; have hcg2 := (blk_cell BKg_ 2).trans rfl; have hcg3 := (blk_cell BKg_ 3).trans rfl; have hcg4 := (blk_cell BKg_ 4).trans rfl; have hcs0 := (blk_cell BKs_ 0).trans rfl; clear BKg_ BKs_) | (go_at_call 114; refine (circuit_board_sum.calls _ _ HS.out (by omega)).mono ?_; rintro e w' ⟨rfl, hb⟩; replace HS := Aside0.mk hb; clear hb; have BKg_ := HS.out.kept gg _ 105 BKgg.out (by decide) (by decide) (by decide) NGg.out; have BKs_ := HS.out.kept gs _ 24 BKgs.out (by decide) (by decide) (by decide) NGs.out; have hcg0 := (blk_cell BKg_ 0).trans rfl; have hcg1 := (blk_cell BKg_ 1).trans rfl; have hcg2 := (blk_cell BKg_ 2).trans rfl; have hcg3 := (blk_cell BKg_ 3).trans rfl; have hcg4 := (blk_cell BKg_ 4).trans rfl; have hcs0 := (blk_cell BKs_ 0).trans rfl; clear BKg_ BKs_) | (go_at_call 119; refine (circuit_board_prod.calls _ _ HS.out (by omega)).mono ?_; rintro e w' ⟨rfl, hb⟩; replace HS := Aside0.mk hb; clear hb; have BKg_ := HS.out.kept gg _ 105 BKgg.out (by decide) (by decide) (by decide) NGg.out; have BKs_ := HS.out.kept gs _ 24 BKgs.out (by decide) (by decide) (by decide) NGs.out; have hcg0 := (blk_cell BKg_ 0).trans rfl; have hcg1 := (blk_cell BKg_ 1).trans rfl; have hcg2 := (blk_cell BKg_ 2).trans rfl; have hcg3 := (blk_cell BKg_ 3).trans rfl; have hcg4 := (blk_cell BKg_ 4).trans rfl; have hcs0 := (blk_cell BKs_ 0).trans rfl; clear BKg_ BKs_) | (go_at_call 116; refine (circuit_board_done.calls  HS.out (by omega)).mono ?_; rintro e w' ⟨rfl, hb⟩; replace HS := Aside0.mk hb; clear hb; have BKg_ := HS.out.kept gg _ 105 BKgg.out (by decide) (by decide) (by decide) NGg.out; have BKs_ := HS.out.kept gs _ 24 BKgs.out (by decide) (by decide) (by decide) NGs.out; have hcg0 := (blk_cell BKg_ 0).trans rfl; have hcg1 := (blk_cell BKg_ 1).trans rfl; have hcg2 := (blk_cell BKg_ 2).trans rfl; have hcg3 := (blk_cell BKg_ 3).trans rfl; have hcg4 := (blk_cell BKg_ 4).trans rfl; have hcs0 := (blk_cell BKs_ 0).trans rfl; clear BKg_ BKs_))
 (first | go_end0 | ((try simp only [Exit.inBlock, Exit.then]); refine bodyPost_ret (results_none rfl _ _ _) rfl ?_))
 exact ⟨rfl, BrdS.back H0.out HBgs.out HBgg.out HS.out (by omega)⟩


end Go.Proofs.Ythiiodgpdoljoaa.PLc
