import Derived.Test.YthiiodgpdoljoaaKl1
import Derived.Test.YthiiodgpdoljoaaKl0
import Derived.Test.YthiiodgpdoljoaaKl2
-- Words and walks that the kit's print has laid for this seat, cut down, and our own texts, merged.
namespace Go.Proofs.Ythiiodgpdoljoaa.PLc
open Go.RowKit Go.Proofs.YthiiodgpdoljoaaW.PrintWords Go.Proofs.YthiiodgpdoljoaaW.PrintLast Go.Proofs.YthiiodgpdoljoaaW.PrintMore
attribute [local go_sem] max2_int min2_int max_two min_two max_three min_three max_four min_four   -- for this text's walks alone
set_option linter.unusedVariables false
set_option linter.unusedSimpArgs false
/-! ### circuit_board_gate: function 88 -/
def circuit_board_gate.T2 : Bool × List (List Nat × List Nat) := (true, [([], []), ([], []), ([1], [1]), ([2], [2]), ([0, 3], [0, 3]), ([], []), ([], []), ([6], [6]), ([7], [7]), ([5, 8, 4], [5, 8]), ([4, 9, 0, 1, 2, 3, 4], [4]), ([9, 10, 0, 1, 2, 3, 4, 5, 6, 7, 8, 9, 10], [9])])
def circuit_board_gate.B2 : List Nat := [0, 0, 2, 6, 15, 0, 0, 64, 192, 511, 1023, 2047]
theorem circuit_board_gate.tab2 : rtab .any (opsOf Try.f88 2) = circuit_board_gate.T2 := by kernel_rfl
theorem circuit_board_gate.bits2 : waitsOk circuit_board_gate.T2.2 circuit_board_gate.B2 = true := by kernel_rfl
set_option maxHeartbeats 4000000 in
set_option maxRecDepth 100000 in
theorem gate8.calls (s0 s1 s2 s3 s4 : Int) (As : Option Addr) (ns cs : Nat) (d a c s : Int) {base n : Nat} {w0 w : World} {g : Nat} {b : Bd} (H : BrdS base w0 w g b n) (hn : n < 90000) :
  Calls Try.prog 88 #[.pointer (some ⟨g, 0, none⟩), .agg #[.int .i64 s0, .int .i64 s1, .int .i64 s2, .int .i64 s3, .int .i64 s4, .slice As ns cs], .agg #[.int .i64 8, .int .i64 d, .int .i64 a, .int .i64 c, .int .i64 s]] w fun e w' => e = .returned (.tuple #[]) ∧ BrdS base w0 w' g (gate8 b d a c s) (n + 50) := by
 have H0 := Aside0.mk H; clear H
 have hu24 := Try.underlying24; have hu105 := Try.underlying105; have hu76 := Try.underlying76; have hu74 := Try.underlying74; have hu118 := Try.underlying118
 go_enter Try.func88, Try.ntmps88
 go_wp2_with (first | ((with_reducible refine gate_dst (N := 4) rfl ?_); refine box_event rfl (N := 4) rfl (cs := #[.int .i64 s0, .int .i64 s1, .int .i64 s2, .int .i64 s3, .int .i64 s4, .slice As ns cs]) (t := 24) (by first | (go_simp; done) | (go_simp; rfl)) ?_; intro gs hgs wgs hbox hb; have BKgs := Aside0.mk hbox; have HBgs := Aside0.mk hb; clear hbox hb hgs; have hcs0 := (blk_cell BKgs.out 0).trans rfl) | ((with_reducible refine gate_dst (N := 5) rfl ?_); refine box_event rfl (N := 5) rfl (cs := #[.int .i64 8, .int .i64 d, .int .i64 a, .int .i64 c, .int .i64 s]) (t := 105) (by first | (go_simp; done) | (go_simp; rfl)) ?_; intro gg hgg wgg hbox hb; have BKgg := Aside0.mk hbox; have HBgg := Aside0.mk hb; clear hbox hb hgg; replace BKgs := Aside0.mk (blk_below BKgs.out HBgg.out); have HS := Aside0.mk (⟨(H0.out.brd.below HBgs.out).below HBgg.out, Below.refl _ _, H0.out.small, TK.refl _ _⟩ : BrdS base wgg wgg g b n); have NGg := Aside0.mk (HS.out.ne BKgg.out (by decide)); have NGs := Aside0.mk (HS.out.ne BKgs.out (by decide)); have hcg0 := (blk_cell BKgg.out 0).trans rfl; have hcg1 := (blk_cell BKgg.out 1).trans rfl; have hcg2 := (blk_cell BKgg.out 2).trans rfl; have hcg3 := (blk_cell BKgg.out 3).trans rfl; have hcg4 := (blk_cell BKgg.out 4).trans rfl; have hcs0 := (blk_cell BKgs.out 0).trans rfl))
 clear hcs0 hcg0 hcg1 hcg2 hcg3 hcg4
 refine start_ (n := 12) (S := fun w' => w'.cell? ⟨gg, 2, none⟩ = some (.int .i64 a) ∧ w'.cell? ⟨gg, 3, none⟩ = some (.int .i64 c)) (ds := []) #[false, false, false, false, false, false, false, false, false, false, false, false] (by kernel_rfl) rfl rfl ⟨(blk_cell (blk_drew (HS.out.kept gg _ 105 BKgg.out (by decide) (by decide) (by decide) NGg.out)) 2).trans rfl, (blk_cell (blk_drew (HS.out.kept gg _ 105 BKgg.out (by decide) (by decide) (by decide) NGg.out)) 3).trans rfl⟩ (fun hHeld => ?_)
 refine with_tabW circuit_board_gate.tab2 circuit_board_gate.bits2 (fun HT_ HW_ => ?_)
 replace HS := Aside0.mk (HS.out.step (below_drew (Below.refl _ _)))
 generalize wgg.drew = wd at HS hHeld ⊢
 refine pureA 0 (some 17) HT_.out ?_
 refine pureA 1 (some 18) HT_.out ?_
 refine takeA 2 (some 19) rfl HT_.out HW_.out hHeld (Or.inl ⟨by rfl, by rintro w' ⟨s0, s1⟩; go_simp; with_reducible rfl⟩) ?_
 refine pureA 3 (some 20) HT_.out ?_
 refine pureA 5 (some 22) HT_.out ?_
 refine pureA 6 (some 23) HT_.out ?_
 refine takeA 7 (some 24) rfl HT_.out HW_.out hHeld (Or.inl ⟨by rfl, by rintro w' ⟨s0, s1⟩; go_simp; with_reducible rfl⟩) ?_
 refine pureA 8 (some 25) HT_.out ?_
 refine one_ (i := 4) (N := some 21) #[true, true, true, true, true, true, true, true, true, false, false, false] rfl rfl (one_of HT_.out (by kernel_rfl)) (by decide) (fun K hK => ?_)
 refine goes_ Try.func113 (by kernel_rfl) rfl #[.pointer (some ⟨g, 0, none⟩), .agg #[.int .i64 a, .int .i64 0, .int .i64 0, .int .u64 0, .int .u64 0]] (by rfl) rfl rfl (by (try simp only [List.map_toArray, List.map_cons, List.map_nil]); first | done | rfl) ?_
 refine (circuit_board_wire.calls (cl a) HS.out (by omega)).mono ?_
 rintro e w' ⟨rfl, hb⟩; replace HS := Aside0.mk hb; clear hb; refine ⟨_, rfl, ?_⟩
 refine hK.out _ _ ⟨(blk_cell (HS.out.kept gg _ 105 BKgg.out (by decide) (by decide) (by decide) NGg.out) 2).trans rfl, (blk_cell (HS.out.kept gg _ 105 BKgg.out (by decide) (by decide) (by decide) NGg.out) 3).trans rfl⟩ (fun hHeld => ?_)
 clear hK K
 refine normA ?_
 refine one_ (i := 9) (N := some 26) #[true, true, true, true, true, true, true, true, true, true, false, false] rfl rfl (one_of HT_.out (by kernel_rfl)) (by decide) (fun K hK => ?_)
 refine goes_ Try.func113 (by kernel_rfl) rfl #[.pointer (some ⟨g, 0, none⟩), .agg #[.int .i64 c, .int .i64 0, .int .i64 0, .int .u64 0, .int .u64 0]] (by rfl) rfl rfl (by (try simp only [List.map_toArray, List.map_cons, List.map_nil]); first | done | rfl) ?_
 refine (circuit_board_wire.calls (cl c) HS.out (by omega)).mono ?_
 rintro e w' ⟨rfl, hb⟩; replace HS := Aside0.mk hb; clear hb; refine ⟨_, rfl, ?_⟩
 refine hK.out _ _ ⟨(blk_cell (HS.out.kept gg _ 105 BKgg.out (by decide) (by decide) (by decide) NGg.out) 2).trans rfl, (blk_cell (HS.out.kept gg _ 105 BKgg.out (by decide) (by decide) (by decide) NGg.out) 3).trans rfl⟩ (fun hHeld => ?_)
 clear hK K
 refine normA ?_
 refine pureA 10 (some 6) HT_.out ?_
 refine pureA 11 (some 7) HT_.out ?_
 refine done_ (done_of HT_.out (by kernel_rfl)) ?_
 clear HT_ HW_ hHeld
 have BKg_ := HS.out.kept gg _ 105 BKgg.out (by decide) (by decide) (by decide) NGg.out; have BKs_ := HS.out.kept gs _ 24 BKgs.out (by decide) (by decide) (by decide) NGs.out; have hcg0 := (blk_cell BKg_ 0).trans rfl; have hcg1 := (blk_cell BKg_ 1).trans rfl; have hcg2 := (blk_cell BKg_ 2).trans rfl; have hcg3 := (blk_cell BKg_ 3).trans rfl; have hcg4 := (blk_cell BKg_ 4).trans rfl; have hcs0 := (blk_cell BKs_ 0).trans rfl; clear BKg_ BKs_
 go_wp2_with (first | (go_at_call 115; refine (circuit_board_v.calls _ HS.out (by omega)).mono ?_; rintro e w' ⟨rfl, hb⟩; replace HS := Aside0.mk hb; clear hb; have BKg_ := HS.out.kept gg _ 105 BKgg.out (by decide) (by decide) (by decide) NGg.out; have BKs_ := HS.out.kept gs _ 24 BKgs.out (by decide) (by decide) (by decide) NGs.out; have hcg0 := (blk_cell BKg_ 0).trans rfl; have hcg1 := (blk_cell BKg_ 1).trans rfl; have hcg2 := (blk_cell BKg_ 2).trans rfl; have hcg3 := (blk_cell BKg_ 3).trans rfl; have hcg4 := (blk_cell BKg_ 4).trans rfl; have hcs0 := (blk_cell BKs_ 0).trans rfl; clear BKg_ BKs_) | (go_at_call 114; refine (circuit_board_sum.calls _ _ HS.out (by omega)).mono ?_; rintro e w' ⟨rfl, hb⟩; replace HS := Aside0.mk hb; clear hb; have BKg_ := HS.out.kept gg _ 105 BKgg.out (by decide) (by decide) (by decide) NGg.out; have BKs_ := HS.out.kept gs _ 24 BKgs.out (by decide) (by decide) (by decide) NGs.out; have hcg0 := (blk_cell BKg_ 0).trans rfl; have hcg1 := (blk_cell BKg_ 1).trans rfl; have hcg2 := (blk_cell BKg_ 2).trans rfl; have hcg3 := (blk_cell BKg_ 3).trans rfl; have hcg4 := (blk_cell BKg_ 4).trans rfl; have hcs0 := (blk_cell BKs_ 0).trans rfl; clear BKg_ BKs_) | (go_at_call 119; refine (circuit_board_prod.calls _ _ HS.out (by omega)).mono ?_; rintro e w' ⟨rfl, hb⟩; replace HS := Aside0.mk hb; clear hb; have BKg_ := HS.out.kept gg _ 105 BKgg.out (by decide) (by decide) (by decide) NGg.out; have BKs_ := HS.out.kept gs _ 24 BKgs.out (by decide) (by decide) (by decide) NGs.out; have hcg0 := (blk_cell BKg_ 0).trans rfl; have hcg1 := (blk_cell BKg_ 1).trans rfl; have hcg2 := (blk_cell BKg_ 2).trans rfl; have hcg3 := (blk_cell BKg_ 3).trans rfl; have hcg4 := (blk_cell BKg_ 4).trans rfl; have hcs0 := (blk_cell BKs_ 0).trans rfl; clear BKg_ BKs_) | (go_at_call 116; refine (circuit_board_done.calls  HS.out (by omega)).mono ?_; rintro e w' ⟨rfl, hb⟩; replace HS := Aside0.mk hb; clear hb; have BKg_ := HS.out.kept gg _ 105 BKgg.out (by decide) (by decide) (by decide) NGg.out; have BKs_ := HS.out.kept gs _ 24 BKgs.out (by decide) (by decide) (by decide) NGs.out; have hcg0 := (blk_cell BKg_ 0).trans rfl; have hcg1 := (blk_cell BKg_ 1).trans rfl; have hcg2 := (blk_cell BKg_ 2).trans rfl; have hcg3 := (blk_cell BKg_ 3).trans rfl; have hcg4 := (blk_cell BKg_ 4).trans rfl; have hcs0 := (blk_cell BKs_ 0).trans rfl; clear BKg_ BKs_))
 (first | go_end0 | ((try simp only [Exit.inBlock, Exit.then]); refine bodyPost_ret (results_none rfl _ _ _) rfl ?_))
 exact ⟨rfl, BrdS.back H0.out HBgs.out HBgg.out HS.out (by omega)⟩
set_option maxHeartbeats 4000000 in
set_option maxRecDepth 100000 in
theorem gate4.calls (s0 s1 s2 s3 s4 : Int) (As : Option Addr) (ns cs : Nat) (d a c s : Int) {base n : Nat} {w0 w : World} {g : Nat} {b : Bd} (H : BrdS base w0 w g b n) (hn : n < 90000) :
  Calls Try.prog 88 #[.pointer (some ⟨g, 0, none⟩), .agg #[.int .i64 s0, .int .i64 s1, .int .i64 s2, .int .i64 s3, .int .i64 s4, .slice As ns cs], .agg #[.int .i64 4, .int .i64 d, .int .i64 a, .int .i64 c, .int .i64 s]] w fun e w' => e = .returned (.tuple #[]) ∧ BrdS base w0 w' g (gateT b 1 d a c s) (n + 50) := by
 have H0 := Aside0.mk H; clear H
 have hu24 := Try.underlying24; have hu105 := Try.underlying105; have hu76 := Try.underlying76; have hu74 := Try.underlying74; have hu118 := Try.underlying118
 go_enter Try.func88, Try.ntmps88
 go_wp2_with (first | ((with_reducible refine gate_dst (N := 4) rfl ?_); refine box_event rfl (N := 4) rfl (cs := #[.int .i64 s0, .int .i64 s1, .int .i64 s2, .int .i64 s3, .int .i64 s4, .slice As ns cs]) (t := 24) (by first | (go_simp; done) | (go_simp; rfl)) ?_; intro gs hgs wgs hbox hb; have BKgs := Aside0.mk hbox; have HBgs := Aside0.mk hb; clear hbox hb hgs; have hcs0 := (blk_cell BKgs.out 0).trans rfl) | ((with_reducible refine gate_dst (N := 5) rfl ?_); refine box_event rfl (N := 5) rfl (cs := #[.int .i64 4, .int .i64 d, .int .i64 a, .int .i64 c, .int .i64 s]) (t := 105) (by first | (go_simp; done) | (go_simp; rfl)) ?_; intro gg hgg wgg hbox hb; have BKgg := Aside0.mk hbox; have HBgg := Aside0.mk hb; clear hbox hb hgg; replace BKgs := Aside0.mk (blk_below BKgs.out HBgg.out); have HS := Aside0.mk (⟨(H0.out.brd.below HBgs.out).below HBgg.out, Below.refl _ _, H0.out.small, TK.refl _ _⟩ : BrdS base wgg wgg g b n); have NGg := Aside0.mk (HS.out.ne BKgg.out (by decide)); have NGs := Aside0.mk (HS.out.ne BKgs.out (by decide)); have hcg0 := (blk_cell BKgg.out 0).trans rfl; have hcg1 := (blk_cell BKgg.out 1).trans rfl; have hcg2 := (blk_cell BKgg.out 2).trans rfl; have hcg3 := (blk_cell BKgg.out 3).trans rfl; have hcg4 := (blk_cell BKgg.out 4).trans rfl; have hcs0 := (blk_cell BKgs.out 0).trans rfl) | (go_at_call 117; (with_reducible refine (circuit_turned.calls 4 1 _ rfl).mono ?_); rintro e w' ⟨rfl, ⟨nd, rfl⟩⟩; replace HS := Aside0.mk (HS.out.drewN nd); have BKg_ := HS.out.kept gg _ 105 BKgg.out (by decide) (by decide) (by decide) NGg.out; have BKs_ := HS.out.kept gs _ 24 BKgs.out (by decide) (by decide) (by decide) NGs.out; have hcg0 := (blk_cell BKg_ 0).trans rfl; have hcg1 := (blk_cell BKg_ 1).trans rfl; have hcg2 := (blk_cell BKg_ 2).trans rfl; have hcg3 := (blk_cell BKg_ 3).trans rfl; have hcg4 := (blk_cell BKg_ 4).trans rfl; have hcs0 := (blk_cell BKs_ 0).trans rfl; clear BKg_ BKs_) | (go_at_call 113; (with_reducible refine (circuit_board_wire.calls (cl d) HS.out (by omega)).mono ?_); rintro e w' ⟨rfl, hb⟩; replace HS := Aside0.mk hb; clear hb; have BKg_ := HS.out.kept gg _ 105 BKgg.out (by decide) (by decide) (by decide) NGg.out; have BKs_ := HS.out.kept gs _ 24 BKgs.out (by decide) (by decide) (by decide) NGs.out; have hcg0 := (blk_cell BKg_ 0).trans rfl; have hcg1 := (blk_cell BKg_ 1).trans rfl; have hcg2 := (blk_cell BKg_ 2).trans rfl; have hcg3 := (blk_cell BKg_ 3).trans rfl; have hcg4 := (blk_cell BKg_ 4).trans rfl; have hcs0 := (blk_cell BKs_ 0).trans rfl; clear BKg_ BKs_) | (go_at_call 113; (with_reducible refine (circuit_board_wire.calls (clk a 1 s) HS.out (by omega)).mono ?_); rintro e w' ⟨rfl, hb⟩; replace HS := Aside0.mk hb; clear hb; have BKg_ := HS.out.kept gg _ 105 BKgg.out (by decide) (by decide) (by decide) NGg.out; have BKs_ := HS.out.kept gs _ 24 BKgs.out (by decide) (by decide) (by decide) NGs.out; have hcg0 := (blk_cell BKg_ 0).trans rfl; have hcg1 := (blk_cell BKg_ 1).trans rfl; have hcg2 := (blk_cell BKg_ 2).trans rfl; have hcg3 := (blk_cell BKg_ 3).trans rfl; have hcg4 := (blk_cell BKg_ 4).trans rfl; have hcs0 := (blk_cell BKs_ 0).trans rfl; clear BKg_ BKs_) | (go_at_call 115; refine (circuit_board_v.calls _ HS.out (by omega)).mono ?_; rintro e w' ⟨rfl, hb⟩; replace HS := Aside0.mk hb; clear hb; have BKg_ := HS.out.kept gg _ 105 BKgg.out (by decide) (by decide) (by decide) NGg.out; have BKs_ := HS.out.kept gs _ 24 BKgs.out (by decide) (by decide) (by decide) NGs.out; have hcg0 := (blk_cell BKg_ 0).trans rfl; have hcg1 := (blk_cell BKg_ 1).trans rfl; have hcg2 := (blk_cell BKg_ 2).trans rfl; have hcg3 := (blk_cell BKg_ 3).trans rfl; have hcg4 := (blk_cell BKg_ 4).trans rfl; have hcs0 := (blk_cell BKs_ 0).trans rfl; clear BKg_ BKs_) | (go_at_call 114; refine (circuit_board_sum.calls _ _ HS.out (by omega)).mono ?_; rintro e w' ⟨rfl, hb⟩; replace HS := Aside0.mk hb; clear hb; have BKg_ := HS.out.kept gg _ 105 BKgg.out (by decide) (by decide) (by decide) NGg.out; have BKs_ := HS.out.kept gs _ 24 BKgs.out (by decide) (by decide) (by decide) NGs.out; have hcg0 := (blk_cell BKg_ 0).trans rfl; have hcg1 := (blk_cell BKg_ 1).trans rfl; have hcg2 := (blk_cell BKg_ 2).trans rfl; have hcg3 := (blk_cell BKg_ 3).trans rfl; have hcg4 := (blk_cell BKg_ 4).trans rfl; have hcs0 := (blk_cell BKs_ 0).trans rfl; clear BKg_ BKs_) | (go_at_call 119; refine (circuit_board_prod.calls _ _ HS.out (by omega)).mono ?_; rintro e w' ⟨rfl, hb⟩; replace HS := Aside0.mk hb; clear hb; have BKg_ := HS.out.kept gg _ 105 BKgg.out (by decide) (by decide) (by decide) NGg.out; have BKs_ := HS.out.kept gs _ 24 BKgs.out (by decide) (by decide) (by decide) NGs.out; have hcg0 := (blk_cell BKg_ 0).trans rfl; have hcg1 := (blk_cell BKg_ 1).trans rfl; have hcg2 := (blk_cell BKg_ 2).trans rfl; have hcg3 := (blk_cell BKg_ 3).trans rfl; have hcg4 := (blk_cell BKg_ 4).trans rfl; have hcs0 := (blk_cell BKs_ 0).trans rfl; clear BKg_ BKs_) | (go_at_call 116; refine (circuit_board_done.calls  HS.out (by omega)).mono ?_; rintro e w' ⟨rfl, hb⟩; replace HS := Aside0.mk hb; clear hb; have BKg_ := HS.out.kept gg _ 105 BKgg.out (by decide) (by decide) (by decide) NGg.out; have BKs_ := HS.out.kept gs _ 24 BKgs.out (by decide) (by decide) (by decide) NGs.out; have hcg0 := (blk_cell BKg_ 0).trans rfl; have hcg1 := (blk_cell BKg_ 1).trans rfl; have hcg2 := (blk_cell BKg_ 2).trans rfl; have hcg3 := (blk_cell BKg_ 3).trans rfl; have hcg4 := (blk_cell BKg_ 4).trans rfl; have hcs0 := (blk_cell BKs_ 0).trans rfl; clear BKg_ BKs_))
 (first | go_end0 | ((try simp only [Exit.inBlock, Exit.then]); refine bodyPost_ret (results_none rfl _ _ _) rfl ?_))
 exact ⟨rfl, BrdS.back H0.out HBgs.out HBgg.out HS.out (by omega)⟩
set_option maxHeartbeats 4000000 in
set_option maxRecDepth 100000 in
theorem gate5.calls (s0 s1 s2 s3 s4 : Int) (As : Option Addr) (ns cs : Nat) (d a c s : Int) {base n : Nat} {w0 w : World} {g : Nat} {b : Bd} (H : BrdS base w0 w g b n) (hn : n < 90000) :
  Calls Try.prog 88 #[.pointer (some ⟨g, 0, none⟩), .agg #[.int .i64 s0, .int .i64 s1, .int .i64 s2, .int .i64 s3, .int .i64 s4, .slice As ns cs], .agg #[.int .i64 5, .int .i64 d, .int .i64 a, .int .i64 c, .int .i64 s]] w fun e w' => e = .returned (.tuple #[]) ∧ BrdS base w0 w' g (gateT b 2 d a c s) (n + 50) := by
 have H0 := Aside0.mk H; clear H
 have hu24 := Try.underlying24; have hu105 := Try.underlying105; have hu76 := Try.underlying76; have hu74 := Try.underlying74; have hu118 := Try.underlying118
 go_enter Try.func88, Try.ntmps88
 go_wp2_with (first | ((with_reducible refine gate_dst (N := 4) rfl ?_); refine box_event rfl (N := 4) rfl (cs := #[.int .i64 s0, .int .i64 s1, .int .i64 s2, .int .i64 s3, .int .i64 s4, .slice As ns cs]) (t := 24) (by first | (go_simp; done) | (go_simp; rfl)) ?_; intro gs hgs wgs hbox hb; have BKgs := Aside0.mk hbox; have HBgs := Aside0.mk hb; clear hbox hb hgs; have hcs0 := (blk_cell BKgs.out 0).trans rfl) | ((with_reducible refine gate_dst (N := 5) rfl ?_); refine box_event rfl (N := 5) rfl (cs := #[.int .i64 5, .int .i64 d, .int .i64 a, .int .i64 c, .int .i64 s]) (t := 105) (by first | (go_simp; done) | (go_simp; rfl)) ?_; intro gg hgg wgg hbox hb; have BKgg := Aside0.mk hbox; have HBgg := Aside0.mk hb; clear hbox hb hgg; replace BKgs := Aside0.mk (blk_below BKgs.out HBgg.out); have HS := Aside0.mk (⟨(H0.out.brd.below HBgs.out).below HBgg.out, Below.refl _ _, H0.out.small, TK.refl _ _⟩ : BrdS base wgg wgg g b n); have NGg := Aside0.mk (HS.out.ne BKgg.out (by decide)); have NGs := Aside0.mk (HS.out.ne BKgs.out (by decide)); have hcg0 := (blk_cell BKgg.out 0).trans rfl; have hcg1 := (blk_cell BKgg.out 1).trans rfl; have hcg2 := (blk_cell BKgg.out 2).trans rfl; have hcg3 := (blk_cell BKgg.out 3).trans rfl; have hcg4 := (blk_cell BKgg.out 4).trans rfl; have hcs0 := (blk_cell BKgs.out 0).trans rfl) | (go_at_call 117; (with_reducible refine (circuit_turned.calls 5 2 _ rfl).mono ?_); rintro e w' ⟨rfl, ⟨nd, rfl⟩⟩; replace HS := Aside0.mk (HS.out.drewN nd); have BKg_ := HS.out.kept gg _ 105 BKgg.out (by decide) (by decide) (by decide) NGg.out; have BKs_ := HS.out.kept gs _ 24 BKgs.out (by decide) (by decide) (by decide) NGs.out; have hcg0 := (blk_cell BKg_ 0).trans rfl; have hcg1 := (blk_cell BKg_ 1).trans rfl; have hcg2 := (blk_cell BKg_ 2).trans rfl; have hcg3 := (blk_cell BKg_ 3).trans rfl; have hcg4 := (blk_cell BKg_ 4).trans rfl; have hcs0 := (blk_cell BKs_ 0).trans rfl; clear BKg_ BKs_) | (go_at_call 113; (with_reducible refine (circuit_board_wire.calls (cl d) HS.out (by omega)).mono ?_); rintro e w' ⟨rfl, hb⟩; replace HS := Aside0.mk hb; clear hb; have BKg_ := HS.out.kept gg _ 105 BKgg.out (by decide) (by decide) (by decide) NGg.out; have BKs_ := HS.out.kept gs _ 24 BKgs.out (by decide) (by decide) (by decide) NGs.out; have hcg0 := (blk_cell BKg_ 0).trans rfl; have hcg1 := (blk_cell BKg_ 1).trans rfl; have hcg2 := (blk_cell BKg_ 2).trans rfl; have hcg3 := (blk_cell BKg_ 3).trans rfl; have hcg4 := (blk_cell BKg_ 4).trans rfl; have hcs0 := (blk_cell BKs_ 0).trans rfl; clear BKg_ BKs_) | (go_at_call 113; (with_reducible refine (circuit_board_wire.calls (clk a 2 s) HS.out (by omega)).mono ?_); rintro e w' ⟨rfl, hb⟩; replace HS := Aside0.mk hb; clear hb; have BKg_ := HS.out.kept gg _ 105 BKgg.out (by decide) (by decide) (by decide) NGg.out; have BKs_ := HS.out.kept gs _ 24 BKgs.out (by decide) (by decide) (by decide) NGs.out; have hcg0 := (blk_cell BKg_ 0).trans rfl; have hcg1 := (blk_cell BKg_ 1).trans rfl; have hcg2 := (blk_cell BKg_ 2).trans rfl; have hcg3 := (blk_cell BKg_ 3).trans rfl; have hcg4 := (blk_cell BKg_ 4).trans rfl; have hcs0 := (blk_cell BKs_ 0).trans rfl; clear BKg_ BKs_) | (go_at_call 115; refine (circuit_board_v.calls _ HS.out (by omega)).mono ?_; rintro e w' ⟨rfl, hb⟩; replace HS := Aside0.mk hb; clear hb; have BKg_ := HS.out.kept gg _ 105 BKgg.out (by decide) (by decide) (by decide) NGg.out; have BKs_ := HS.out.kept gs _ 24 BKgs.out (by decide) (by decide) (by decide) NGs.out; have hcg0 := (blk_cell BKg_ 0).trans rfl; have hcg1 := (blk_cell BKg_ 1).trans rfl; have hcg2 := (blk_cell BKg_ 2).trans rfl; have hcg3 := (blk_cell BKg_ 3).trans rfl; have hcg4 := (blk_cell BKg_ 4).trans rfl; have hcs0 := (blk_cell BKs_ 0).trans rfl; clear BKg_ BKs_) | (go_at_call 114; refine (circuit_board_sum.calls _ _ HS.out (by omega)).mono ?_; rintro e w' ⟨rfl, hb⟩; replace HS := Aside0.mk hb; clear hb; have BKg_ := HS.out.kept gg _ 105 BKgg.out (by decide) (by decide) (by decide) NGg.out; have BKs_ := HS.out.kept gs _ 24 BKgs.out (by decide) (by decide) (by decide) NGs.out; have hcg0 := (blk_cell BKg_ 0).trans rfl; have hcg1 := (blk_cell BKg_ 1).trans rfl; have hcg2 := (blk_cell BKg_ 2).trans rfl; have hcg3 := (blk_cell BKg_ 3).trans rfl; have hcg4 := (blk_cell BKg_ 4).trans rfl; have hcs0 := (blk_cell BKs_ 0).trans rfl; clear BKg_ BKs_) | (go_at_call 119; refine (circuit_board_prod.calls _ _ HS.out (by omega)).mono ?_; rintro e w' ⟨rfl, hb⟩; replace HS := Aside0.mk hb; clear hb; have BKg_ := HS.out.kept gg _ 105 BKgg.out (by decide) (by decide) (by decide) NGg.out; have BKs_ := HS.out.kept gs _ 24 BKgs.out (by decide) (by decide) (by decide) NGs.out; have hcg0 := (blk_cell BKg_ 0).trans rfl; have hcg1 := (blk_cell BKg_ 1).trans rfl; have hcg2 := (blk_cell BKg_ 2).trans rfl; have hcg3 := (blk_cell BKg_ 3).trans rfl; have hcg4 := (blk_cell BKg_ 4).trans rfl; have hcs0 := (blk_cell BKs_ 0).trans rfl; clear BKg_ BKs_) | (go_at_call 116; refine (circuit_board_done.calls  HS.out (by omega)).mono ?_; rintro e w' ⟨rfl, hb⟩; replace HS := Aside0.mk hb; clear hb; have BKg_ := HS.out.kept gg _ 105 BKgg.out (by decide) (by decide) (by decide) NGg.out; have BKs_ := HS.out.kept gs _ 24 BKgs.out (by decide) (by decide) (by decide) NGs.out; have hcg0 := (blk_cell BKg_ 0).trans rfl; have hcg1 := (blk_cell BKg_ 1).trans rfl; have hcg2 := (blk_cell BKg_ 2).trans rfl; have hcg3 := (blk_cell BKg_ 3).trans rfl; have hcg4 := (blk_cell BKg_ 4).trans rfl; have hcs0 := (blk_cell BKs_ 0).trans rfl; clear BKg_ BKs_))
 (first | go_end0 | ((try simp only [Exit.inBlock, Exit.then]); refine bodyPost_ret (results_none rfl _ _ _) rfl ?_))
 exact ⟨rfl, BrdS.back H0.out HBgs.out HBgg.out HS.out (by omega)⟩
set_option maxHeartbeats 4000000 in
set_option maxRecDepth 100000 in
theorem gate6.calls (s0 s1 s2 s3 s4 : Int) (As : Option Addr) (ns cs : Nat) (d a c s : Int) {base n : Nat} {w0 w : World} {g : Nat} {b : Bd} (H : BrdS base w0 w g b n) (hn : n < 90000) :
  Calls Try.prog 88 #[.pointer (some ⟨g, 0, none⟩), .agg #[.int .i64 s0, .int .i64 s1, .int .i64 s2, .int .i64 s3, .int .i64 s4, .slice As ns cs], .agg #[.int .i64 6, .int .i64 d, .int .i64 a, .int .i64 c, .int .i64 s]] w fun e w' => e = .returned (.tuple #[]) ∧ BrdS base w0 w' g (gateT b 3 d a c s) (n + 50) := by
 have H0 := Aside0.mk H; clear H
 have hu24 := Try.underlying24; have hu105 := Try.underlying105; have hu76 := Try.underlying76; have hu74 := Try.underlying74; have hu118 := Try.underlying118
 go_enter Try.func88, Try.ntmps88
 go_wp2_with (first | ((with_reducible refine gate_dst (N := 4) rfl ?_); refine box_event rfl (N := 4) rfl (cs := #[.int .i64 s0, .int .i64 s1, .int .i64 s2, .int .i64 s3, .int .i64 s4, .slice As ns cs]) (t := 24) (by first | (go_simp; done) | (go_simp; rfl)) ?_; intro gs hgs wgs hbox hb; have BKgs := Aside0.mk hbox; have HBgs := Aside0.mk hb; clear hbox hb hgs; have hcs0 := (blk_cell BKgs.out 0).trans rfl) | ((with_reducible refine gate_dst (N := 5) rfl ?_); refine box_event rfl (N := 5) rfl (cs := #[.int .i64 6, .int .i64 d, .int .i64 a, .int .i64 c, .int .i64 s]) (t := 105) (by first | (go_simp; done) | (go_simp; rfl)) ?_; intro gg hgg wgg hbox hb; have BKgg := Aside0.mk hbox; have HBgg := Aside0.mk hb; clear hbox hb hgg; replace BKgs := Aside0.mk (blk_below BKgs.out HBgg.out); have HS := Aside0.mk (⟨(H0.out.brd.below HBgs.out).below HBgg.out, Below.refl _ _, H0.out.small, TK.refl _ _⟩ : BrdS base wgg wgg g b n); have NGg := Aside0.mk (HS.out.ne BKgg.out (by decide)); have NGs := Aside0.mk (HS.out.ne BKgs.out (by decide)); have hcg0 := (blk_cell BKgg.out 0).trans rfl; have hcg1 := (blk_cell BKgg.out 1).trans rfl; have hcg2 := (blk_cell BKgg.out 2).trans rfl; have hcg3 := (blk_cell BKgg.out 3).trans rfl; have hcg4 := (blk_cell BKgg.out 4).trans rfl; have hcs0 := (blk_cell BKgs.out 0).trans rfl) | (go_at_call 117; (with_reducible refine (circuit_turned.calls 6 3 _ rfl).mono ?_); rintro e w' ⟨rfl, ⟨nd, rfl⟩⟩; replace HS := Aside0.mk (HS.out.drewN nd); have BKg_ := HS.out.kept gg _ 105 BKgg.out (by decide) (by decide) (by decide) NGg.out; have BKs_ := HS.out.kept gs _ 24 BKgs.out (by decide) (by decide) (by decide) NGs.out; have hcg0 := (blk_cell BKg_ 0).trans rfl; have hcg1 := (blk_cell BKg_ 1).trans rfl; have hcg2 := (blk_cell BKg_ 2).trans rfl; have hcg3 := (blk_cell BKg_ 3).trans rfl; have hcg4 := (blk_cell BKg_ 4).trans rfl; have hcs0 := (blk_cell BKs_ 0).trans rfl; clear BKg_ BKs_) | (go_at_call 113; (with_reducible refine (circuit_board_wire.calls (cl d) HS.out (by omega)).mono ?_); rintro e w' ⟨rfl, hb⟩; replace HS := Aside0.mk hb; clear hb; have BKg_ := HS.out.kept gg _ 105 BKgg.out (by decide) (by decide) (by decide) NGg.out; have BKs_ := HS.out.kept gs _ 24 BKgs.out (by decide) (by decide) (by decide) NGs.out; have hcg0 := (blk_cell BKg_ 0).trans rfl; have hcg1 := (blk_cell BKg_ 1).trans rfl; have hcg2 := (blk_cell BKg_ 2).trans rfl; have hcg3 := (blk_cell BKg_ 3).trans rfl; have hcg4 := (blk_cell BKg_ 4).trans rfl; have hcs0 := (blk_cell BKs_ 0).trans rfl; clear BKg_ BKs_) | (go_at_call 113; (with_reducible refine (circuit_board_wire.calls (clk a 3 s) HS.out (by omega)).mono ?_); rintro e w' ⟨rfl, hb⟩; replace HS := Aside0.mk hb; clear hb; have BKg_ := HS.out.kept gg _ 105 BKgg.out (by decide) (by decide) (by decide) NGg.out; have BKs_ := HS.out.kept gs _ 24 BKgs.out (by decide) (by decide) (by decide) NGs.out; have hcg0 := (blk_cell BKg_ 0).trans rfl; have hcg1 := (blk_cell BKg_ 1).trans rfl; have hcg2 := (blk_cell BKg_ 2).trans rfl; have hcg3 := (blk_cell BKg_ 3).trans rfl; have hcg4 := (blk_cell BKg_ 4).trans rfl; have hcs0 := (blk_cell BKs_ 0).trans rfl; clear BKg_ BKs_) | (go_at_call 115; refine (circuit_board_v.calls _ HS.out (by omega)).mono ?_; rintro e w' ⟨rfl, hb⟩; replace HS := Aside0.mk hb; clear hb; have BKg_ := HS.out.kept gg _ 105 BKgg.out (by decide) (by decide) (by decide) NGg.out; have BKs_ := HS.out.kept gs _ 24 BKgs.out (by decide) (by decide) (by decide) NGs.out; have hcg0 := (blk_cell BKg_ 0).trans rfl; have hcg1 := (blk_cell BKg_ 1).trans rfl; have hcg2 := (blk_cell BKg_ 2).trans rfl; have hcg3 := (blk_cell BKg_ 3).trans rfl; have hcg4 := (blk_cell BKg_ 4).trans rfl; have hcs0 := (blk_cell BKs_ 0).trans rfl; clear BKg_ BKs_) | (go_at_call 114; refine (circuit_board_sum.calls _ _ HS.out (by omega)).mono ?_; rintro e w' ⟨rfl, hb⟩; replace HS := Aside0.mk hb; clear hb; have BKg_ := HS.out.kept gg _ 105 BKgg.out (by decide) (by decide) (by decide) NGg.out; have BKs_ := HS.out.kept gs _ 24 BKgs.out (by decide) (by decide) (by decide) NGs.out; have hcg0 := (blk_cell BKg_ 0).trans rfl; have hcg1 := (blk_cell BKg_ 1).trans rfl; have hcg2 := (blk_cell BKg_ 2).trans rfl; have hcg3 := (blk_cell BKg_ 3).trans rfl; have hcg4 := (blk_cell BKg_ 4).trans rfl; have hcs0 := (blk_cell BKs_ 0).trans rfl; clear BKg_ BKs_) | (go_at_call 119; refine (circuit_board_prod.calls _ _ HS.out (by omega)).mono ?_; rintro e w' ⟨rfl, hb⟩; replace HS := Aside0.mk hb; clear hb; have BKg_ := HS.out.kept gg _ 105 BKgg.out (by decide) (by decide) (by decide) NGg.out; have BKs_ := HS.out.kept gs _ 24 BKgs.out (by decide) (by decide) (by decide) NGs.out; have hcg0 := (blk_cell BKg_ 0).trans rfl; have hcg1 := (blk_cell BKg_ 1).trans rfl; have hcg2 := (blk_cell BKg_ 2).trans rfl; have hcg3 := (blk_cell BKg_ 3).trans rfl; have hcg4 := (blk_cell BKg_ 4).trans rfl; have hcs0 := (blk_cell BKs_ 0).trans rfl; clear BKg_ BKs_) | (go_at_call 116; refine (circuit_board_done.calls  HS.out (by omega)).mono ?_; rintro e w' ⟨rfl, hb⟩; replace HS := Aside0.mk hb; clear hb; have BKg_ := HS.out.kept gg _ 105 BKgg.out (by decide) (by decide) (by decide) NGg.out; have BKs_ := HS.out.kept gs _ 24 BKgs.out (by decide) (by decide) (by decide) NGs.out; have hcg0 := (blk_cell BKg_ 0).trans rfl; have hcg1 := (blk_cell BKg_ 1).trans rfl; have hcg2 := (blk_cell BKg_ 2).trans rfl; have hcg3 := (blk_cell BKg_ 3).trans rfl; have hcg4 := (blk_cell BKg_ 4).trans rfl; have hcs0 := (blk_cell BKs_ 0).trans rfl; clear BKg_ BKs_))
 (first | go_end0 | ((try simp only [Exit.inBlock, Exit.then]); refine bodyPost_ret (results_none rfl _ _ _) rfl ?_))
 exact ⟨rfl, BrdS.back H0.out HBgs.out HBgg.out HS.out (by omega)⟩
set_option maxHeartbeats 4000000 in
set_option maxRecDepth 100000 in
theorem gate3.calls (s0 s1 s2 s3 s4 : Int) (As : Option Addr) (ns cs : Nat) (d a c s : Int) {base n : Nat} {w0 w : World} {g : Nat} {b : Bd} (H : BrdS base w0 w g b n) (hn : n < 90000) :
  Calls Try.prog 88 #[.pointer (some ⟨g, 0, none⟩), .agg #[.int .i64 s0, .int .i64 s1, .int .i64 s2, .int .i64 s3, .int .i64 s4, .slice As ns cs], .agg #[.int .i64 3, .int .i64 d, .int .i64 a, .int .i64 c, .int .i64 s]] w fun e w' => e = .returned (.tuple #[]) ∧ BrdS base w0 w' g (gate3 b d a c s) (n + 50) := by
 have H0 := Aside0.mk H; clear H
 have hu24 := Try.underlying24; have hu105 := Try.underlying105; have hu76 := Try.underlying76; have hu74 := Try.underlying74; have hu118 := Try.underlying118
 go_enter Try.func88, Try.ntmps88
 go_wp2_with (first | ((with_reducible refine gate_dst (N := 4) rfl ?_); refine box_event rfl (N := 4) rfl (cs := #[.int .i64 s0, .int .i64 s1, .int .i64 s2, .int .i64 s3, .int .i64 s4, .slice As ns cs]) (t := 24) (by first | (go_simp; done) | (go_simp; rfl)) ?_; intro gs hgs wgs hbox hb; have BKgs := Aside0.mk hbox; have HBgs := Aside0.mk hb; clear hbox hb hgs; have hcs0 := (blk_cell BKgs.out 0).trans rfl) | ((with_reducible refine gate_dst (N := 5) rfl ?_); refine box_event rfl (N := 5) rfl (cs := #[.int .i64 3, .int .i64 d, .int .i64 a, .int .i64 c, .int .i64 s]) (t := 105) (by first | (go_simp; done) | (go_simp; rfl)) ?_; intro gg hgg wgg hbox hb; have BKgg := Aside0.mk hbox; have HBgg := Aside0.mk hb; clear hbox hb hgg; replace BKgs := Aside0.mk (blk_below BKgs.out HBgg.out); have HS := Aside0.mk (⟨(H0.out.brd.below HBgs.out).below HBgg.out, Below.refl _ _, H0.out.small, TK.refl _ _⟩ : BrdS base wgg wgg g b n); have NGg := Aside0.mk (HS.out.ne BKgg.out (by decide)); have NGs := Aside0.mk (HS.out.ne BKgs.out (by decide)); have hcg0 := (blk_cell BKgg.out 0).trans rfl; have hcg1 := (blk_cell BKgg.out 1).trans rfl; have hcg2 := (blk_cell BKgg.out 2).trans rfl; have hcg3 := (blk_cell BKgg.out 3).trans rfl; have hcg4 := (blk_cell BKgg.out 4).trans rfl; have hcs0 := (blk_cell BKgs.out 0).trans rfl) | (go_at_call 117; (with_reducible refine (circuit_turned.calls 3 0 _ rfl).mono ?_); rintro e w' ⟨rfl, ⟨nd, rfl⟩⟩; replace HS := Aside0.mk (HS.out.drewN nd); have BKg_ := HS.out.kept gg _ 105 BKgg.out (by decide) (by decide) (by decide) NGg.out; have BKs_ := HS.out.kept gs _ 24 BKgs.out (by decide) (by decide) (by decide) NGs.out; have hcg0 := (blk_cell BKg_ 0).trans rfl; have hcg1 := (blk_cell BKg_ 1).trans rfl; have hcg2 := (blk_cell BKg_ 2).trans rfl; have hcg3 := (blk_cell BKg_ 3).trans rfl; have hcg4 := (blk_cell BKg_ 4).trans rfl; have hcs0 := (blk_cell BKs_ 0).trans rfl; clear BKg_ BKs_) | (go_at_call 113; (with_reducible refine (circuit_board_wire.calls (cl d) HS.out (by omega)).mono ?_); rintro e w' ⟨rfl, hb⟩; replace HS := Aside0.mk hb; clear hb; have BKg_ := HS.out.kept gg _ 105 BKgg.out (by decide) (by decide) (by decide) NGg.out; have BKs_ := HS.out.kept gs _ 24 BKgs.out (by decide) (by decide) (by decide) NGs.out; have hcg0 := (blk_cell BKg_ 0).trans rfl; have hcg1 := (blk_cell BKg_ 1).trans rfl; have hcg2 := (blk_cell BKg_ 2).trans rfl; have hcg3 := (blk_cell BKg_ 3).trans rfl; have hcg4 := (blk_cell BKg_ 4).trans rfl; have hcs0 := (blk_cell BKs_ 0).trans rfl; clear BKg_ BKs_) | (go_at_call 113; (with_reducible refine (circuit_board_wire.calls (cl a) HS.out (by omega)).mono ?_); rintro e w' ⟨rfl, hb⟩; replace HS := Aside0.mk hb; clear hb; have BKg_ := HS.out.kept gg _ 105 BKgg.out (by decide) (by decide) (by decide) NGg.out; have BKs_ := HS.out.kept gs _ 24 BKgs.out (by decide) (by decide) (by decide) NGs.out; have hcg0 := (blk_cell BKg_ 0).trans rfl; have hcg1 := (blk_cell BKg_ 1).trans rfl; have hcg2 := (blk_cell BKg_ 2).trans rfl; have hcg3 := (blk_cell BKg_ 3).trans rfl; have hcg4 := (blk_cell BKg_ 4).trans rfl; have hcs0 := (blk_cell BKs_ 0).trans rfl; clear BKg_ BKs_) | (go_at_call 118; (with_reducible refine (circuit_board_put.calls ⟨1, 0, 0, ⟨0, 1⟩⟩ HS.out (by omega)).mono ?_); rintro e w' ⟨rfl, hb⟩; replace HS := Aside0.mk hb; clear hb; have BKg_ := HS.out.kept gg _ 105 BKgg.out (by decide) (by decide) (by decide) NGg.out; have BKs_ := HS.out.kept gs _ 24 BKgs.out (by decide) (by decide) (by decide) NGs.out; have hcg0 := (blk_cell BKg_ 0).trans rfl; have hcg1 := (blk_cell BKg_ 1).trans rfl; have hcg2 := (blk_cell BKg_ 2).trans rfl; have hcg3 := (blk_cell BKg_ 3).trans rfl; have hcg4 := (blk_cell BKg_ 4).trans rfl; have hcs0 := (blk_cell BKs_ 0).trans rfl; clear BKg_ BKs_) | (go_at_call 115; refine (circuit_board_v.calls _ HS.out (by omega)).mono ?_; rintro e w' ⟨rfl, hb⟩; replace HS := Aside0.mk hb; clear hb; have BKg_ := HS.out.kept gg _ 105 BKgg.out (by decide) (by decide) (by decide) NGg.out; have BKs_ := HS.out.kept gs _ 24 BKgs.out (by decide) (by decide) (by decide) NGs.out; have hcg0 := (blk_cell BKg_ 0).trans rfl; have hcg1 := (blk_cell BKg_ 1).trans rfl; have hcg2 := (blk_cell BKg_ 2).trans rfl; have hcg3 := (blk_cell BKg_ 3).trans rfl; have hcg4 := (blk_cell BKg_ 4).trans rfl; have hcs0 := (blk_cell BKs_ 0).trans rfl; clear BKg_ BKs_) | (go_at_call 114; refine (circuit_board_sum.calls _ _ HS.out (by omega)).mono ?_; rintro e w' ⟨rfl, hb⟩; replace HS := Aside0.mk hb; clear hb; have BKg_ := HS.out.kept gg _ 105 BKgg.out (by decide) (by decide) (by decide) NGg.out; have BKs_ := HS.out.kept gs _ 24 BKgs.out (by decide) (by decide) (by decide) NGs.out; have hcg0 := (blk_cell BKg_ 0).trans rfl; have hcg1 := (blk_cell BKg_ 1).trans rfl; have hcg2 := (blk_cell BKg_ 2).trans rfl; have hcg3 := (blk_cell BKg_ 3).trans rfl; have hcg4 := (blk_cell BKg_ 4).trans rfl; have hcs0 := (blk_cell BKs_ 0).trans rfl; clear BKg_ BKs_) | (go_at_call 119; refine (circuit_board_prod.calls _ _ HS.out (by omega)).mono ?_; rintro e w' ⟨rfl, hb⟩; replace HS := Aside0.mk hb; clear hb; have BKg_ := HS.out.kept gg _ 105 BKgg.out (by decide) (by decide) (by decide) NGg.out; have BKs_ := HS.out.kept gs _ 24 BKgs.out (by decide) (by decide) (by decide) NGs.out; have hcg0 := (blk_cell BKg_ 0).trans rfl; have hcg1 := (blk_cell BKg_ 1).trans rfl; have hcg2 := (blk_cell BKg_ 2).trans rfl; have hcg3 := (blk_cell BKg_ 3).trans rfl; have hcg4 := (blk_cell BKg_ 4).trans rfl; have hcs0 := (blk_cell BKs_ 0).trans rfl; clear BKg_ BKs_) | (go_at_call 116; refine (circuit_board_done.calls  HS.out (by omega)).mono ?_; rintro e w' ⟨rfl, hb⟩; replace HS := Aside0.mk hb; clear hb; have BKg_ := HS.out.kept gg _ 105 BKgg.out (by decide) (by decide) (by decide) NGg.out; have BKs_ := HS.out.kept gs _ 24 BKgs.out (by decide) (by decide) (by decide) NGs.out; have hcg0 := (blk_cell BKg_ 0).trans rfl; have hcg1 := (blk_cell BKg_ 1).trans rfl; have hcg2 := (blk_cell BKg_ 2).trans rfl; have hcg3 := (blk_cell BKg_ 3).trans rfl; have hcg4 := (blk_cell BKg_ 4).trans rfl; have hcs0 := (blk_cell BKs_ 0).trans rfl; clear BKg_ BKs_))
 (first | go_end0 | ((try simp only [Exit.inBlock, Exit.then]); refine bodyPost_ret (results_none rfl _ _ _) rfl ?_))
 exact ⟨rfl, BrdS.back H0.out HBgs.out HBgg.out HS.out (by omega)⟩
set_option maxHeartbeats 4000000 in
set_option maxRecDepth 100000 in
theorem gate1.calls (s0 s1 s2 s3 s4 : Int) (As : Option Addr) (ns cs : Nat) (d a c s : Int) {base n : Nat} {w0 w : World} {g : Nat} {b : Bd} (H : BrdS base w0 w g b n) (hn : n < 90000) :
  Calls Try.prog 88 #[.pointer (some ⟨g, 0, none⟩), .agg #[.int .i64 s0, .int .i64 s1, .int .i64 s2, .int .i64 s3, .int .i64 s4, .slice As ns cs], .agg #[.int .i64 1, .int .i64 d, .int .i64 a, .int .i64 c, .int .i64 s]] w fun e w' => e = .returned (.tuple #[]) ∧ BrdS base w0 w' g (gate1 b d a c s) (n + 50) := by
 have H0 := Aside0.mk H; clear H
 have hu24 := Try.underlying24; have hu105 := Try.underlying105; have hu76 := Try.underlying76; have hu74 := Try.underlying74; have hu118 := Try.underlying118
 go_enter Try.func88, Try.ntmps88
 go_wp2_with (first | ((with_reducible refine gate_dst (N := 4) rfl ?_); refine box_event rfl (N := 4) rfl (cs := #[.int .i64 s0, .int .i64 s1, .int .i64 s2, .int .i64 s3, .int .i64 s4, .slice As ns cs]) (t := 24) (by first | (go_simp; done) | (go_simp; rfl)) ?_; intro gs hgs wgs hbox hb; have BKgs := Aside0.mk hbox; have HBgs := Aside0.mk hb; clear hbox hb hgs; have hcs0 := (blk_cell BKgs.out 0).trans rfl) | ((with_reducible refine gate_dst (N := 5) rfl ?_); refine box_event rfl (N := 5) rfl (cs := #[.int .i64 1, .int .i64 d, .int .i64 a, .int .i64 c, .int .i64 s]) (t := 105) (by first | (go_simp; done) | (go_simp; rfl)) ?_; intro gg hgg wgg hbox hb; have BKgg := Aside0.mk hbox; have HBgg := Aside0.mk hb; clear hbox hb hgg; replace BKgs := Aside0.mk (blk_below BKgs.out HBgg.out); have HS := Aside0.mk (⟨(H0.out.brd.below HBgs.out).below HBgg.out, Below.refl _ _, H0.out.small, TK.refl _ _⟩ : BrdS base wgg wgg g b n); have NGg := Aside0.mk (HS.out.ne BKgg.out (by decide)); have NGs := Aside0.mk (HS.out.ne BKgs.out (by decide)); have hcg0 := (blk_cell BKgg.out 0).trans rfl; have hcg1 := (blk_cell BKgg.out 1).trans rfl; have hcg2 := (blk_cell BKgg.out 2).trans rfl; have hcg3 := (blk_cell BKgg.out 3).trans rfl; have hcg4 := (blk_cell BKgg.out 4).trans rfl; have hcs0 := (blk_cell BKgs.out 0).trans rfl) | (go_at_call 117; (with_reducible refine (circuit_turned.calls 1 0 _ rfl).mono ?_); rintro e w' ⟨rfl, ⟨nd, rfl⟩⟩; replace HS := Aside0.mk (HS.out.drewN nd); have BKg_ := HS.out.kept gg _ 105 BKgg.out (by decide) (by decide) (by decide) NGg.out; have BKs_ := HS.out.kept gs _ 24 BKgs.out (by decide) (by decide) (by decide) NGs.out; have hcg0 := (blk_cell BKg_ 0).trans rfl; have hcg1 := (blk_cell BKg_ 1).trans rfl; have hcg2 := (blk_cell BKg_ 2).trans rfl; have hcg3 := (blk_cell BKg_ 3).trans rfl; have hcg4 := (blk_cell BKg_ 4).trans rfl; have hcs0 := (blk_cell BKs_ 0).trans rfl; clear BKg_ BKs_) | (go_at_call 113; (with_reducible refine (circuit_board_wire.calls (cl d) HS.out (by omega)).mono ?_); rintro e w' ⟨rfl, hb⟩; replace HS := Aside0.mk hb; clear hb; have BKg_ := HS.out.kept gg _ 105 BKgg.out (by decide) (by decide) (by decide) NGg.out; have BKs_ := HS.out.kept gs _ 24 BKgs.out (by decide) (by decide) (by decide) NGs.out; have hcg0 := (blk_cell BKg_ 0).trans rfl; have hcg1 := (blk_cell BKg_ 1).trans rfl; have hcg2 := (blk_cell BKg_ 2).trans rfl; have hcg3 := (blk_cell BKg_ 3).trans rfl; have hcg4 := (blk_cell BKg_ 4).trans rfl; have hcs0 := (blk_cell BKs_ 0).trans rfl; clear BKg_ BKs_) | (go_at_call 113; (with_reducible refine (circuit_board_wire.calls (cl a) HS.out (by omega)).mono ?_); rintro e w' ⟨rfl, hb⟩; replace HS := Aside0.mk hb; clear hb; have BKg_ := HS.out.kept gg _ 105 BKgg.out (by decide) (by decide) (by decide) NGg.out; have BKs_ := HS.out.kept gs _ 24 BKgs.out (by decide) (by decide) (by decide) NGs.out; have hcg0 := (blk_cell BKg_ 0).trans rfl; have hcg1 := (blk_cell BKg_ 1).trans rfl; have hcg2 := (blk_cell BKg_ 2).trans rfl; have hcg3 := (blk_cell BKg_ 3).trans rfl; have hcg4 := (blk_cell BKg_ 4).trans rfl; have hcs0 := (blk_cell BKs_ 0).trans rfl; clear BKg_ BKs_) | (go_at_call 113; (with_reducible refine (circuit_board_wire.calls (cl c) HS.out (by omega)).mono ?_); rintro e w' ⟨rfl, hb⟩; replace HS := Aside0.mk hb; clear hb; have BKg_ := HS.out.kept gg _ 105 BKgg.out (by decide) (by decide) (by decide) NGg.out; have BKs_ := HS.out.kept gs _ 24 BKgs.out (by decide) (by decide) (by decide) NGs.out; have hcg0 := (blk_cell BKg_ 0).trans rfl; have hcg1 := (blk_cell BKg_ 1).trans rfl; have hcg2 := (blk_cell BKg_ 2).trans rfl; have hcg3 := (blk_cell BKg_ 3).trans rfl; have hcg4 := (blk_cell BKg_ 4).trans rfl; have hcs0 := (blk_cell BKs_ 0).trans rfl; clear BKg_ BKs_) | (go_at_call 115; refine (circuit_board_v.calls _ HS.out (by omega)).mono ?_; rintro e w' ⟨rfl, hb⟩; replace HS := Aside0.mk hb; clear hb; have BKg_ := HS.out.kept gg _ 105 BKgg.out (by decide) (by decide) (by decide) NGg.out; have BKs_ := HS.out.kept gs _ 24 BKgs.out (by decide) (by decide) (by decide) NGs.out; have hcg0 := (blk_cell BKg_ 0).trans rfl; have hcg1 := (blk_cell BKg_ 1).trans rfl; have hcg2 := (blk_cell BKg_ 2).trans rfl; have hcg3 := (blk_cell BKg_ 3).trans rfl; have hcg4 := (blk_cell BKg_ 4).trans rfl; have hcs0 := (blk_cell BKs_ 0).trans rfl; clear BKg_ BKs_) | (go_at_call 114; refine (circuit_board_sum.calls _ _ HS.out (by omega)).mono ?_; rintro e w' ⟨rfl, hb⟩; replace HS := Aside0.mk hb; clear hb; have BKg_ := HS.out.kept gg _ 105 BKgg.out (by decide) (by decide) (by decide) NGg.out; have BKs_ := HS.out.kept gs _ 24 BKgs.out (by decide) (by decide) (by decide) NGs.out; have hcg0 := (blk_cell BKg_ 0).trans rfl; have hcg1 := (blk_cell BKg_ 1).trans rfl; have hcg2 := (blk_cell BKg_ 2).trans rfl; have hcg3 := (blk_cell BKg_ 3).trans rfl; have hcg4 := (blk_cell BKg_ 4).trans rfl; have hcs0 := (blk_cell BKs_ 0).trans rfl; clear BKg_ BKs_) | (go_at_call 119; refine (circuit_board_prod.calls _ _ HS.out (by omega)).mono ?_; rintro e w' ⟨rfl, hb⟩; replace HS := Aside0.mk hb; clear hb; have BKg_ := HS.out.kept gg _ 105 BKgg.out (by decide) (by decide) (by decide) NGg.out; have BKs_ := HS.out.kept gs _ 24 BKgs.out (by decide) (by decide) (by decide) NGs.out; have hcg0 := (blk_cell BKg_ 0).trans rfl; have hcg1 := (blk_cell BKg_ 1).trans rfl; have hcg2 := (blk_cell BKg_ 2).trans rfl; have hcg3 := (blk_cell BKg_ 3).trans rfl; have hcg4 := (blk_cell BKg_ 4).trans rfl; have hcs0 := (blk_cell BKs_ 0).trans rfl; clear BKg_ BKs_) | (go_at_call 116; refine (circuit_board_done.calls  HS.out (by omega)).mono ?_; rintro e w' ⟨rfl, hb⟩; replace HS := Aside0.mk hb; clear hb; have BKg_ := HS.out.kept gg _ 105 BKgg.out (by decide) (by decide) (by decide) NGg.out; have BKs_ := HS.out.kept gs _ 24 BKgs.out (by decide) (by decide) (by decide) NGs.out; have hcg0 := (blk_cell BKg_ 0).trans rfl; have hcg1 := (blk_cell BKg_ 1).trans rfl; have hcg2 := (blk_cell BKg_ 2).trans rfl; have hcg3 := (blk_cell BKg_ 3).trans rfl; have hcg4 := (blk_cell BKg_ 4).trans rfl; have hcs0 := (blk_cell BKs_ 0).trans rfl; clear BKg_ BKs_))
 (first | go_end0 | ((try simp only [Exit.inBlock, Exit.then]); refine bodyPost_ret (results_none rfl _ _ _) rfl ?_))
 exact ⟨rfl, BrdS.back H0.out HBgs.out HBgg.out HS.out (by omega)⟩
set_option maxHeartbeats 4000000 in
set_option maxRecDepth 100000 in
theorem gate2.calls (s0 s1 s2 s3 s4 : Int) (As : Option Addr) (ns cs : Nat) (d a c s : Int) {base n : Nat} {w0 w : World} {g : Nat} {b : Bd} (H : BrdS base w0 w g b n) (hn : n < 90000) :
  Calls Try.prog 88 #[.pointer (some ⟨g, 0, none⟩), .agg #[.int .i64 s0, .int .i64 s1, .int .i64 s2, .int .i64 s3, .int .i64 s4, .slice As ns cs], .agg #[.int .i64 2, .int .i64 d, .int .i64 a, .int .i64 c, .int .i64 s]] w fun e w' => e = .returned (.tuple #[]) ∧ BrdS base w0 w' g (gate2 b d a c s) (n + 50) := by
 have H0 := Aside0.mk H; clear H
 have hu24 := Try.underlying24; have hu105 := Try.underlying105; have hu76 := Try.underlying76; have hu74 := Try.underlying74; have hu118 := Try.underlying118
 go_enter Try.func88, Try.ntmps88
 go_wp2_with (first | ((with_reducible refine gate_dst (N := 4) rfl ?_); refine box_event rfl (N := 4) rfl (cs := #[.int .i64 s0, .int .i64 s1, .int .i64 s2, .int .i64 s3, .int .i64 s4, .slice As ns cs]) (t := 24) (by first | (go_simp; done) | (go_simp; rfl)) ?_; intro gs hgs wgs hbox hb; have BKgs := Aside0.mk hbox; have HBgs := Aside0.mk hb; clear hbox hb hgs; have hcs0 := (blk_cell BKgs.out 0).trans rfl) | ((with_reducible refine gate_dst (N := 5) rfl ?_); refine box_event rfl (N := 5) rfl (cs := #[.int .i64 2, .int .i64 d, .int .i64 a, .int .i64 c, .int .i64 s]) (t := 105) (by first | (go_simp; done) | (go_simp; rfl)) ?_; intro gg hgg wgg hbox hb; have BKgg := Aside0.mk hbox; have HBgg := Aside0.mk hb; clear hbox hb hgg; replace BKgs := Aside0.mk (blk_below BKgs.out HBgg.out); have HS := Aside0.mk (⟨(H0.out.brd.below HBgs.out).below HBgg.out, Below.refl _ _, H0.out.small, TK.refl _ _⟩ : BrdS base wgg wgg g b n); have NGg := Aside0.mk (HS.out.ne BKgg.out (by decide)); have NGs := Aside0.mk (HS.out.ne BKgs.out (by decide)); have hcg0 := (blk_cell BKgg.out 0).trans rfl; have hcg1 := (blk_cell BKgg.out 1).trans rfl; have hcg2 := (blk_cell BKgg.out 2).trans rfl; have hcg3 := (blk_cell BKgg.out 3).trans rfl; have hcg4 := (blk_cell BKgg.out 4).trans rfl; have hcs0 := (blk_cell BKgs.out 0).trans rfl) | (go_at_call 117; (with_reducible refine (circuit_turned.calls 2 0 _ rfl).mono ?_); rintro e w' ⟨rfl, ⟨nd, rfl⟩⟩; replace HS := Aside0.mk (HS.out.drewN nd); have BKg_ := HS.out.kept gg _ 105 BKgg.out (by decide) (by decide) (by decide) NGg.out; have BKs_ := HS.out.kept gs _ 24 BKgs.out (by decide) (by decide) (by decide) NGs.out; have hcg0 := (blk_cell BKg_ 0).trans rfl; have hcg1 := (blk_cell BKg_ 1).trans rfl; have hcg2 := (blk_cell BKg_ 2).trans rfl; have hcg3 := (blk_cell BKg_ 3).trans rfl; have hcg4 := (blk_cell BKg_ 4).trans rfl; have hcs0 := (blk_cell BKs_ 0).trans rfl; clear BKg_ BKs_) | (go_at_call 113; (with_reducible refine (circuit_board_wire.calls (cl d) HS.out (by omega)).mono ?_); rintro e w' ⟨rfl, hb⟩; replace HS := Aside0.mk hb; clear hb; have BKg_ := HS.out.kept gg _ 105 BKgg.out (by decide) (by decide) (by decide) NGg.out; have BKs_ := HS.out.kept gs _ 24 BKgs.out (by decide) (by decide) (by decide) NGs.out; have hcg0 := (blk_cell BKg_ 0).trans rfl; have hcg1 := (blk_cell BKg_ 1).trans rfl; have hcg2 := (blk_cell BKg_ 2).trans rfl; have hcg3 := (blk_cell BKg_ 3).trans rfl; have hcg4 := (blk_cell BKg_ 4).trans rfl; have hcs0 := (blk_cell BKs_ 0).trans rfl; clear BKg_ BKs_) | (go_at_call 113; (with_reducible refine (circuit_board_wire.calls (cl a) HS.out (by omega)).mono ?_); rintro e w' ⟨rfl, hb⟩; replace HS := Aside0.mk hb; clear hb; have BKg_ := HS.out.kept gg _ 105 BKgg.out (by decide) (by decide) (by decide) NGg.out; have BKs_ := HS.out.kept gs _ 24 BKgs.out (by decide) (by decide) (by decide) NGs.out; have hcg0 := (blk_cell BKg_ 0).trans rfl; have hcg1 := (blk_cell BKg_ 1).trans rfl; have hcg2 := (blk_cell BKg_ 2).trans rfl; have hcg3 := (blk_cell BKg_ 3).trans rfl; have hcg4 := (blk_cell BKg_ 4).trans rfl; have hcs0 := (blk_cell BKs_ 0).trans rfl; clear BKg_ BKs_) | (go_at_call 113; (with_reducible refine (circuit_board_wire.calls (cl c) HS.out (by omega)).mono ?_); rintro e w' ⟨rfl, hb⟩; replace HS := Aside0.mk hb; clear hb; have BKg_ := HS.out.kept gg _ 105 BKgg.out (by decide) (by decide) (by decide) NGg.out; have BKs_ := HS.out.kept gs _ 24 BKgs.out (by decide) (by decide) (by decide) NGs.out; have hcg0 := (blk_cell BKg_ 0).trans rfl; have hcg1 := (blk_cell BKg_ 1).trans rfl; have hcg2 := (blk_cell BKg_ 2).trans rfl; have hcg3 := (blk_cell BKg_ 3).trans rfl; have hcg4 := (blk_cell BKg_ 4).trans rfl; have hcs0 := (blk_cell BKs_ 0).trans rfl; clear BKg_ BKs_) | (go_at_call 115; refine (circuit_board_v.calls _ HS.out (by omega)).mono ?_; rintro e w' ⟨rfl, hb⟩; replace HS := Aside0.mk hb; clear hb; have BKg_ := HS.out.kept gg _ 105 BKgg.out (by decide) (by decide) (by decide) NGg.out; have BKs_ := HS.out.kept gs _ 24 BKgs.out (by decide) (by decide) (by decide) NGs.out; have hcg0 := (blk_cell BKg_ 0).trans rfl; have hcg1 := (blk_cell BKg_ 1).trans rfl; have hcg2 := (blk_cell BKg_ 2).trans rfl; have hcg3 := (blk_cell BKg_ 3).trans rfl; have hcg4 := (blk_cell BKg_ 4).trans rfl; have hcs0 := (blk_cell BKs_ 0).trans rfl; clear BKg_ BKs_) | (go_at_call 114; refine (circuit_board_sum.calls _ _ HS.out (by omega)).mono ?_; rintro e w' ⟨rfl, hb⟩; replace HS := Aside0.mk hb; clear hb; have BKg_ := HS.out.kept gg _ 105 BKgg.out (by decide) (by decide) (by decide) NGg.out; have BKs_ := HS.out.kept gs _ 24 BKgs.out (by decide) (by decide) (by decide) NGs.out; have hcg0 := (blk_cell BKg_ 0).trans rfl; have hcg1 := (blk_cell BKg_ 1).trans rfl; have hcg2 := (blk_cell BKg_ 2).trans rfl; have hcg3 := (blk_cell BKg_ 3).trans rfl; have hcg4 := (blk_cell BKg_ 4).trans rfl; have hcs0 := (blk_cell BKs_ 0).trans rfl; clear BKg_ BKs_) | (go_at_call 119; refine (circuit_board_prod.calls _ _ HS.out (by omega)).mono ?_; rintro e w' ⟨rfl, hb⟩; replace HS := Aside0.mk hb; clear hb; have BKg_ := HS.out.kept gg _ 105 BKgg.out (by decide) (by decide) (by decide) NGg.out; have BKs_ := HS.out.kept gs _ 24 BKgs.out (by decide) (by decide) (by decide) NGs.out; have hcg0 := (blk_cell BKg_ 0).trans rfl; have hcg1 := (blk_cell BKg_ 1).trans rfl; have hcg2 := (blk_cell BKg_ 2).trans rfl; have hcg3 := (blk_cell BKg_ 3).trans rfl; have hcg4 := (blk_cell BKg_ 4).trans rfl; have hcs0 := (blk_cell BKs_ 0).trans rfl; clear BKg_ BKs_) | (go_at_call 116; refine (circuit_board_done.calls  HS.out (by omega)).mono ?_; rintro e w' ⟨rfl, hb⟩; replace HS := Aside0.mk hb; clear hb; have BKg_ := HS.out.kept gg _ 105 BKgg.out (by decide) (by decide) (by decide) NGg.out; have BKs_ := HS.out.kept gs _ 24 BKgs.out (by decide) (by decide) (by decide) NGs.out; have hcg0 := (blk_cell BKg_ 0).trans rfl; have hcg1 := (blk_cell BKg_ 1).trans rfl; have hcg2 := (blk_cell BKg_ 2).trans rfl; have hcg3 := (blk_cell BKg_ 3).trans rfl; have hcg4 := (blk_cell BKg_ 4).trans rfl; have hcs0 := (blk_cell BKs_ 0).trans rfl; clear BKg_ BKs_))
 (first | go_end0 | ((try simp only [Exit.inBlock, Exit.then]); refine bodyPost_ret (results_none rfl _ _ _) rfl ?_))
 exact ⟨rfl, BrdS.back H0.out HBgs.out HBgg.out HS.out (by omega)⟩
set_option maxHeartbeats 4000000 in
set_option maxRecDepth 100000 in
theorem gate70.calls (s0 s1 s2 s3 s4 : Int) (As : Option Addr) (ns cs : Nat) (d a c s : Int) {base n : Nat} {w0 w : World} {g : Nat} {b : Bd} (H : BrdS base w0 w g b n) (hn : n < 80000) (hw0 : (s0 == 0) = true) :
  Calls Try.prog 88 #[.pointer (some ⟨g, 0, none⟩), .agg #[.int .i64 s0, .int .i64 s1, .int .i64 s2, .int .i64 s3, .int .i64 s4, .slice As ns cs], .agg #[.int .i64 7, .int .i64 d, .int .i64 a, .int .i64 c, .int .i64 s]] w fun e w' => e = .returned (.tuple #[]) ∧ BrdS base w0 w' g (gate7 b s0 d a c s) (n + 60) := by
 have hw := Aside0.mk hw0; clear hw0
 have H0 := Aside0.mk H; clear H
 have hu24 := Try.underlying24; have hu105 := Try.underlying105; have hu76 := Try.underlying76; have hu74 := Try.underlying74; have hu118 := Try.underlying118
 go_enter Try.func88, Try.ntmps88
 go_wp2_with (first | ((with_reducible refine gate_dst (N := 4) rfl ?_); refine box_event rfl (N := 4) rfl (cs := #[.int .i64 s0, .int .i64 s1, .int .i64 s2, .int .i64 s3, .int .i64 s4, .slice As ns cs]) (t := 24) (by first | (go_simp; done) | (go_simp; rfl)) ?_; intro gs hgs wgs hbox hb; have BKgs := Aside0.mk hbox; have HBgs := Aside0.mk hb; clear hbox hb hgs; have hcs0 := (blk_cell BKgs.out 0).trans rfl; have hcs1 := (blk_cell BKgs.out 1).trans rfl; have hcs2 := (blk_cell BKgs.out 2).trans rfl; have hcs3 := (blk_cell BKgs.out 3).trans rfl; have hcs4 := (blk_cell BKgs.out 4).trans rfl; have hcs5 := (blk_cell BKgs.out 5).trans rfl) | ((with_reducible refine gate_dst (N := 5) rfl ?_); refine box_event rfl (N := 5) rfl (cs := #[.int .i64 7, .int .i64 d, .int .i64 a, .int .i64 c, .int .i64 s]) (t := 105) (by first | (go_simp; done) | (go_simp; rfl)) ?_; intro gg hgg wgg hbox hb; have BKgg := Aside0.mk hbox; have HBgg := Aside0.mk hb; clear hbox hb hgg; replace BKgs := Aside0.mk (blk_below BKgs.out HBgg.out); have HS := Aside0.mk (⟨(H0.out.brd.below HBgs.out).below HBgg.out, Below.refl _ _, H0.out.small, TK.refl _ _⟩ : BrdS base wgg wgg g b n); have NGg := Aside0.mk (HS.out.ne BKgg.out (by decide)); have NGs := Aside0.mk (HS.out.ne BKgs.out (by decide)); have hcg0 := (blk_cell BKgg.out 0).trans rfl; have hcg1 := (blk_cell BKgg.out 1).trans rfl; have hcg2 := (blk_cell BKgg.out 2).trans rfl; have hcg3 := (blk_cell BKgg.out 3).trans rfl; have hcg4 := (blk_cell BKgg.out 4).trans rfl; have hcs0 := (blk_cell BKgs.out 0).trans rfl; have hcs1 := (blk_cell BKgs.out 1).trans rfl; have hcs2 := (blk_cell BKgs.out 2).trans rfl; have hcs3 := (blk_cell BKgs.out 3).trans rfl; have hcs4 := (blk_cell BKgs.out 4).trans rfl; have hcs5 := (blk_cell BKgs.out 5).trans rfl) | (go_at_call 117; (with_reducible refine (circuit_turned.calls 7 0 _ rfl).mono ?_); rintro e w' ⟨rfl, ⟨nd, rfl⟩⟩; replace HS := Aside0.mk (HS.out.drewN nd); have BKg_ := HS.out.kept gg _ 105 BKgg.out (by decide) (by decide) (by decide) NGg.out; have BKs_ := HS.out.kept gs _ 24 BKgs.out (by decide) (by decide) (by decide) NGs.out; have hcg0 := (blk_cell BKg_ 0).trans rfl; have hcg1 := (blk_cell BKg_ 1).trans rfl; have hcg2 := (blk_cell BKg_ 2).trans rfl; have hcg3 := (blk_cell BKg_ 3).trans rfl; have hcg4 := (blk_cell BKg_ 4).trans rfl; have hcs0 := (blk_cell BKs_ 0).trans rfl; have hcs1 := (blk_cell BKs_ 1).trans rfl; have hcs2 := (blk_cell BKs_ 2).trans rfl; have hcs3 := (blk_cell BKs_ 3).trans rfl; have hcs4 := (blk_cell BKs_ 4).trans rfl; have hcs5 := (blk_cell BKs_ 5).trans rfl; clear BKg_ BKs_) | (go_at_call 113; (with_reducible refine (circuit_board_wire.calls (cl d) HS.out (by omega)).mono ?_); rintro e w' ⟨rfl, hb⟩; replace HS := Aside0.mk hb; clear hb; have BKg_ := HS.out.kept gg _ 105 BKgg.out (by decide) (by decide) (by decide) NGg.out; have BKs_ := HS.out.kept gs _ 24 BKgs.out (by decide) (by decide) (by decide) NGs.out; have hcg0 := (blk_cell BKg_ 0).trans rfl; have hcg1 := (blk_cell BKg_ 1).trans rfl; have hcg2 := (blk_cell BKg_ 2).trans rfl; have hcg3 := (blk_cell BKg_ 3).trans rfl; have hcg4 := (blk_cell BKg_ 4).trans rfl; have hcs0 := (blk_cell BKs_ 0).trans rfl; have hcs1 := (blk_cell BKs_ 1).trans rfl; have hcs2 := (blk_cell BKs_ 2).trans rfl; have hcs3 := (blk_cell BKs_ 3).trans rfl; have hcs4 := (blk_cell BKs_ 4).trans rfl; have hcs5 := (blk_cell BKs_ 5).trans rfl; clear BKg_ BKs_) | (go_at_call 113; (with_reducible refine (circuit_board_wire.calls (cl a) HS.out (by omega)).mono ?_); rintro e w' ⟨rfl, hb⟩; replace HS := Aside0.mk hb; clear hb; have BKg_ := HS.out.kept gg _ 105 BKgg.out (by decide) (by decide) (by decide) NGg.out; have BKs_ := HS.out.kept gs _ 24 BKgs.out (by decide) (by decide) (by decide) NGs.out; have hcg0 := (blk_cell BKg_ 0).trans rfl; have hcg1 := (blk_cell BKg_ 1).trans rfl; have hcg2 := (blk_cell BKg_ 2).trans rfl; have hcg3 := (blk_cell BKg_ 3).trans rfl; have hcg4 := (blk_cell BKg_ 4).trans rfl; have hcs0 := (blk_cell BKs_ 0).trans rfl; have hcs1 := (blk_cell BKs_ 1).trans rfl; have hcs2 := (blk_cell BKs_ 2).trans rfl; have hcs3 := (blk_cell BKs_ 3).trans rfl; have hcs4 := (blk_cell BKs_ 4).trans rfl; have hcs5 := (blk_cell BKs_ 5).trans rfl; clear BKg_ BKs_) | (go_at_call 120; (with_reducible refine (add0.calls s0 s1 s2 s3 s4 As ns cs d a c s _ _ HS.out (by omega) hw.out).mono ?_); rintro e w' ⟨rfl, hb⟩; replace HS := Aside0.mk hb; clear hb; have BKg_ := HS.out.kept gg _ 105 BKgg.out (by decide) (by decide) (by decide) NGg.out; have BKs_ := HS.out.kept gs _ 24 BKgs.out (by decide) (by decide) (by decide) NGs.out; have hcg0 := (blk_cell BKg_ 0).trans rfl; have hcg1 := (blk_cell BKg_ 1).trans rfl; have hcg2 := (blk_cell BKg_ 2).trans rfl; have hcg3 := (blk_cell BKg_ 3).trans rfl; have hcg4 := (blk_cell BKg_ 4).trans rfl; have hcs0 := (blk_cell BKs_ 0).trans rfl; have hcs1 := (blk_cell BKs_ 1).trans rfl; have hcs2 := (blk_cell BKs_ 2).trans rfl; have hcs3 := (blk_cell BKs_ 3).trans rfl; have hcs4 := (blk_cell BKs_ 4).trans rfl; have hcs5 := (blk_cell BKs_ 5).trans rfl; clear BKg_ BKs_) | (go_at_call 115; refine (circuit_board_v.calls _ HS.out (by omega)).mono ?_; rintro e w' ⟨rfl, hb⟩; replace HS := Aside0.mk hb; clear hb; have BKg_ := HS.out.kept gg _ 105 BKgg.out (by decide) (by decide) (by decide) NGg.out; have BKs_ := HS.out.kept gs _ 24 BKgs.out (by decide) (by decide) (by decide) NGs.out; have hcg0 := (blk_cell BKg_ 0).trans rfl; have hcg1 := (blk_cell BKg_ 1).trans rfl; have hcg2 := (blk_cell BKg_ 2).trans rfl; have hcg3 := (blk_cell BKg_ 3).trans rfl; have hcg4 := (blk_cell BKg_ 4).trans rfl; have hcs0 := (blk_cell BKs_ 0).trans rfl; have hcs1 := (blk_cell BKs_ 1).trans rfl; have hcs2 := (blk_cell BKs_ 2).trans rfl; have hcs3 := (blk_cell BKs_ 3).trans rfl; have hcs4 := (blk_cell BKs_ 4).trans rfl; have hcs5 := (blk_cell BKs_ 5).trans rfl; clear BKg_ BKs_) | (go_at_call 114; refine (circuit_board_sum.calls _ _ HS.out (by omega)).mono ?_; rintro e w' ⟨rfl, hb⟩; replace HS := Aside0.mk hb; clear hb; have BKg_ := HS.out.kept gg _ 105 BKgg.out (by decide) (by decide) (by decide) NGg.out; have BKs_ := HS.out.kept gs _ 24 BKgs.out (by decide) (by decide) (by decide) NGs.out; have hcg0 := (blk_cell BKg_ 0).trans rfl; have hcg1 := (blk_cell BKg_ 1).trans rfl; have hcg2 := (blk_cell BKg_ 2).trans rfl; have hcg3 := (blk_cell BKg_ 3).trans rfl; have hcg4 := (blk_cell BKg_ 4).trans rfl; have hcs0 := (blk_cell BKs_ 0).trans rfl; have hcs1 := (blk_cell BKs_ 1).trans rfl; have hcs2 := (blk_cell BKs_ 2).trans rfl; have hcs3 := (blk_cell BKs_ 3).trans rfl; have hcs4 := (blk_cell BKs_ 4).trans rfl; have hcs5 := (blk_cell BKs_ 5).trans rfl; clear BKg_ BKs_) | (go_at_call 119; refine (circuit_board_prod.calls _ _ HS.out (by omega)).mono ?_; rintro e w' ⟨rfl, hb⟩; replace HS := Aside0.mk hb; clear hb; have BKg_ := HS.out.kept gg _ 105 BKgg.out (by decide) (by decide) (by decide) NGg.out; have BKs_ := HS.out.kept gs _ 24 BKgs.out (by decide) (by decide) (by decide) NGs.out; have hcg0 := (blk_cell BKg_ 0).trans rfl; have hcg1 := (blk_cell BKg_ 1).trans rfl; have hcg2 := (blk_cell BKg_ 2).trans rfl; have hcg3 := (blk_cell BKg_ 3).trans rfl; have hcg4 := (blk_cell BKg_ 4).trans rfl; have hcs0 := (blk_cell BKs_ 0).trans rfl; have hcs1 := (blk_cell BKs_ 1).trans rfl; have hcs2 := (blk_cell BKs_ 2).trans rfl; have hcs3 := (blk_cell BKs_ 3).trans rfl; have hcs4 := (blk_cell BKs_ 4).trans rfl; have hcs5 := (blk_cell BKs_ 5).trans rfl; clear BKg_ BKs_) | (go_at_call 116; refine (circuit_board_done.calls  HS.out (by omega)).mono ?_; rintro e w' ⟨rfl, hb⟩; replace HS := Aside0.mk hb; clear hb; have BKg_ := HS.out.kept gg _ 105 BKgg.out (by decide) (by decide) (by decide) NGg.out; have BKs_ := HS.out.kept gs _ 24 BKgs.out (by decide) (by decide) (by decide) NGs.out; have hcg0 := (blk_cell BKg_ 0).trans rfl; have hcg1 := (blk_cell BKg_ 1).trans rfl; have hcg2 := (blk_cell BKg_ 2).trans rfl; have hcg3 := (blk_cell BKg_ 3).trans rfl; have hcg4 := (blk_cell BKg_ 4).trans rfl; have hcs0 := (blk_cell BKs_ 0).trans rfl; have hcs1 := (blk_cell BKs_ 1).trans rfl; have hcs2 := (blk_cell BKs_ 2).trans rfl; have hcs3 := (blk_cell BKs_ 3).trans rfl; have hcs4 := (blk_cell BKs_ 4).trans rfl; have hcs5 := (blk_cell BKs_ 5).trans rfl; clear BKg_ BKs_))
 (first | go_end0 | ((try simp only [Exit.inBlock, Exit.then]); refine bodyPost_ret (results_none rfl _ _ _) rfl ?_))
 have hres : gate7 b s0 d a c s = (add0 ((b.wire (cl d)).wire (cl a)) c s (wIdx b.ws (cl d)) (wIdx (b.wire (cl d)).ws (cl a))).done := by unfold gate7; simp only; rw [if_pos (by simpa using hw.out)]
 rw [hres]
 exact ⟨rfl, BrdS.back H0.out HBgs.out HBgg.out HS.out (by omega)⟩
set_option maxHeartbeats 4000000 in
set_option maxRecDepth 100000 in
theorem gate71.calls (s0 s1 s2 s3 s4 : Int) (As : Option Addr) (ns cs : Nat) (d a c s : Int) {base n : Nat} {w0 w : World} {g : Nat} {b : Bd} (H : BrdS base w0 w g b n) (hn : n < 80000) (hw0 : (s0 == 0) = false) :
  Calls Try.prog 88 #[.pointer (some ⟨g, 0, none⟩), .agg #[.int .i64 s0, .int .i64 s1, .int .i64 s2, .int .i64 s3, .int .i64 s4, .slice As ns cs], .agg #[.int .i64 7, .int .i64 d, .int .i64 a, .int .i64 c, .int .i64 s]] w fun e w' => e = .returned (.tuple #[]) ∧ BrdS base w0 w' g (gate7 b s0 d a c s) (n + 60) := by
 have hw := Aside0.mk hw0; clear hw0
 have H0 := Aside0.mk H; clear H
 have hu24 := Try.underlying24; have hu105 := Try.underlying105; have hu76 := Try.underlying76; have hu74 := Try.underlying74; have hu118 := Try.underlying118
 go_enter Try.func88, Try.ntmps88
 go_wp2_with (first | ((with_reducible refine gate_dst (N := 4) rfl ?_); refine box_event rfl (N := 4) rfl (cs := #[.int .i64 s0, .int .i64 s1, .int .i64 s2, .int .i64 s3, .int .i64 s4, .slice As ns cs]) (t := 24) (by first | (go_simp; done) | (go_simp; rfl)) ?_; intro gs hgs wgs hbox hb; have BKgs := Aside0.mk hbox; have HBgs := Aside0.mk hb; clear hbox hb hgs; have hcs0 := (blk_cell BKgs.out 0).trans rfl; have hcs1 := (blk_cell BKgs.out 1).trans rfl; have hcs2 := (blk_cell BKgs.out 2).trans rfl; have hcs3 := (blk_cell BKgs.out 3).trans rfl; have hcs4 := (blk_cell BKgs.out 4).trans rfl; have hcs5 := (blk_cell BKgs.out 5).trans rfl) | ((with_reducible refine gate_dst (N := 5) rfl ?_); refine box_event rfl (N := 5) rfl (cs := #[.int .i64 7, .int .i64 d, .int .i64 a, .int .i64 c, .int .i64 s]) (t := 105) (by first | (go_simp; done) | (go_simp; rfl)) ?_; intro gg hgg wgg hbox hb; have BKgg := Aside0.mk hbox; have HBgg := Aside0.mk hb; clear hbox hb hgg; replace BKgs := Aside0.mk (blk_below BKgs.out HBgg.out); have HS := Aside0.mk (⟨(H0.out.brd.below HBgs.out).below HBgg.out, Below.refl _ _, H0.out.small, TK.refl _ _⟩ : BrdS base wgg wgg g b n); have NGg := Aside0.mk (HS.out.ne BKgg.out (by decide)); have NGs := Aside0.mk (HS.out.ne BKgs.out (by decide)); have hcg0 := (blk_cell BKgg.out 0).trans rfl; have hcg1 := (blk_cell BKgg.out 1).trans rfl; have hcg2 := (blk_cell BKgg.out 2).trans rfl; have hcg3 := (blk_cell BKgg.out 3).trans rfl; have hcg4 := (blk_cell BKgg.out 4).trans rfl; have hcs0 := (blk_cell BKgs.out 0).trans rfl; have hcs1 := (blk_cell BKgs.out 1).trans rfl; have hcs2 := (blk_cell BKgs.out 2).trans rfl; have hcs3 := (blk_cell BKgs.out 3).trans rfl; have hcs4 := (blk_cell BKgs.out 4).trans rfl; have hcs5 := (blk_cell BKgs.out 5).trans rfl) | (go_at_call 117; (with_reducible refine (circuit_turned.calls 7 0 _ rfl).mono ?_); rintro e w' ⟨rfl, ⟨nd, rfl⟩⟩; replace HS := Aside0.mk (HS.out.drewN nd); have BKg_ := HS.out.kept gg _ 105 BKgg.out (by decide) (by decide) (by decide) NGg.out; have BKs_ := HS.out.kept gs _ 24 BKgs.out (by decide) (by decide) (by decide) NGs.out; have hcg0 := (blk_cell BKg_ 0).trans rfl; have hcg1 := (blk_cell BKg_ 1).trans rfl; have hcg2 := (blk_cell BKg_ 2).trans rfl; have hcg3 := (blk_cell BKg_ 3).trans rfl; have hcg4 := (blk_cell BKg_ 4).trans rfl; have hcs0 := (blk_cell BKs_ 0).trans rfl; have hcs1 := (blk_cell BKs_ 1).trans rfl; have hcs2 := (blk_cell BKs_ 2).trans rfl; have hcs3 := (blk_cell BKs_ 3).trans rfl; have hcs4 := (blk_cell BKs_ 4).trans rfl; have hcs5 := (blk_cell BKs_ 5).trans rfl; clear BKg_ BKs_) | (go_at_call 113; (with_reducible refine (circuit_board_wire.calls (cl d) HS.out (by omega)).mono ?_); rintro e w' ⟨rfl, hb⟩; replace HS := Aside0.mk hb; clear hb; have BKg_ := HS.out.kept gg _ 105 BKgg.out (by decide) (by decide) (by decide) NGg.out; have BKs_ := HS.out.kept gs _ 24 BKgs.out (by decide) (by decide) (by decide) NGs.out; have hcg0 := (blk_cell BKg_ 0).trans rfl; have hcg1 := (blk_cell BKg_ 1).trans rfl; have hcg2 := (blk_cell BKg_ 2).trans rfl; have hcg3 := (blk_cell BKg_ 3).trans rfl; have hcg4 := (blk_cell BKg_ 4).trans rfl; have hcs0 := (blk_cell BKs_ 0).trans rfl; have hcs1 := (blk_cell BKs_ 1).trans rfl; have hcs2 := (blk_cell BKs_ 2).trans rfl; have hcs3 := (blk_cell BKs_ 3).trans rfl; have hcs4 := (blk_cell BKs_ 4).trans rfl; have hcs5 := (blk_cell BKs_ 5).trans rfl; clear BKg_ BKs_) | (go_at_call 113; (with_reducible refine (circuit_board_wire.calls (cl a) HS.out (by omega)).mono ?_); rintro e w' ⟨rfl, hb⟩; replace HS := Aside0.mk hb; clear hb; have BKg_ := HS.out.kept gg _ 105 BKgg.out (by decide) (by decide) (by decide) NGg.out; have BKs_ := HS.out.kept gs _ 24 BKgs.out (by decide) (by decide) (by decide) NGs.out; have hcg0 := (blk_cell BKg_ 0).trans rfl; have hcg1 := (blk_cell BKg_ 1).trans rfl; have hcg2 := (blk_cell BKg_ 2).trans rfl; have hcg3 := (blk_cell BKg_ 3).trans rfl; have hcg4 := (blk_cell BKg_ 4).trans rfl; have hcs0 := (blk_cell BKs_ 0).trans rfl; have hcs1 := (blk_cell BKs_ 1).trans rfl; have hcs2 := (blk_cell BKs_ 2).trans rfl; have hcs3 := (blk_cell BKs_ 3).trans rfl; have hcs4 := (blk_cell BKs_ 4).trans rfl; have hcs5 := (blk_cell BKs_ 5).trans rfl; clear BKg_ BKs_) | (go_at_call 120; (with_reducible refine (add1.calls s0 s1 s2 s3 s4 As ns cs d a c s _ _ HS.out (by omega) hw.out).mono ?_); rintro e w' ⟨rfl, hb⟩; replace HS := Aside0.mk hb; clear hb; have BKg_ := HS.out.kept gg _ 105 BKgg.out (by decide) (by decide) (by decide) NGg.out; have BKs_ := HS.out.kept gs _ 24 BKgs.out (by decide) (by decide) (by decide) NGs.out; have hcg0 := (blk_cell BKg_ 0).trans rfl; have hcg1 := (blk_cell BKg_ 1).trans rfl; have hcg2 := (blk_cell BKg_ 2).trans rfl; have hcg3 := (blk_cell BKg_ 3).trans rfl; have hcg4 := (blk_cell BKg_ 4).trans rfl; have hcs0 := (blk_cell BKs_ 0).trans rfl; have hcs1 := (blk_cell BKs_ 1).trans rfl; have hcs2 := (blk_cell BKs_ 2).trans rfl; have hcs3 := (blk_cell BKs_ 3).trans rfl; have hcs4 := (blk_cell BKs_ 4).trans rfl; have hcs5 := (blk_cell BKs_ 5).trans rfl; clear BKg_ BKs_) | (go_at_call 115; refine (circuit_board_v.calls _ HS.out (by omega)).mono ?_; rintro e w' ⟨rfl, hb⟩; replace HS := Aside0.mk hb; clear hb; have BKg_ := HS.out.kept gg _ 105 BKgg.out (by decide) (by decide) (by decide) NGg.out; have BKs_ := HS.out.kept gs _ 24 BKgs.out (by decide) (by decide) (by decide) NGs.out; have hcg0 := (blk_cell BKg_ 0).trans rfl; have hcg1 := (blk_cell BKg_ 1).trans rfl; have hcg2 := (blk_cell BKg_ 2).trans rfl; have hcg3 := (blk_cell BKg_ 3).trans rfl; have hcg4 := (blk_cell BKg_ 4).trans rfl; have hcs0 := (blk_cell BKs_ 0).trans rfl; have hcs1 := (blk_cell BKs_ 1).trans rfl; have hcs2 := (blk_cell BKs_ 2).trans rfl; have hcs3 := (blk_cell BKs_ 3).trans rfl; have hcs4 := (blk_cell BKs_ 4).trans rfl; have hcs5 := (blk_cell BKs_ 5).trans rfl; clear BKg_ BKs_) | (go_at_call 114; refine (circuit_board_sum.calls _ _ HS.out (by omega)).mono ?_; rintro e w' ⟨rfl, hb⟩; replace HS := Aside0.mk hb; clear hb; have BKg_ := HS.out.kept gg _ 105 BKgg.out (by decide) (by decide) (by decide) NGg.out; have BKs_ := HS.out.kept gs _ 24 BKgs.out (by decide) (by decide) (by decide) NGs.out; have hcg0 := (blk_cell BKg_ 0).trans rfl; have hcg1 := (blk_cell BKg_ 1).trans rfl; have hcg2 := (blk_cell BKg_ 2).trans rfl; have hcg3 := (blk_cell BKg_ 3).trans rfl; have hcg4 := (blk_cell BKg_ 4).trans rfl; have hcs0 := (blk_cell BKs_ 0).trans rfl; have hcs1 := (blk_cell BKs_ 1).trans rfl; have hcs2 := (blk_cell BKs_ 2).trans rfl; have hcs3 := (blk_cell BKs_ 3).trans rfl; have hcs4 := (blk_cell BKs_ 4).trans rfl; have hcs5 := (blk_cell BKs_ 5).trans rfl; clear BKg_ BKs_) | (go_at_call 119; refine (circuit_board_prod.calls _ _ HS.out (by omega)).mono ?_; rintro e w' ⟨rfl, hb⟩; replace HS := Aside0.mk hb; clear hb; have BKg_ := HS.out.kept gg _ 105 BKgg.out (by decide) (by decide) (by decide) NGg.out; have BKs_ := HS.out.kept gs _ 24 BKgs.out (by decide) (by decide) (by decide) NGs.out; have hcg0 := (blk_cell BKg_ 0).trans rfl; have hcg1 := (blk_cell BKg_ 1).trans rfl; have hcg2 := (blk_cell BKg_ 2).trans rfl; have hcg3 := (blk_cell BKg_ 3).trans rfl; have hcg4 := (blk_cell BKg_ 4).trans rfl; have hcs0 := (blk_cell BKs_ 0).trans rfl; have hcs1 := (blk_cell BKs_ 1).trans rfl; have hcs2 := (blk_cell BKs_ 2).trans rfl; have hcs3 := (blk_cell BKs_ 3).trans rfl; have hcs4 := (blk_cell BKs_ 4).trans rfl; have hcs5 := (blk_cell BKs_ 5).trans rfl; clear BKg_ BKs_) | (go_at_call 116; refine (circuit_board_done.calls  HS.out (by omega)).mono ?_; rintro e w' ⟨rfl, hb⟩; replace HS := Aside0.mk hb; clear hb; have BKg_ := HS.out.kept gg _ 105 BKgg.out (by decide) (by decide) (by decide) NGg.out; have BKs_ := HS.out.kept gs _ 24 BKgs.out (by decide) (by decide) (by decide) NGs.out; have hcg0 := (blk_cell BKg_ 0).trans rfl; have hcg1 := (blk_cell BKg_ 1).trans rfl; have hcg2 := (blk_cell BKg_ 2).trans rfl; have hcg3 := (blk_cell BKg_ 3).trans rfl; have hcg4 := (blk_cell BKg_ 4).trans rfl; have hcs0 := (blk_cell BKs_ 0).trans rfl; have hcs1 := (blk_cell BKs_ 1).trans rfl; have hcs2 := (blk_cell BKs_ 2).trans rfl; have hcs3 := (blk_cell BKs_ 3).trans rfl; have hcs4 := (blk_cell BKs_ 4).trans rfl; have hcs5 := (blk_cell BKs_ 5).trans rfl; clear BKg_ BKs_))
 (first | go_end0 | ((try simp only [Exit.inBlock, Exit.then]); refine bodyPost_ret (results_none rfl _ _ _) rfl ?_))
 have hres : gate7 b s0 d a c s = (add1 ((b.wire (cl d)).wire (cl a)) c s (wIdx b.ws (cl d)) (wIdx (b.wire (cl d)).ws (cl a))).done := by unfold gate7; simp only; rw [if_neg (by simpa using hw.out)]
 rw [hres]
 exact ⟨rfl, BrdS.back H0.out HBgs.out HBgg.out HS.out (by omega)⟩
/-- What a gate makes of the board. -/
def gateF (w : Int) (b : Bd) (g : S105) : Bd :=
 if g.f0 = 8 then gate8 b g.f1 g.f2 g.f3 g.f4 else if g.f0 = 7 then gate7 b w g.f1 g.f2 g.f3 g.f4 else if g.f0 = 3 then gate3 b g.f1 g.f2 g.f3 g.f4 else
 if g.f0 = 1 then gate1 b g.f1 g.f2 g.f3 g.f4 else if g.f0 = 2 then gate2 b g.f1 g.f2 g.f3 g.f4 else gateT b (g.f0 - 3) g.f1 g.f2 g.f3 g.f4
def gateAll (w : Int) (l : List S105) : Bd := l.foldl (gateF w) ⟨[], [], []⟩
theorem BrdS.more {base : Nat} {w0 w : World} {g : Nat} {b : Bd} {n m : Nat} (h : BrdS base w0 w g b n) (hm : n ≤ m) : BrdS base w0 w g b m := ⟨h.brd, h.below, h.small.mono hm, h.kept⟩
theorem circuit_board_gate.calls (s0 s1 s2 s3 s4 : Int) (As : Option Addr) (ns cs : Nat) (gt : S105) {base n : Nat} {w0 w : World} {g : Nat} {b : Bd} (H : BrdS base w0 w g b n) (hn : n < 80000) (h1 : 1 ≤ gt.f0) (h8 : gt.f0 ≤ 8) :
  Calls Try.prog 88 #[.pointer (some ⟨g, 0, none⟩), .agg #[.int .i64 s0, .int .i64 s1, .int .i64 s2, .int .i64 s3, .int .i64 s4, .slice As ns cs], .agg #[.int .i64 gt.f0, .int .i64 gt.f1, .int .i64 gt.f2, .int .i64 gt.f3, .int .i64 gt.f4]] w
   fun e w' => e = .returned (.tuple #[]) ∧ BrdS base w0 w' g (gateF s0 b gt) (n + 60) := by
 obtain ⟨f0, d, a, c, s⟩ := gt
 simp only at h1 h8 ⊢
 have hf : f0 = 1 ∨ f0 = 2 ∨ f0 = 3 ∨ f0 = 4 ∨ f0 = 5 ∨ f0 = 6 ∨ f0 = 7 ∨ f0 = 8 := by omega
 rcases hf with rfl | rfl | rfl | rfl | rfl | rfl | rfl | rfl
 ·exact (gate1.calls s0 s1 s2 s3 s4 As ns cs d a c s H (by omega)).mono fun e w' h => ⟨h.1, h.2.more (by omega)⟩
 ·exact (gate2.calls s0 s1 s2 s3 s4 As ns cs d a c s H (by omega)).mono fun e w' h => ⟨h.1, h.2.more (by omega)⟩
 ·exact (gate3.calls s0 s1 s2 s3 s4 As ns cs d a c s H (by omega)).mono fun e w' h => ⟨h.1, h.2.more (by omega)⟩
 ·exact (gate4.calls s0 s1 s2 s3 s4 As ns cs d a c s H (by omega)).mono fun e w' h => ⟨h.1, h.2.more (by omega)⟩
 ·exact (gate5.calls s0 s1 s2 s3 s4 As ns cs d a c s H (by omega)).mono fun e w' h => ⟨h.1, h.2.more (by omega)⟩
 ·exact (gate6.calls s0 s1 s2 s3 s4 As ns cs d a c s H (by omega)).mono fun e w' h => ⟨h.1, h.2.more (by omega)⟩
 ·by_cases h : s0 = 0
  ·exact (gate70.calls s0 s1 s2 s3 s4 As ns cs d a c s H (by omega) (by simpa using h)).mono fun e w' h => ⟨h.1, h.2.more (by omega)⟩
  ·exact (gate71.calls s0 s1 s2 s3 s4 As ns cs d a c s H (by omega) (by simpa using h)).mono fun e w' h => ⟨h.1, h.2.more (by omega)⟩
 ·exact (gate8.calls s0 s1 s2 s3 s4 As ns cs d a c s H (by omega)).mono fun e w' h => ⟨h.1, h.2.more (by omega)⟩
end Go.Proofs.Ythiiodgpdoljoaa.PLc
namespace Go.Proofs.Ythiiodgpdoljoaa.Pure
open Go.RowKit Go.Proofs.Ythiiodgpdoljoaa.PLc Go.Proofs.YthiiodgpdoljoaaW.PrintWords Go.Proofs.YthiiodgpdoljoaaW.PrintLast
set_option linter.unusedVariables false
set_option linter.unusedSimpArgs false
def own (w : Int) (g : S105) : List S76 :=
  if g.f0 = 8 then [cl g.f2, cl g.f3] else if 4 ≤ g.f0 ∧ g.f0 ≤ 6 then [cl g.f1, clk g.f2 (g.f0 - 3) g.f4] else if g.f0 = 3 then [cl g.f1, cl g.f2] else
  if g.f0 = 7 ∧ w ≠ 0 then [cl g.f1, cl g.f2, cl g.f3, cl g.f4, clk g.f4 1 1] else if g.f0 = 7 then [cl g.f1, cl g.f2, cl g.f3, cl g.f4] else [cl g.f1, cl g.f2, cl g.f3]
def at_ (w : List Int) (i : Nat) : Int := w.getD i 0
def conds (wide : Int) (g : S105) (w : List Int) : List (List S118) :=
  if g.f0 = 8 ∨ (4 ≤ g.f0 ∧ g.f0 ≤ 6) then [[opV (at_ w 0), opV (at_ w 1), opS 0 1]] else if g.f0 = 3 then [[opV (at_ w 0), opV (at_ w 1), opS 0 1, ⟨1, 0, 0, ⟨0, 1⟩⟩, opS 2 3]] else
  if g.f0 = 1 then [[opV (at_ w 0), opV (at_ w 1), opS 0 1, opV (at_ w 2), opS 2 3]] else if g.f0 = 2 then [[opV (at_ w 0), opV (at_ w 1), opV (at_ w 2), opP 1 2, opS 0 3]] else
  if wide = 0 then [[opV (at_ w 0), opV (at_ w 1), opS 0 1, opV (at_ w 2), opS 2 3], [opV (at_ w 3), opV (at_ w 1), opV (at_ w 2), opP 1 2, opS 0 3]] else
  [[opV (at_ w 0), opV (at_ w 1), opS 0 1, opV (at_ w 2), opS 2 3, opV (at_ w 4), opS 4 5], [opV (at_ w 3), opV (at_ w 1), opV (at_ w 2), opP 1 2, opS 0 3, opV (at_ w 4), opV (at_ w 1), opV (at_ w 2), opS 6 7, opP 5 8, opS 4 9]]
def idxs (ws : List S76) : List S76 → List Int
  | [] => []
  | x :: xs => (wIdx ws x : Int) :: idxs (wAdd ws x) xs
theorem gate_own (w : Int) (b : Bd) (g : S105) (hl : b.l = []) (h1 : 1 ≤ g.f0) (h8 : g.f0 ≤ 8) :
    gateF w b g = ⟨(own w g).foldl wAdd b.ws, b.cs ++ conds w g (idxs b.ws (own w g)), []⟩ := by
  obtain ⟨f0, f1, f2, f3, f4⟩ := g
  obtain ⟨ws, cs, l⟩ := b
  simp only at h1 h8 hl
  subst hl
  have hf : f0 = 1 ∨ f0 = 2 ∨ f0 = 3 ∨ f0 = 4 ∨ f0 = 5 ∨ f0 = 6 ∨ f0 = 7 ∨ f0 = 8 := by omega
  rcases hf with rfl | rfl | rfl | rfl | rfl | rfl | rfl | rfl
  case inr.inr.inr.inr.inr.inr.inl =>
    by_cases hw : w = 0
    · simp [gateF, gate7, add0, own, conds, idxs, at_, Bd.wire, Bd.put, Bd.done, opV, opS, opP, hw]
    · simp [gateF, gate7, add1, own, conds, idxs, at_, Bd.wire, Bd.put, Bd.done, opV, opS, opP, hw]
  all_goals simp [gateF, gate1, gate2, gate3, gateT, gate8, own, conds, idxs, at_, Bd.wire, Bd.put, Bd.done, opV, opS, opP]
/-! The numbers of wires stay. -/
theorem wIdx_ext {ws : List S76} {x : S76} (t : List S76) (h : wIdx ws x < ws.length) : wIdx (ws ++ t) x = wIdx ws x := by
  unfold wIdx at *
  rw [List.findIdx_append, if_pos h]
theorem eq76_refl (x : S76) : eq76 x x = true := by simp [eq76]
theorem wIdx_add (ws : List S76) (x : S76) : wIdx (wAdd ws x) x = wIdx ws x ∧ wIdx ws x < (wAdd ws x).length := by
  unfold wAdd
  by_cases h : wIdx ws x < ws.length
  · rw [if_pos h]; exact ⟨rfl, h⟩
  · rw [if_neg h]
    have he : wIdx ws x = ws.length := by
      have := List.findIdx_le_length (p := eq76 x) (xs := ws)
      unfold wIdx at *
      omega
    refine ⟨?_, by simp; omega⟩
    unfold wIdx at he ⊢
    rw [List.findIdx_append, if_neg (by omega)]
    simp [List.findIdx_cons, eq76_refl, he]
theorem wAdd_ext (ws : List S76) (x : S76) : ∃ t, wAdd ws x = ws ++ t := by
  unfold wAdd
  split
  · exact ⟨[], by simp⟩
  · exact ⟨[x], rfl⟩
theorem fold_ext (xs : List S76) : ∀ ws : List S76, ∃ t, xs.foldl wAdd ws = ws ++ t := by
  induction xs with
  | nil => exact fun ws => ⟨[], by simp⟩
  | cons x xs ih =>
    intro ws
    obtain ⟨t1, h1⟩ := wAdd_ext ws x
    obtain ⟨t2, h2⟩ := ih (wAdd ws x)
    exact ⟨t1 ++ t2, by rw [List.foldl_cons, h2, h1, List.append_assoc]⟩
theorem idxs_final (xs : List S76) : ∀ (ws : List S76) (t : List S76), idxs ws xs = xs.map (fun x => (wIdx (xs.foldl wAdd ws ++ t) x : Int)) := by
  induction xs with
  | nil => exact fun _ _ => rfl
  | cons x xs ih =>
    intro ws t
    rw [List.map_cons, List.foldl_cons]
    have h := wIdx_add ws x
    obtain ⟨t2, h2⟩ := fold_ext xs (wAdd ws x)
    simp only [idxs]
    rw [ih (wAdd ws x) t]
    congr 1
    rw [h2, List.append_assoc, wIdx_ext _ (by rw [h.1]; exact h.2), h.1]
def wiresOf (w : Int) (l : List S105) (ws : List S76) : List S76 := l.foldl (fun ws g => (own w g).foldl wAdd ws) ws
theorem wiresOf_ext (w : Int) (l : List S105) : ∀ ws : List S76, ∃ t, wiresOf w l ws = ws ++ t := by
  induction l with
  | nil => exact fun ws => ⟨[], by simp [wiresOf]⟩
  | cons g l ih =>
    intro ws
    obtain ⟨t1, h1⟩ := fold_ext (own w g) ws
    obtain ⟨t2, h2⟩ := ih ((own w g).foldl wAdd ws)
    exact ⟨t1 ++ t2, by unfold wiresOf at h2 ⊢; rw [List.foldl_cons, h2, h1, List.append_assoc]⟩
theorem gates_own (w : Int) (l : List S105) : ∀ (b : Bd), b.l = [] → (∀ g ∈ l, 1 ≤ g.f0 ∧ g.f0 ≤ 8) →
    l.foldl (gateF w) b = ⟨wiresOf w l b.ws, b.cs ++ l.flatMap (fun g => conds w g ((own w g).map (fun x => (wIdx (wiresOf w l b.ws) x : Int)))), []⟩ := by
  induction l with
  | nil => intro b hb _; obtain ⟨ws, cs, l⟩ := b; simp only at hb; subst hb; simp [wiresOf]
  | cons g l ih =>
    intro b hb hk
    have hg := hk g (by simp)
    rw [List.foldl_cons, gate_own w b g hb hg.1 hg.2, ih _ rfl (fun g' hg' => hk g' (by simp [hg']))]
    have hw : wiresOf w (g :: l) b.ws = wiresOf w l ((own w g).foldl wAdd b.ws) := rfl
    obtain ⟨t, ht⟩ := wiresOf_ext w l ((own w g).foldl wAdd b.ws)
    rw [hw, List.flatMap_cons, List.append_assoc]
    congr 2
    rw [idxs_final (own w g) b.ws t, ← ht]
theorem gateAll_own (w : Int) (l : List S105) (hk : ∀ g ∈ l, 1 ≤ g.f0 ∧ g.f0 ≤ 8) :
    gateAll w l = ⟨wiresOf w l [], l.flatMap (fun g => conds w g ((own w g).map (fun x => (wIdx (wiresOf w l []) x : Int)))), []⟩ := by
  unfold gateAll
  rw [gates_own w l ⟨[], [], []⟩ rfl hk]
  simp
end Go.Proofs.Ythiiodgpdoljoaa.Pure
namespace Go.Proofs.Ythiiodgpdoljoaa.PLc
open Go.RowKit Go.Proofs.YthiiodgpdoljoaaW.PrintWords Go.Proofs.YthiiodgpdoljoaaW.PrintLast Go.Proofs.YthiiodgpdoljoaaW.PrintMore
attribute [local go_sem] max2_int min2_int max_two min_two max_three min_three max_four min_four   -- for this text's walks alone
set_option linter.unusedVariables false
set_option linter.unusedSimpArgs false
/-! ### steepleref25_System_Own: function 61 -/
def steepleref25_System_Own.j0 : Nat → Bool → Int → Int → Int → Int → Int → Option ((List (S47)))
 | 0, _, _, _, _, _, _ => none
 | k + 1, x47, x166000, x166001, x166002, x166003, x166004 => if x47 = true then (some (([(⟨x166001, 0, 0, (⟨0, 0⟩ : S45)⟩ : S47), (⟨x166002, 0, 0, (⟨0, 0⟩ : S45)⟩ : S47), (⟨x166003, 0, 0, (⟨0, 0⟩ : S45)⟩ : S47), (⟨x166004, 0, 0, (⟨0, 0⟩ : S45)⟩ : S47), (⟨x166004, 1, 1, (⟨0, 0⟩ : S45)⟩ : S47)] : List (S47)))) else (if x166000 = 7 then (some (([(⟨x166001, 0, 0, (⟨0, 0⟩ : S45)⟩ : S47), (⟨x166002, 0, 0, (⟨0, 0⟩ : S45)⟩ : S47), (⟨x166003, 0, 0, (⟨0, 0⟩ : S45)⟩ : S47), (⟨x166004, 0, 0, (⟨0, 0⟩ : S45)⟩ : S47)] : List (S47)))) else (some (([(⟨x166001, 0, 0, (⟨0, 0⟩ : S45)⟩ : S47), (⟨x166002, 0, 0, (⟨0, 0⟩ : S45)⟩ : S47), (⟨x166003, 0, 0, (⟨0, 0⟩ : S45)⟩ : S47)] : List (S47)))))
def steepleref25_System_Own.f (k : Nat) (a0_0 : Int) (a0_1 : Int) (a0_2 : Int) (a0_3 : Int) (a0_4 : Int) (l0_5 : List (S106)) (a1_0 : Int) (a1_1 : Int) (a1_2 : Int) (a1_3 : Int) (a1_4 : Int) : Option ((List (S47))) := if a1_0 = 8 then (some (([(⟨a1_2, 0, 0, (⟨0, 0⟩ : S45)⟩ : S47), (⟨a1_3, 0, 0, (⟨0, 0⟩ : S45)⟩ : S47)] : List (S47)))) else ((steepleref25_shifts.f a1_0).bind fun t169 => (if t169 = true then (some (([(⟨a1_1, 0, 0, (⟨0, 0⟩ : S45)⟩ : S47), (⟨a1_2, wrap64 (a1_0 - 3), a1_4, (⟨0, 0⟩ : S45)⟩ : S47)] : List (S47)))) else (if a1_0 = 3 then (some (([(⟨a1_1, 0, 0, (⟨0, 0⟩ : S45)⟩ : S47), (⟨a1_2, 0, 0, (⟨0, 0⟩ : S45)⟩ : S47)] : List (S47)))) else (if a1_0 = 7 then (steepleref25_System_Own.j0 k (decide (a0_0 > 0)) a1_0 a1_1 a1_2 a1_3 a1_4) else (steepleref25_System_Own.j0 k false a1_0 a1_1 a1_2 a1_3 a1_4)))))
theorem steepleref25_System_Own.mono_l : ∀ k, (∀ y0 y1 y2 y3 y4 y5, LeO (steepleref25_System_Own.j0 k y0 y1 y2 y3 y4 y5) (steepleref25_System_Own.j0 (k + 1) y0 y1 y2 y3 y4 y5))
 | 0 => fun _ _ _ _ _ _ r h => by simp [steepleref25_System_Own.j0] at h
 | k + 1 => by
  have ih0 := steepleref25_System_Own.mono_l k
  ·intro y0 y1 y2 y3 y4 y5
   unfold steepleref25_System_Own.j0
   repeat' first
   | (with_reducible exact ih0 _ _ _ _ _ _)
   | (with_reducible exact LeO.refl _)
   | (with_reducible exact LeO.none _)
   | (with_reducible refine LeO.ite ?_ ?_)
   | (with_reducible refine LeO.bind ?_ (fun _ => ?_))
   | exact ih0 _ _ _ _ _ _
   | exact LeO.none _
   | refine LeO.ite ?_ ?_
   | refine LeO.bind ?_ (fun _ => ?_)
theorem steepleref25_System_Own.mono : ∀ a0 a1 a2 a3 a4 a5 a6 a7 a8 a9 a10 k, LeO (steepleref25_System_Own.f k a0 a1 a2 a3 a4 a5 a6 a7 a8 a9 a10) (steepleref25_System_Own.f (k + 1) a0 a1 a2 a3 a4 a5 a6 a7 a8 a9 a10) := by
 intro a0 a1 a2 a3 a4 a5 a6 a7 a8 a9 a10 k
 have ih0 := steepleref25_System_Own.mono_l k
 unfold steepleref25_System_Own.f
 repeat' first
   | (with_reducible exact ih0 _ _ _ _ _ _)
   | (with_reducible exact LeO.refl _)
   | (with_reducible exact LeO.none _)
   | (with_reducible refine LeO.ite ?_ ?_)
   | (with_reducible refine LeO.bind ?_ (fun _ => ?_))
   | exact ih0 _ _ _ _ _ _
   | exact LeO.none _
   | refine LeO.ite ?_ ?_
   | refine LeO.bind ?_ (fun _ => ?_)
set_option maxHeartbeats 8000000 in
set_option maxRecDepth 100000 in
theorem steepleref25_System_Own.calls (k : Nat) (a0_0 : Int) (a0_1 : Int) (a0_2 : Int) (a0_3 : Int) (a0_4 : Int) (A0_5 : Option Addr) (c0_5 : Nat) (l0_5 : List (S106)) (a1_0 : Int) (a1_1 : Int) (a1_2 : Int) (a1_3 : Int) (a1_4 : Int) (r : List (S47)) (w : World) (hr0_5 : Kd.C k106 w A0_5 l0_5.length l0_5) (hc0_5 : l0_5.length ≤ c0_5) (h : steepleref25_System_Own.f k a0_0 a0_1 a0_2 a0_3 a0_4 l0_5 a1_0 a1_1 a1_2 a1_3 a1_4 = some r) :
  Calls Try.prog 61 #[.agg #[.int .i64 a0_0, .int .i64 a0_1, .int .i64 a0_2, .int .i64 a0_3, .int .i64 a0_4, .slice A0_5 l0_5.length c0_5], .agg #[.int .i64 a1_0, .int .i64 a1_1, .int .i64 a1_2, .int .i64 a1_3, .int .i64 a1_4]] w fun e w' => ∃ v0_ : Value, e = .returned (v0_) ∧ Kd.R k47 47 w' w.heap.size (fun _ => True) v0_ r ∧ Below w.heap.size w w' := by
 have hu28 := Try.underlying28; have hu106 := Try.underlying106; have hu47 := Try.underlying47; have HR0_5 := Aside0.mk hr0_5; have HC0_5 := Aside0.mk hc0_5; clear hr0_5 hc0_5; have HB := Aside0.mk (Below.refl w.heap.size w)
 have H : (if a1_0 = 8 then (some (([(⟨a1_2, 0, 0, (⟨0, 0⟩ : S45)⟩ : S47), (⟨a1_3, 0, 0, (⟨0, 0⟩ : S45)⟩ : S47)] : List (S47)))) else ((steepleref25_shifts.f a1_0).bind fun t169 => (if t169 = true then (some (([(⟨a1_1, 0, 0, (⟨0, 0⟩ : S45)⟩ : S47), (⟨a1_2, wrap64 (a1_0 - 3), a1_4, (⟨0, 0⟩ : S45)⟩ : S47)] : List (S47)))) else (if a1_0 = 3 then (some (([(⟨a1_1, 0, 0, (⟨0, 0⟩ : S45)⟩ : S47), (⟨a1_2, 0, 0, (⟨0, 0⟩ : S45)⟩ : S47)] : List (S47)))) else (if a1_0 = 7 then (steepleref25_System_Own.j0 k (decide (a0_0 > 0)) a1_0 a1_1 a1_2 a1_3 a1_4) else (steepleref25_System_Own.j0 k false a1_0 a1_1 a1_2 a1_3 a1_4)))))) = some r := h
 clear h
 by_cases c3 : a1_0 = 8
 ·rw [if_pos c3] at H
  have c3b0 : (a1_0 == 8) = true := beq_iff_eq.mpr c3; have c3b1 : (a1_0 != 8) = false := bne_eq_false_iff_eq.mpr c3; clear c3
  obtain ⟨y166, hy166⟩ : ∃ y_ : List (S47), y_ = (([(⟨a1_2, 0, 0, (⟨0, 0⟩ : S45)⟩ : S47), (⟨a1_3, 0, 0, (⟨0, 0⟩ : S45)⟩ : S47)] : List (S47))) := ⟨_, rfl⟩
  replace H : (some y166) = some r := by first | (rw [hy166]; with_reducible exact H) | (have H2_ := (Option.bind_some _ _).symm.trans H; rw [hy166]; with_reducible exact H2_) | (have H2_ := (Option.bind_some _ _).symm.trans H; with_reducible exact H2_) | with_reducible exact H | (rw [hy166]; exact H) | exact H
  have Ny166 := Aside0.mk hy166; clear hy166; obtain rfl := Option.some.inj H
  go_enter Try.func61, Try.ntmps61
  go_wp2_with (first | ((with_reducible refine gate_dst (N := 2) rfl ?_); refine box_event ?hg (N := 2) ?hd (cs := #[.int .i64 a0_0, .int .i64 a0_1, .int .i64 a0_2, .int .i64 a0_3, .int .i64 a0_4, .slice A0_5 l0_5.length c0_5]) (t := 28) ?hr ?_; (case hd => rfl); (case hg => rfl); (case hr => first | (go_simp; done) | (go_simp; rfl)); intro gb164 hg w4 hbox hb; have n0_ := Aside0.mk (below_step (blA HB.out) hb); have n1_ := Aside0.mk (hbox); have n2_ := Aside0.mk ((by rw [hg]; exact (below_size (blA HB.out)) : w.heap.size ≤ gb164)); have n3_ := Aside0.mk ((by rw [hg]; exact (below_size (blA HB.out)) : w.heap.size ≤ gb164)); clear HB; have HB := n0_; have BK164 := n1_; have GW164 := n2_; have GE164 := n3_; clear n0_ n1_ n2_ n3_; clear hb hbox hg) | ((with_reducible refine gate_dst (N := 3) rfl ?_); refine box_event ?hg (N := 3) ?hd (cs := #[.int .i64 a1_0, .int .i64 a1_1, .int .i64 a1_2, .int .i64 a1_3, .int .i64 a1_4]) (t := 106) ?hr ?_; (case hd => rfl); (case hg => rfl); (case hr => first | (go_simp; done) | (go_simp; rfl)); intro gb165 hg w5 hbox hb; have n0_ := Aside0.mk (blk_below (bkA BK164.out) hb); have n1_ := Aside0.mk (below_step (blA HB.out) hb); have n2_ := Aside0.mk (hbox); have n3_ := Aside0.mk ((by rw [hg]; exact (below_size (blA HB.out)) : w.heap.size ≤ gb165)); have n4_ := Aside0.mk ((by rw [hg]; exact (below_size (blA HB.out)) : w.heap.size ≤ gb165)); have n5_ := Aside0.mk ((by rw [hg]; exact Nat.ne_of_lt (blk_lt (bkA BK164.out)) : gb164 ≠ gb165)); have n6_ := Aside0.mk ((by rw [hg]; exact Nat.ne_of_gt (blk_lt (bkA BK164.out)) : gb165 ≠ gb164)); clear BK164; clear HB; have BK164 := n0_; have HB := n1_; have BK165 := n2_; have GW165 := n3_; have GE165 := n4_; have NB164_165 := n5_; have NB165_164 := n6_; clear n0_ n1_ n2_ n3_ n4_ n5_ n6_; clear hb hbox hg; have hnb6 := NB165_164.out; have hnc6 := NB164_165.out; have hcz7 := fun i => blk_cell BK165.out i; have hfz7 := fun i => blk_frozen BK165.out i; ) | ((with_reducible refine gate_dst (N := 14) rfl ?_); refine Kd.R_lit k47 _ 47 ?hg (N := 14) ?hd (xs := ([(⟨a1_2, 0, 0, (⟨0, 0⟩ : S45)⟩ : S47), (⟨a1_3, 0, 0, (⟨0, 0⟩ : S45)⟩ : S47)] : List (S47))) (inner := [.int .i64 a1_2, .int .i64 0, .int .i64 0, .int .u64 0, .int .u64 0, .int .i64 a1_3, .int .i64 0, .int .i64 0, .int .u64 0, .int .u64 0]) (ok := fun _ => True) (okp := fun _ => True) ?hr ?hp (fun _ hk => hk) trivial (Below.refl _ _) (Nat.le_refl _) (by simp) ?_; (case hd => rfl); (case hg => rfl); (case hr => first | (go_simp; done) | (go_simp; rfl)); (case hp => exact (Reps.c5 (show Kd.M k47 _ _ _ (⟨a1_2, 0, 0, (⟨0, 0⟩ : S45)⟩ : S47) [.int .i64 a1_2, .int .i64 0, .int .i64 0, .int .u64 0, .int .u64 0] from (k47_mkM _ _ _ (⟨a1_2, 0, 0, (⟨0, 0⟩ : S45)⟩ : S47) )) (Reps.c5 (show Kd.M k47 _ _ _ (⟨a1_3, 0, 0, (⟨0, 0⟩ : S45)⟩ : S47) [.int .i64 a1_3, .int .i64 0, .int .i64 0, .int .u64 0, .int .u64 0] from (k47_mkM _ _ _ (⟨a1_3, 0, 0, (⟨0, 0⟩ : S45)⟩ : S47) )) (Reps.none _ _)))); intro v167 w8 ho9 hb hg_ hnew_; clear hg_ hnew_; (first | rw [← Ny166.out] at ho9 | (simp only [Int.reduceToNat] at ho9; rw [← Ny166.out] at ho9)); have n0_ := Aside0.mk (Kd.R_lower ho9 (below_size (blA HB.out))); have n1_ := Aside0.mk (blk_below (bkA BK164.out) hb); have n2_ := Aside0.mk (blk_below (bkA BK165.out) hb); have n3_ := Aside0.mk (below_step (blA HB.out) hb); clear BK164; clear BK165; clear HB; have HO168 := n0_; have BK164 := n1_; have BK165 := n2_; have HB := n3_; clear n0_ n1_ n2_ n3_; clear hb ho9))
  go_ret
  exact ⟨_, by first | rfl | (simp [errW_none, errW_some] <;> rfl) | (simp [*, errW_none, errW_some] <;> rfl), raA HO168.out, blA HB.out⟩
 ·rw [if_neg c3] at H
  have c3b0 : (a1_0 == 8) = false := beq_eq_false_iff_ne.mpr c3; have c3b1 : (a1_0 != 8) = true := bne_iff_ne.mpr c3; replace H := Option.bind_eq_some_iff.mp H; obtain ⟨t169, A100, H⟩ := H
  (try dsimp only at H)
  have A10 := Aside0.mk A100; clear A100
  by_cases c11 : t169 = true
  ·subst c11
   have H1 : (some (([(⟨a1_1, 0, 0, (⟨0, 0⟩ : S45)⟩ : S47), (⟨a1_2, wrap64 (a1_0 - 3), a1_4, (⟨0, 0⟩ : S45)⟩ : S47)] : List (S47)))) = some r := by rw [if_pos rfl] at H; exact H
   clear H; have H := H1; clear H1
   obtain ⟨y170, hy170⟩ : ∃ y_ : List (S47), y_ = (([(⟨a1_1, 0, 0, (⟨0, 0⟩ : S45)⟩ : S47), (⟨a1_2, wrap64 (a1_0 - 3), a1_4, (⟨0, 0⟩ : S45)⟩ : S47)] : List (S47))) := ⟨_, rfl⟩
   replace H : (some y170) = some r := by first | (rw [hy170]; with_reducible exact H) | (have H2_ := (Option.bind_some _ _).symm.trans H; rw [hy170]; with_reducible exact H2_) | (have H2_ := (Option.bind_some _ _).symm.trans H; with_reducible exact H2_) | with_reducible exact H | (rw [hy170]; exact H) | exact H
   have Ny170 := Aside0.mk hy170; clear hy170; obtain rfl := Option.some.inj H
   go_enter Try.func61, Try.ntmps61
   go_wp2_with (first | ((with_reducible refine gate_dst (N := 2) rfl ?_); refine box_event ?hg (N := 2) ?hd (cs := #[.int .i64 a0_0, .int .i64 a0_1, .int .i64 a0_2, .int .i64 a0_3, .int .i64 a0_4, .slice A0_5 l0_5.length c0_5]) (t := 28) ?hr ?_; (case hd => rfl); (case hg => rfl); (case hr => first | (go_simp; done) | (go_simp; rfl)); intro gb164 hg w12 hbox hb; have n0_ := Aside0.mk (below_step (blA HB.out) hb); have n1_ := Aside0.mk (hbox); have n2_ := Aside0.mk ((by rw [hg]; exact (below_size (blA HB.out)) : w.heap.size ≤ gb164)); have n3_ := Aside0.mk ((by rw [hg]; exact (below_size (blA HB.out)) : w.heap.size ≤ gb164)); clear HB; have HB := n0_; have BK164 := n1_; have GW164 := n2_; have GE164 := n3_; clear n0_ n1_ n2_ n3_; clear hb hbox hg) | ((with_reducible refine gate_dst (N := 3) rfl ?_); refine box_event ?hg (N := 3) ?hd (cs := #[.int .i64 a1_0, .int .i64 a1_1, .int .i64 a1_2, .int .i64 a1_3, .int .i64 a1_4]) (t := 106) ?hr ?_; (case hd => rfl); (case hg => rfl); (case hr => first | (go_simp; done) | (go_simp; rfl)); intro gb165 hg w13 hbox hb; have n0_ := Aside0.mk (blk_below (bkA BK164.out) hb); have n1_ := Aside0.mk (below_step (blA HB.out) hb); have n2_ := Aside0.mk (hbox); have n3_ := Aside0.mk ((by rw [hg]; exact (below_size (blA HB.out)) : w.heap.size ≤ gb165)); have n4_ := Aside0.mk ((by rw [hg]; exact (below_size (blA HB.out)) : w.heap.size ≤ gb165)); have n5_ := Aside0.mk ((by rw [hg]; exact Nat.ne_of_lt (blk_lt (bkA BK164.out)) : gb164 ≠ gb165)); have n6_ := Aside0.mk ((by rw [hg]; exact Nat.ne_of_gt (blk_lt (bkA BK164.out)) : gb165 ≠ gb164)); clear BK164; clear HB; have BK164 := n0_; have HB := n1_; have BK165 := n2_; have GW165 := n3_; have GE165 := n4_; have NB164_165 := n5_; have NB165_164 := n6_; clear n0_ n1_ n2_ n3_ n4_ n5_ n6_; clear hb hbox hg; have hnb14 := NB165_164.out; have hnc14 := NB164_165.out; have hcz15 := fun i => blk_cell BK165.out i; have hfz15 := fun i => blk_frozen BK165.out i; ) | ((with_reducible refine gate_callee (f := 90) rfl ?_); refine goesL_ (some 17) rfl rfl Try.func90 (by kernel_rfl) rfl #[.int .i64 a1_0] rfl gsA ?_; (with_reducible refine (steepleref25_shifts.calls a1_0 true _ A10.out).mono ?_); rintro e w' ⟨rfl, ⟨nd, rfl⟩⟩; refine ⟨_, rfl, ?_⟩) | ((with_reducible refine gate_dst (N := 29) rfl ?_); refine Kd.R_lit k47 _ 47 ?hg (N := 29) ?hd (xs := ([(⟨a1_1, 0, 0, (⟨0, 0⟩ : S45)⟩ : S47), (⟨a1_2, wrap64 (a1_0 - 3), a1_4, (⟨0, 0⟩ : S45)⟩ : S47)] : List (S47))) (inner := [.int .i64 a1_1, .int .i64 0, .int .i64 0, .int .u64 0, .int .u64 0, .int .i64 a1_2, .int .i64 (wrap64 (a1_0 - 3)), .int .i64 a1_4, .int .u64 0, .int .u64 0]) (ok := fun _ => True) (okp := fun _ => True) ?hr ?hp (fun _ hk => hk) trivial (Below.refl _ _) (Nat.le_refl _) (by simp) ?_; (case hd => rfl); (case hg => rfl); (case hr => first | (go_simp; done) | (go_simp; rfl)); (case hp => exact (Reps.c5 (show Kd.M k47 _ _ _ (⟨a1_1, 0, 0, (⟨0, 0⟩ : S45)⟩ : S47) [.int .i64 a1_1, .int .i64 0, .int .i64 0, .int .u64 0, .int .u64 0] from (k47_mkM _ _ _ (⟨a1_1, 0, 0, (⟨0, 0⟩ : S45)⟩ : S47) )) (Reps.c5 (show Kd.M k47 _ _ _ (⟨a1_2, wrap64 (a1_0 - 3), a1_4, (⟨0, 0⟩ : S45)⟩ : S47) [.int .i64 a1_2, .int .i64 (wrap64 (a1_0 - 3)), .int .i64 a1_4, .int .u64 0, .int .u64 0] from (k47_mkM _ _ _ (⟨a1_2, wrap64 (a1_0 - 3), a1_4, (⟨0, 0⟩ : S45)⟩ : S47) )) (Reps.none _ _)))); intro v171 w16 ho17 hb hg_ hnew_; clear hg_ hnew_; (first | rw [← Ny170.out] at ho17 | (simp only [Int.reduceToNat] at ho17; rw [← Ny170.out] at ho17)); have n0_ := Aside0.mk (Kd.R_lower ho17 (below_size (blA HB.out))); have n1_ := Aside0.mk (blk_below (bkA BK164.out) hb); have n2_ := Aside0.mk (blk_below (bkA BK165.out) hb); have n3_ := Aside0.mk (below_step (blA HB.out) hb); clear BK164; clear BK165; clear HB; have HO172 := n0_; have BK164 := n1_; have BK165 := n2_; have HB := n3_; clear n0_ n1_ n2_ n3_; clear hb ho17))
   go_ret
   exact ⟨_, by first | rfl | (simp [errW_none, errW_some] <;> rfl) | (simp [*, errW_none, errW_some] <;> rfl), raA HO172.out, blA HB.out⟩
  ·replace c11 := Bool.eq_false_iff.mpr c11; subst c11
   have H1 : (if a1_0 = 3 then (some (([(⟨a1_1, 0, 0, (⟨0, 0⟩ : S45)⟩ : S47), (⟨a1_2, 0, 0, (⟨0, 0⟩ : S45)⟩ : S47)] : List (S47)))) else (if a1_0 = 7 then (steepleref25_System_Own.j0 k (decide (a0_0 > 0)) a1_0 a1_1 a1_2 a1_3 a1_4) else (steepleref25_System_Own.j0 k false a1_0 a1_1 a1_2 a1_3 a1_4))) = some r := by rw [if_neg (show ¬ (false = true) by decide)] at H; exact H
   clear H; have H := H1; clear H1
   by_cases c18 : a1_0 = 3
   ·rw [if_pos c18] at H
    have c18b0 : (a1_0 == 3) = true := beq_iff_eq.mpr c18; have c18b1 : (a1_0 != 3) = false := bne_eq_false_iff_eq.mpr c18; clear c18
    obtain ⟨y173, hy173⟩ : ∃ y_ : List (S47), y_ = (([(⟨a1_1, 0, 0, (⟨0, 0⟩ : S45)⟩ : S47), (⟨a1_2, 0, 0, (⟨0, 0⟩ : S45)⟩ : S47)] : List (S47))) := ⟨_, rfl⟩
    replace H : (some y173) = some r := by first | (rw [hy173]; with_reducible exact H) | (have H2_ := (Option.bind_some _ _).symm.trans H; rw [hy173]; with_reducible exact H2_) | (have H2_ := (Option.bind_some _ _).symm.trans H; with_reducible exact H2_) | with_reducible exact H | (rw [hy173]; exact H) | exact H
    have Ny173 := Aside0.mk hy173; clear hy173; obtain rfl := Option.some.inj H
    go_enter Try.func61, Try.ntmps61
    go_wp2_with (first | ((with_reducible refine gate_dst (N := 2) rfl ?_); refine box_event ?hg (N := 2) ?hd (cs := #[.int .i64 a0_0, .int .i64 a0_1, .int .i64 a0_2, .int .i64 a0_3, .int .i64 a0_4, .slice A0_5 l0_5.length c0_5]) (t := 28) ?hr ?_; (case hd => rfl); (case hg => rfl); (case hr => first | (go_simp; done) | (go_simp; rfl)); intro gb164 hg w19 hbox hb; have n0_ := Aside0.mk (below_step (blA HB.out) hb); have n1_ := Aside0.mk (hbox); have n2_ := Aside0.mk ((by rw [hg]; exact (below_size (blA HB.out)) : w.heap.size ≤ gb164)); have n3_ := Aside0.mk ((by rw [hg]; exact (below_size (blA HB.out)) : w.heap.size ≤ gb164)); clear HB; have HB := n0_; have BK164 := n1_; have GW164 := n2_; have GE164 := n3_; clear n0_ n1_ n2_ n3_; clear hb hbox hg) | ((with_reducible refine gate_dst (N := 3) rfl ?_); refine box_event ?hg (N := 3) ?hd (cs := #[.int .i64 a1_0, .int .i64 a1_1, .int .i64 a1_2, .int .i64 a1_3, .int .i64 a1_4]) (t := 106) ?hr ?_; (case hd => rfl); (case hg => rfl); (case hr => first | (go_simp; done) | (go_simp; rfl)); intro gb165 hg w20 hbox hb; have n0_ := Aside0.mk (blk_below (bkA BK164.out) hb); have n1_ := Aside0.mk (below_step (blA HB.out) hb); have n2_ := Aside0.mk (hbox); have n3_ := Aside0.mk ((by rw [hg]; exact (below_size (blA HB.out)) : w.heap.size ≤ gb165)); have n4_ := Aside0.mk ((by rw [hg]; exact (below_size (blA HB.out)) : w.heap.size ≤ gb165)); have n5_ := Aside0.mk ((by rw [hg]; exact Nat.ne_of_lt (blk_lt (bkA BK164.out)) : gb164 ≠ gb165)); have n6_ := Aside0.mk ((by rw [hg]; exact Nat.ne_of_gt (blk_lt (bkA BK164.out)) : gb165 ≠ gb164)); clear BK164; clear HB; have BK164 := n0_; have HB := n1_; have BK165 := n2_; have GW165 := n3_; have GE165 := n4_; have NB164_165 := n5_; have NB165_164 := n6_; clear n0_ n1_ n2_ n3_ n4_ n5_ n6_; clear hb hbox hg; have hnb21 := NB165_164.out; have hnc21 := NB164_165.out; have hcz22 := fun i => blk_cell BK165.out i; have hfz22 := fun i => blk_frozen BK165.out i; ) | ((with_reducible refine gate_callee (f := 90) rfl ?_); refine goesL_ (some 17) rfl rfl Try.func90 (by kernel_rfl) rfl #[.int .i64 a1_0] rfl gsA ?_; (with_reducible refine (steepleref25_shifts.calls a1_0 false _ A10.out).mono ?_); rintro e w' ⟨rfl, ⟨nd, rfl⟩⟩; refine ⟨_, rfl, ?_⟩) | ((with_reducible refine gate_dst (N := 39) rfl ?_); refine Kd.R_lit k47 _ 47 ?hg (N := 39) ?hd (xs := ([(⟨a1_1, 0, 0, (⟨0, 0⟩ : S45)⟩ : S47), (⟨a1_2, 0, 0, (⟨0, 0⟩ : S45)⟩ : S47)] : List (S47))) (inner := [.int .i64 a1_1, .int .i64 0, .int .i64 0, .int .u64 0, .int .u64 0, .int .i64 a1_2, .int .i64 0, .int .i64 0, .int .u64 0, .int .u64 0]) (ok := fun _ => True) (okp := fun _ => True) ?hr ?hp (fun _ hk => hk) trivial (Below.refl _ _) (Nat.le_refl _) (by simp) ?_; (case hd => rfl); (case hg => rfl); (case hr => first | (go_simp; done) | (go_simp; rfl)); (case hp => exact (Reps.c5 (show Kd.M k47 _ _ _ (⟨a1_1, 0, 0, (⟨0, 0⟩ : S45)⟩ : S47) [.int .i64 a1_1, .int .i64 0, .int .i64 0, .int .u64 0, .int .u64 0] from (k47_mkM _ _ _ (⟨a1_1, 0, 0, (⟨0, 0⟩ : S45)⟩ : S47) )) (Reps.c5 (show Kd.M k47 _ _ _ (⟨a1_2, 0, 0, (⟨0, 0⟩ : S45)⟩ : S47) [.int .i64 a1_2, .int .i64 0, .int .i64 0, .int .u64 0, .int .u64 0] from (k47_mkM _ _ _ (⟨a1_2, 0, 0, (⟨0, 0⟩ : S45)⟩ : S47) )) (Reps.none _ _)))); intro v174 w23 ho24 hb hg_ hnew_; clear hg_ hnew_; (first | rw [← Ny173.out] at ho24 | (simp only [Int.reduceToNat] at ho24; rw [← Ny173.out] at ho24)); have n0_ := Aside0.mk (Kd.R_lower ho24 (below_size (blA HB.out))); have n1_ := Aside0.mk (blk_below (bkA BK164.out) hb); have n2_ := Aside0.mk (blk_below (bkA BK165.out) hb); have n3_ := Aside0.mk (below_step (blA HB.out) hb); clear BK164; clear BK165; clear HB; have HO175 := n0_; have BK164 := n1_; have BK165 := n2_; have HB := n3_; clear n0_ n1_ n2_ n3_; clear hb ho24))
    go_ret
    exact ⟨_, by first | rfl | (simp [errW_none, errW_some] <;> rfl) | (simp [*, errW_none, errW_some] <;> rfl), raA HO175.out, blA HB.out⟩
   ·rw [if_neg c18] at H
    have c18b0 : (a1_0 == 3) = false := beq_eq_false_iff_ne.mpr c18; have c18b1 : (a1_0 != 3) = true := bne_iff_ne.mpr c18; have HC25 := Aside0.mk H; clear H
    go_enter Try.func61, Try.ntmps61
    go_upto_region 7 with (first | ((with_reducible refine gate_dst (N := 2) rfl ?_); refine box_event ?hg (N := 2) ?hd (cs := #[.int .i64 a0_0, .int .i64 a0_1, .int .i64 a0_2, .int .i64 a0_3, .int .i64 a0_4, .slice A0_5 l0_5.length c0_5]) (t := 28) ?hr ?_; (case hd => rfl); (case hg => rfl); (case hr => first | (go_simp; done) | (go_simp; rfl)); intro gb164 hg w26 hbox hb; have n0_ := Aside0.mk (below_step (blA HB.out) hb); have n1_ := Aside0.mk (hbox); have n2_ := Aside0.mk ((by rw [hg]; exact (below_size (blA HB.out)) : w.heap.size ≤ gb164)); have n3_ := Aside0.mk ((by rw [hg]; exact (below_size (blA HB.out)) : w.heap.size ≤ gb164)); clear HB; have HB := n0_; have BK164 := n1_; have GW164 := n2_; have GE164 := n3_; clear n0_ n1_ n2_ n3_; clear hb hbox hg) | ((with_reducible refine gate_dst (N := 3) rfl ?_); refine box_event ?hg (N := 3) ?hd (cs := #[.int .i64 a1_0, .int .i64 a1_1, .int .i64 a1_2, .int .i64 a1_3, .int .i64 a1_4]) (t := 106) ?hr ?_; (case hd => rfl); (case hg => rfl); (case hr => first | (go_simp; done) | (go_simp; rfl)); intro gb165 hg w27 hbox hb; have n0_ := Aside0.mk (blk_below (bkA BK164.out) hb); have n1_ := Aside0.mk (below_step (blA HB.out) hb); have n2_ := Aside0.mk (hbox); have n3_ := Aside0.mk ((by rw [hg]; exact (below_size (blA HB.out)) : w.heap.size ≤ gb165)); have n4_ := Aside0.mk ((by rw [hg]; exact (below_size (blA HB.out)) : w.heap.size ≤ gb165)); have n5_ := Aside0.mk ((by rw [hg]; exact Nat.ne_of_lt (blk_lt (bkA BK164.out)) : gb164 ≠ gb165)); have n6_ := Aside0.mk ((by rw [hg]; exact Nat.ne_of_gt (blk_lt (bkA BK164.out)) : gb165 ≠ gb164)); clear BK164; clear HB; have BK164 := n0_; have HB := n1_; have BK165 := n2_; have GW165 := n3_; have GE165 := n4_; have NB164_165 := n5_; have NB165_164 := n6_; clear n0_ n1_ n2_ n3_ n4_ n5_ n6_; clear hb hbox hg; have hnb28 := NB165_164.out; have hnc28 := NB164_165.out; have hcz29 := fun i => blk_cell BK165.out i; have hfz29 := fun i => blk_frozen BK165.out i; ) | ((with_reducible refine gate_callee (f := 90) rfl ?_); refine goesL_ (some 17) rfl rfl Try.func90 (by kernel_rfl) rfl #[.int .i64 a1_0] rfl gsA ?_; (with_reducible refine (steepleref25_shifts.calls a1_0 false _ A10.out).mono ?_); rintro e w' ⟨rfl, ⟨nd, rfl⟩⟩; refine ⟨_, rfl, ?_⟩))
    (try simp only [Act.put, List.setIfInBounds_toArray, List.set_cons_zero, List.set_cons_succ])
    go_cut [47] (fun v47 wc => ∃ (kq : Nat) (x47_24 : Bool), v47 = .bool x47_24 ∧ Aside0 (steepleref25_System_Own.j0 kq x47_24 a1_0 a1_1 a1_2 a1_3 a1_4 = some r) ∧ Aside0 (kq ≤ k) ∧ Aside0 (wc.heap[gb164]? = some (.cells #[.int .i64 a0_0, .int .i64 a0_1, .int .i64 a0_2, .int .i64 a0_3, .int .i64 a0_4, (.slice A0_5 l0_5.length c0_5)] 28 (0, 0))) ∧ Aside0 (wc.heap[gb165]? = some (.cells #[.int .i64 a1_0, .int .i64 a1_1, .int .i64 a1_2, .int .i64 a1_3, .int .i64 a1_4] 106 (0, 0))) ∧ Aside0 (Below w.heap.size w wc))
    case first =>
     have H := HC25.out; clear HC25
     by_cases c30 : a1_0 = 7
     ·rw [if_pos c30] at H
      have c30b0 : (a1_0 == 7) = true := beq_iff_eq.mpr c30; have c30b1 : (a1_0 != 7) = false := bne_eq_false_iff_eq.mpr c30; clear c30
      (first | rw [c30b0] | (simp only [i64_w, i32_w]; rw [c30b0]) | skip)
      have H' := Aside0.mk H; clear H; have hnb31 := NB165_164.out; have hnc31 := NB164_165.out
      have hcz32 := fun i => blk_cell BK165.out i
      have hfz32 := fun i => blk_frozen BK165.out i
      have hcz33 := fun i => blk_cell BK164.out i
      have hfz33 := fun i => blk_frozen BK164.out i
      go_wp2
      go_meet
      case rel => exact ⟨_, (decide (a0_0 > 0)), eqA, H', ⟨omA⟩, ⟨bkA BK164.out⟩, ⟨bkA BK165.out⟩, ⟨blA HB.out⟩⟩
     ·rw [if_neg c30] at H
      have c30b0 : (a1_0 == 7) = false := beq_eq_false_iff_ne.mpr c30; have c30b1 : (a1_0 != 7) = true := bne_iff_ne.mpr c30
      (first | rw [c30b0] | (simp only [i64_w, i32_w]; rw [c30b0]) | skip)
      have H' := Aside0.mk H; clear H; have hnb34 := NB165_164.out; have hnc34 := NB164_165.out
      have hcz35 := fun i => blk_cell BK165.out i
      have hfz35 := fun i => blk_frozen BK165.out i
      go_wp2
      go_meet
      case rel => exact ⟨_, (false), eqA, H', ⟨omA⟩, ⟨bkA BK164.out⟩, ⟨bkA BK165.out⟩, ⟨blA HB.out⟩⟩
    case rest =>
     clear HC25; (try clear c1); (try clear c2); (try clear p2); (try clear c3); (try clear c3b0); (try clear c3b1); (try clear c5); (try clear c6); (try clear p6); (try clear c9); (try clear c11); (try clear c14); (try clear c18); (try clear c18b0); (try clear c18b1); (try clear c21); (try clear c28); (try clear c30); (try clear c30b0); (try clear c30b1); (try clear c31); (try clear c34); (try clear hcz15); (try clear hcz22); (try clear hcz29); (try clear hcz32); (try clear hcz33); (try clear hcz35); (try clear hcz7); (try clear hfz15); (try clear hfz22); (try clear hfz29); (try clear hfz32); (try clear hfz33); (try clear hfz35); (try clear hfz7); obtain ⟨kq, x47_24, rfl, HA, HJ24, BK164, BK165, HB⟩ := hcut
     cases kq with
     | zero => exact absurd HA.out (by simp [steepleref25_System_Own.j0])
     | succ kj24 =>
      have H := HA.out; clear HA
      simp only [steepleref25_System_Own.j0] at H
      by_cases c36 : x47_24 = true
      ·subst c36
       have H1 : (some (([(⟨a1_1, 0, 0, (⟨0, 0⟩ : S45)⟩ : S47), (⟨a1_2, 0, 0, (⟨0, 0⟩ : S45)⟩ : S47), (⟨a1_3, 0, 0, (⟨0, 0⟩ : S45)⟩ : S47), (⟨a1_4, 0, 0, (⟨0, 0⟩ : S45)⟩ : S47), (⟨a1_4, 1, 1, (⟨0, 0⟩ : S45)⟩ : S47)] : List (S47)))) = some r := by rw [if_pos rfl] at H; exact H
       clear H; have H := H1; clear H1
       obtain ⟨y176, hy176⟩ : ∃ y_ : List (S47), y_ = (([(⟨a1_1, 0, 0, (⟨0, 0⟩ : S45)⟩ : S47), (⟨a1_2, 0, 0, (⟨0, 0⟩ : S45)⟩ : S47), (⟨a1_3, 0, 0, (⟨0, 0⟩ : S45)⟩ : S47), (⟨a1_4, 0, 0, (⟨0, 0⟩ : S45)⟩ : S47), (⟨a1_4, 1, 1, (⟨0, 0⟩ : S45)⟩ : S47)] : List (S47))) := ⟨_, rfl⟩
       replace H : (some y176) = some r := by first | (rw [hy176]; with_reducible exact H) | (have H2_ := (Option.bind_some _ _).symm.trans H; rw [hy176]; with_reducible exact H2_) | (have H2_ := (Option.bind_some _ _).symm.trans H; with_reducible exact H2_) | with_reducible exact H | (rw [hy176]; exact H) | exact H
       have Ny176 := Aside0.mk hy176; clear hy176; obtain rfl := Option.some.inj H; have hnb37 := NB165_164.out; have hnc37 := NB164_165.out
       have hcz38 := fun i => blk_cell BK165.out i
       have hfz38 := fun i => blk_frozen BK165.out i
       go_wp2_with (first | ((with_reducible refine gate_dst (N := 63) rfl ?_); refine Kd.R_lit k47 _ 47 ?hg (N := 63) ?hd (xs := ([(⟨a1_1, 0, 0, (⟨0, 0⟩ : S45)⟩ : S47), (⟨a1_2, 0, 0, (⟨0, 0⟩ : S45)⟩ : S47), (⟨a1_3, 0, 0, (⟨0, 0⟩ : S45)⟩ : S47), (⟨a1_4, 0, 0, (⟨0, 0⟩ : S45)⟩ : S47), (⟨a1_4, 1, 1, (⟨0, 0⟩ : S45)⟩ : S47)] : List (S47))) (inner := [.int .i64 a1_1, .int .i64 0, .int .i64 0, .int .u64 0, .int .u64 0, .int .i64 a1_2, .int .i64 0, .int .i64 0, .int .u64 0, .int .u64 0, .int .i64 a1_3, .int .i64 0, .int .i64 0, .int .u64 0, .int .u64 0, .int .i64 a1_4, .int .i64 0, .int .i64 0, .int .u64 0, .int .u64 0, .int .i64 a1_4, .int .i64 1, .int .i64 1, .int .u64 0, .int .u64 0]) (ok := fun _ => True) (okp := fun _ => True) ?hr ?hp (fun _ hk => hk) trivial (Below.refl _ _) (Nat.le_refl _) (by simp) ?_; (case hd => rfl); (case hg => rfl); (case hr => first | (go_simp; done) | (go_simp; rfl)); (case hp => exact (Reps.c5 (show Kd.M k47 _ _ _ (⟨a1_1, 0, 0, (⟨0, 0⟩ : S45)⟩ : S47) [.int .i64 a1_1, .int .i64 0, .int .i64 0, .int .u64 0, .int .u64 0] from (k47_mkM _ _ _ (⟨a1_1, 0, 0, (⟨0, 0⟩ : S45)⟩ : S47) )) (Reps.c5 (show Kd.M k47 _ _ _ (⟨a1_2, 0, 0, (⟨0, 0⟩ : S45)⟩ : S47) [.int .i64 a1_2, .int .i64 0, .int .i64 0, .int .u64 0, .int .u64 0] from (k47_mkM _ _ _ (⟨a1_2, 0, 0, (⟨0, 0⟩ : S45)⟩ : S47) )) (Reps.c5 (show Kd.M k47 _ _ _ (⟨a1_3, 0, 0, (⟨0, 0⟩ : S45)⟩ : S47) [.int .i64 a1_3, .int .i64 0, .int .i64 0, .int .u64 0, .int .u64 0] from (k47_mkM _ _ _ (⟨a1_3, 0, 0, (⟨0, 0⟩ : S45)⟩ : S47) )) (Reps.c5 (show Kd.M k47 _ _ _ (⟨a1_4, 0, 0, (⟨0, 0⟩ : S45)⟩ : S47) [.int .i64 a1_4, .int .i64 0, .int .i64 0, .int .u64 0, .int .u64 0] from (k47_mkM _ _ _ (⟨a1_4, 0, 0, (⟨0, 0⟩ : S45)⟩ : S47) )) (Reps.c5 (show Kd.M k47 _ _ _ (⟨a1_4, 1, 1, (⟨0, 0⟩ : S45)⟩ : S47) [.int .i64 a1_4, .int .i64 1, .int .i64 1, .int .u64 0, .int .u64 0] from (k47_mkM _ _ _ (⟨a1_4, 1, 1, (⟨0, 0⟩ : S45)⟩ : S47) )) (Reps.none _ _))))))); intro v177 w39 ho40 hb hg_ hnew_; clear hg_ hnew_; (first | rw [← Ny176.out] at ho40 | (simp only [Int.reduceToNat] at ho40; rw [← Ny176.out] at ho40)); have n0_ := Aside0.mk (Kd.R_lower ho40 (below_size (blA HB.out))); have n1_ := Aside0.mk (blk_below (bkA BK164.out) hb); have n2_ := Aside0.mk (blk_below (bkA BK165.out) hb); have n3_ := Aside0.mk (below_step (blA HB.out) hb); clear BK164; clear BK165; clear HB; have HO178 := n0_; have BK164 := n1_; have BK165 := n2_; have HB := n3_; clear n0_ n1_ n2_ n3_; clear hb ho40))
       go_ret
       exact ⟨_, by first | rfl | (simp [errW_none, errW_some] <;> rfl) | (simp [*, errW_none, errW_some] <;> rfl), raA HO178.out, blA HB.out⟩
      ·replace c36 := Bool.eq_false_iff.mpr c36; subst c36
       have H1 : (if a1_0 = 7 then (some (([(⟨a1_1, 0, 0, (⟨0, 0⟩ : S45)⟩ : S47), (⟨a1_2, 0, 0, (⟨0, 0⟩ : S45)⟩ : S47), (⟨a1_3, 0, 0, (⟨0, 0⟩ : S45)⟩ : S47), (⟨a1_4, 0, 0, (⟨0, 0⟩ : S45)⟩ : S47)] : List (S47)))) else (some (([(⟨a1_1, 0, 0, (⟨0, 0⟩ : S45)⟩ : S47), (⟨a1_2, 0, 0, (⟨0, 0⟩ : S45)⟩ : S47), (⟨a1_3, 0, 0, (⟨0, 0⟩ : S45)⟩ : S47)] : List (S47))))) = some r := by rw [if_neg (show ¬ (false = true) by decide)] at H; exact H
       clear H; have H := H1; clear H1
       by_cases c41 : a1_0 = 7
       ·rw [if_pos c41] at H
        have c41b0 : (a1_0 == 7) = true := beq_iff_eq.mpr c41; have c41b1 : (a1_0 != 7) = false := bne_eq_false_iff_eq.mpr c41; clear c41
        obtain ⟨y179, hy179⟩ : ∃ y_ : List (S47), y_ = (([(⟨a1_1, 0, 0, (⟨0, 0⟩ : S45)⟩ : S47), (⟨a1_2, 0, 0, (⟨0, 0⟩ : S45)⟩ : S47), (⟨a1_3, 0, 0, (⟨0, 0⟩ : S45)⟩ : S47), (⟨a1_4, 0, 0, (⟨0, 0⟩ : S45)⟩ : S47)] : List (S47))) := ⟨_, rfl⟩
        replace H : (some y179) = some r := by first | (rw [hy179]; with_reducible exact H) | (have H2_ := (Option.bind_some _ _).symm.trans H; rw [hy179]; with_reducible exact H2_) | (have H2_ := (Option.bind_some _ _).symm.trans H; with_reducible exact H2_) | with_reducible exact H | (rw [hy179]; exact H) | exact H
        have Ny179 := Aside0.mk hy179; clear hy179; obtain rfl := Option.some.inj H; have hnb42 := NB165_164.out; have hnc42 := NB164_165.out
        have hcz43 := fun i => blk_cell BK165.out i
        have hfz43 := fun i => blk_frozen BK165.out i
        go_wp2_with (first | ((with_reducible refine gate_dst (N := 79) rfl ?_); refine Kd.R_lit k47 _ 47 ?hg (N := 79) ?hd (xs := ([(⟨a1_1, 0, 0, (⟨0, 0⟩ : S45)⟩ : S47), (⟨a1_2, 0, 0, (⟨0, 0⟩ : S45)⟩ : S47), (⟨a1_3, 0, 0, (⟨0, 0⟩ : S45)⟩ : S47), (⟨a1_4, 0, 0, (⟨0, 0⟩ : S45)⟩ : S47)] : List (S47))) (inner := [.int .i64 a1_1, .int .i64 0, .int .i64 0, .int .u64 0, .int .u64 0, .int .i64 a1_2, .int .i64 0, .int .i64 0, .int .u64 0, .int .u64 0, .int .i64 a1_3, .int .i64 0, .int .i64 0, .int .u64 0, .int .u64 0, .int .i64 a1_4, .int .i64 0, .int .i64 0, .int .u64 0, .int .u64 0]) (ok := fun _ => True) (okp := fun _ => True) ?hr ?hp (fun _ hk => hk) trivial (Below.refl _ _) (Nat.le_refl _) (by simp) ?_; (case hd => rfl); (case hg => rfl); (case hr => first | (go_simp; done) | (go_simp; rfl)); (case hp => exact (Reps.c5 (show Kd.M k47 _ _ _ (⟨a1_1, 0, 0, (⟨0, 0⟩ : S45)⟩ : S47) [.int .i64 a1_1, .int .i64 0, .int .i64 0, .int .u64 0, .int .u64 0] from (k47_mkM _ _ _ (⟨a1_1, 0, 0, (⟨0, 0⟩ : S45)⟩ : S47) )) (Reps.c5 (show Kd.M k47 _ _ _ (⟨a1_2, 0, 0, (⟨0, 0⟩ : S45)⟩ : S47) [.int .i64 a1_2, .int .i64 0, .int .i64 0, .int .u64 0, .int .u64 0] from (k47_mkM _ _ _ (⟨a1_2, 0, 0, (⟨0, 0⟩ : S45)⟩ : S47) )) (Reps.c5 (show Kd.M k47 _ _ _ (⟨a1_3, 0, 0, (⟨0, 0⟩ : S45)⟩ : S47) [.int .i64 a1_3, .int .i64 0, .int .i64 0, .int .u64 0, .int .u64 0] from (k47_mkM _ _ _ (⟨a1_3, 0, 0, (⟨0, 0⟩ : S45)⟩ : S47) )) (Reps.c5 (show Kd.M k47 _ _ _ (⟨a1_4, 0, 0, (⟨0, 0⟩ : S45)⟩ : S47) [.int .i64 a1_4, .int .i64 0, .int .i64 0, .int .u64 0, .int .u64 0] from (k47_mkM _ _ _ (⟨a1_4, 0, 0, (⟨0, 0⟩ : S45)⟩ : S47) )) (Reps.none _ _)))))); intro v180 w44 ho45 hb hg_ hnew_; clear hg_ hnew_; (first | rw [← Ny179.out] at ho45 | (simp only [Int.reduceToNat] at ho45; rw [← Ny179.out] at ho45)); have n0_ := Aside0.mk (Kd.R_lower ho45 (below_size (blA HB.out))); have n1_ := Aside0.mk (blk_below (bkA BK164.out) hb); have n2_ := Aside0.mk (blk_below (bkA BK165.out) hb); have n3_ := Aside0.mk (below_step (blA HB.out) hb); clear BK164; clear BK165; clear HB; have HO181 := n0_; have BK164 := n1_; have BK165 := n2_; have HB := n3_; clear n0_ n1_ n2_ n3_; clear hb ho45))
        go_ret
        exact ⟨_, by first | rfl | (simp [errW_none, errW_some] <;> rfl) | (simp [*, errW_none, errW_some] <;> rfl), raA HO181.out, blA HB.out⟩
       ·rw [if_neg c41] at H
        have c41b0 : (a1_0 == 7) = false := beq_eq_false_iff_ne.mpr c41; have c41b1 : (a1_0 != 7) = true := bne_iff_ne.mpr c41
        obtain ⟨y182, hy182⟩ : ∃ y_ : List (S47), y_ = (([(⟨a1_1, 0, 0, (⟨0, 0⟩ : S45)⟩ : S47), (⟨a1_2, 0, 0, (⟨0, 0⟩ : S45)⟩ : S47), (⟨a1_3, 0, 0, (⟨0, 0⟩ : S45)⟩ : S47)] : List (S47))) := ⟨_, rfl⟩
        replace H : (some y182) = some r := by first | (rw [hy182]; with_reducible exact H) | (have H2_ := (Option.bind_some _ _).symm.trans H; rw [hy182]; with_reducible exact H2_) | (have H2_ := (Option.bind_some _ _).symm.trans H; with_reducible exact H2_) | with_reducible exact H | (rw [hy182]; exact H) | exact H
        have Ny182 := Aside0.mk hy182; clear hy182; obtain rfl := Option.some.inj H; have hnb46 := NB165_164.out; have hnc46 := NB164_165.out
        have hcz47 := fun i => blk_cell BK165.out i
        have hfz47 := fun i => blk_frozen BK165.out i
        go_wp2_with (first | ((with_reducible refine gate_dst (N := 89) rfl ?_); refine Kd.R_lit k47 _ 47 ?hg (N := 89) ?hd (xs := ([(⟨a1_1, 0, 0, (⟨0, 0⟩ : S45)⟩ : S47), (⟨a1_2, 0, 0, (⟨0, 0⟩ : S45)⟩ : S47), (⟨a1_3, 0, 0, (⟨0, 0⟩ : S45)⟩ : S47)] : List (S47))) (inner := [.int .i64 a1_1, .int .i64 0, .int .i64 0, .int .u64 0, .int .u64 0, .int .i64 a1_2, .int .i64 0, .int .i64 0, .int .u64 0, .int .u64 0, .int .i64 a1_3, .int .i64 0, .int .i64 0, .int .u64 0, .int .u64 0]) (ok := fun _ => True) (okp := fun _ => True) ?hr ?hp (fun _ hk => hk) trivial (Below.refl _ _) (Nat.le_refl _) (by simp) ?_; (case hd => rfl); (case hg => rfl); (case hr => first | (go_simp; done) | (go_simp; rfl)); (case hp => exact (Reps.c5 (show Kd.M k47 _ _ _ (⟨a1_1, 0, 0, (⟨0, 0⟩ : S45)⟩ : S47) [.int .i64 a1_1, .int .i64 0, .int .i64 0, .int .u64 0, .int .u64 0] from (k47_mkM _ _ _ (⟨a1_1, 0, 0, (⟨0, 0⟩ : S45)⟩ : S47) )) (Reps.c5 (show Kd.M k47 _ _ _ (⟨a1_2, 0, 0, (⟨0, 0⟩ : S45)⟩ : S47) [.int .i64 a1_2, .int .i64 0, .int .i64 0, .int .u64 0, .int .u64 0] from (k47_mkM _ _ _ (⟨a1_2, 0, 0, (⟨0, 0⟩ : S45)⟩ : S47) )) (Reps.c5 (show Kd.M k47 _ _ _ (⟨a1_3, 0, 0, (⟨0, 0⟩ : S45)⟩ : S47) [.int .i64 a1_3, .int .i64 0, .int .i64 0, .int .u64 0, .int .u64 0] from (k47_mkM _ _ _ (⟨a1_3, 0, 0, (⟨0, 0⟩ : S45)⟩ : S47) )) (Reps.none _ _))))); intro v183 w48 ho49 hb hg_ hnew_; clear hg_ hnew_; (first | rw [← Ny182.out] at ho49 | (simp only [Int.reduceToNat] at ho49; rw [← Ny182.out] at ho49)); have n0_ := Aside0.mk (Kd.R_lower ho49 (below_size (blA HB.out))); have n1_ := Aside0.mk (blk_below (bkA BK164.out) hb); have n2_ := Aside0.mk (blk_below (bkA BK165.out) hb); have n3_ := Aside0.mk (below_step (blA HB.out) hb); clear BK164; clear BK165; clear HB; have HO184 := n0_; have BK164 := n1_; have BK165 := n2_; have HB := n3_; clear n0_ n1_ n2_ n3_; clear hb ho49))
        go_ret
        exact ⟨_, by first | rfl | (simp [errW_none, errW_some] <;> rfl) | (simp [*, errW_none, errW_some] <;> rfl), raA HO184.out, blA HB.out⟩
end Go.Proofs.Ythiiodgpdoljoaa.PLc
namespace Go.Proofs.Ythiiodgpdoljoaa.PLc
open Go.RowKit Go.Proofs.YthiiodgpdoljoaaW.PrintWords Go.Proofs.YthiiodgpdoljoaaW.PrintLast Go.Proofs.YthiiodgpdoljoaaW.PrintMore
attribute [local go_sem] max2_int min2_int max_two min_two max_three min_three max_four min_four   -- for this text's walks alone
set_option linter.unusedVariables false
set_option linter.unusedSimpArgs false
/-! ### steepleref25_find: function 62 -/
def steepleref25_find.l0 : Nat → List (S47) → Int → Int → Int → Int → Int → Int → Option (Int)
 | 0, _, _, _, _, _, _, _ => none
 | k + 1, x0, x5, x186000, x186001, x186002, x186003, x186004 => if x5 < (x0.length : Int) then (if 0 ≤ x5 then (if ((rd_T47 x0 x5).f0) = x186000 then (if ((rd_T47 x0 x5).f1) = x186001 then (if ((rd_T47 x0 x5).f2) = x186002 then (some x5) else (steepleref25_find.l0 k x0 (wrap64 (x5 + 1)) x186000 x186001 x186002 x186003 x186004)) else (steepleref25_find.l0 k x0 (wrap64 (x5 + 1)) x186000 x186001 x186002 x186003 x186004)) else (steepleref25_find.l0 k x0 (wrap64 (x5 + 1)) x186000 x186001 x186002 x186003 x186004)) else (none)) else (some (-1))
def steepleref25_find.f (k : Nat) (l0 : List (S47)) (a1_0 : Int) (a1_1 : Int) (a1_2 : Int) (a1_3 : Int) (a1_4 : Int) : Option (Int) := steepleref25_find.l0 k l0 0 a1_0 a1_1 a1_2 a1_3 a1_4
theorem steepleref25_find.mono_l : ∀ k, (∀ y0 y1 y2 y3 y4 y5 y6, LeO (steepleref25_find.l0 k y0 y1 y2 y3 y4 y5 y6) (steepleref25_find.l0 (k + 1) y0 y1 y2 y3 y4 y5 y6))
 | 0 => fun _ _ _ _ _ _ _ r h => by simp [steepleref25_find.l0] at h
 | k + 1 => by
  have ih0 := steepleref25_find.mono_l k
  ·intro y0 y1 y2 y3 y4 y5 y6
   unfold steepleref25_find.l0
   repeat' first
   | (with_reducible exact ih0 _ _ _ _ _ _ _)
   | (with_reducible exact LeO.refl _)
   | (with_reducible exact LeO.none _)
   | (with_reducible refine LeO.ite ?_ ?_)
   | (with_reducible refine LeO.bind ?_ (fun _ => ?_))
   | exact ih0 _ _ _ _ _ _ _
   | exact LeO.none _
   | refine LeO.ite ?_ ?_
   | refine LeO.bind ?_ (fun _ => ?_)
theorem steepleref25_find.mono : ∀ a0 a1 a2 a3 a4 a5 k, LeO (steepleref25_find.f k a0 a1 a2 a3 a4 a5) (steepleref25_find.f (k + 1) a0 a1 a2 a3 a4 a5) := by
 intro a0 a1 a2 a3 a4 a5 k
 have ih0 := steepleref25_find.mono_l k
 unfold steepleref25_find.f
 repeat' first
   | (with_reducible exact ih0 _ _ _ _ _ _ _)
   | (with_reducible exact LeO.refl _)
   | (with_reducible exact LeO.none _)
   | (with_reducible refine LeO.ite ?_ ?_)
   | (with_reducible refine LeO.bind ?_ (fun _ => ?_))
   | exact ih0 _ _ _ _ _ _ _
   | exact LeO.none _
   | refine LeO.ite ?_ ?_
   | refine LeO.bind ?_ (fun _ => ?_)
set_option maxHeartbeats 8000000 in
set_option maxRecDepth 100000 in
theorem steepleref25_find.calls (k : Nat) (A0 : Option Addr) (c0 : Nat) (l0 : List (S47)) (a1_0 : Int) (a1_1 : Int) (a1_2 : Int) (a1_3 : Int) (a1_4 : Int) (r : Int) (w : World) (hr0 : Kd.C k47 w A0 l0.length l0) (hc0 : l0.length ≤ c0) (h : steepleref25_find.f k l0 a1_0 a1_1 a1_2 a1_3 a1_4 = some r) :
  Calls Try.prog 62 #[.slice A0 l0.length c0, .agg #[.int .i64 a1_0, .int .i64 a1_1, .int .i64 a1_2, .int .u64 a1_3, .int .u64 a1_4]] w fun e w' => e = .returned (.int .i64 r) ∧ Below w.heap.size w w' := by
 have hu47 := Try.underlying47; have HR0 := Aside0.mk hr0; have HC0 := Aside0.mk hc0; clear hr0 hc0; have HB := Aside0.mk (Below.refl w.heap.size w); have H : (steepleref25_find.l0 k l0 0 a1_0 a1_1 a1_2 a1_3 a1_4) = some r := h; clear h; have H' := Aside0.mk H; clear H
 go_enter Try.func62, Try.ntmps62
 go_wp2_with (first | ((with_reducible refine gate_dst (N := 3) rfl ?_); refine box_event ?hg (N := 3) ?hd (cs := #[.int .i64 a1_0, .int .i64 a1_1, .int .i64 a1_2, .int .u64 a1_3, .int .u64 a1_4]) (t := 47) ?hr ?_; (case hd => rfl); (case hg => rfl); (case hr => first | (go_simp; done) | (go_simp; rfl)); intro gb185 hg w3 hbox hb; have n0_ := Aside0.mk (below_step (blA HB.out) hb); have n1_ := Aside0.mk (hbox); have n2_ := Aside0.mk ((by rw [hg]; exact (below_size (blA HB.out)) : w.heap.size ≤ gb185)); have n3_ := Aside0.mk ((by rw [hg]; exact (below_size (blA HB.out)) : w.heap.size ≤ gb185)); clear HB; have HB := n0_; have BK185 := n1_; have GW185 := n2_; have GE185 := n3_; clear n0_ n1_ n2_ n3_; clear hb hbox hg))
 repeat (go_quiet (first | ((with_reducible refine gate_dst (N := 3) rfl ?_); refine box_event ?hg (N := 3) ?hd (cs := #[.int .i64 a1_0, .int .i64 a1_1, .int .i64 a1_2, .int .u64 a1_3, .int .u64 a1_4]) (t := 47) ?hr ?_; (case hd => rfl); (case hg => rfl); (case hr => first | (go_simp; done) | (go_simp; rfl)); intro gb185 hg w3 hbox hb; have n0_ := Aside0.mk (below_step (blA HB.out) hb); have n1_ := Aside0.mk (hbox); have n2_ := Aside0.mk ((by rw [hg]; exact (below_size (blA HB.out)) : w.heap.size ≤ gb185)); have n3_ := Aside0.mk ((by rw [hg]; exact (below_size (blA HB.out)) : w.heap.size ≤ gb185)); clear HB; have HB := n0_; have BK185 := n1_; have GW185 := n2_; have GE185 := n3_; clear n0_ n1_ n2_ n3_; clear hb hbox hg)); try go_wp2_with (first | ((with_reducible refine gate_dst (N := 3) rfl ?_); refine box_event ?hg (N := 3) ?hd (cs := #[.int .i64 a1_0, .int .i64 a1_1, .int .i64 a1_2, .int .u64 a1_3, .int .u64 a1_4]) (t := 47) ?hr ?_; (case hd => rfl); (case hg => rfl); (case hr => first | (go_simp; done) | (go_simp; rfl)); intro gb185 hg w3 hbox hb; have n0_ := Aside0.mk (below_step (blA HB.out) hb); have n1_ := Aside0.mk (hbox); have n2_ := Aside0.mk ((by rw [hg]; exact (below_size (blA HB.out)) : w.heap.size ≤ gb185)); have n3_ := Aside0.mk ((by rw [hg]; exact (below_size (blA HB.out)) : w.heap.size ≤ gb185)); clear HB; have HB := n0_; have BK185 := n1_; have GW185 := n2_; have GE185 := n3_; clear n0_ n1_ n2_ n3_; clear hb hbox hg)))
 go_loopg [5] k (fun kq v5 w' => ∃ (x5_1 : Int), v5 = .int .i64 x5_1 ∧ Aside0 (steepleref25_find.l0 kq l0 x5_1 a1_0 a1_1 a1_2 a1_3 a1_4 = some r) ∧ Aside0 (kq ≤ k) ∧ Aside0 (w'.heap[gb185]? = some (.cells #[.int .i64 a1_0, .int .i64 a1_1, .int .i64 a1_2, .int .u64 a1_3, .int .u64 a1_4] 47 (0, 0))) ∧ Aside0 (Below w.heap.size w w'))
 case atStart => exact ⟨(0), eqA, H', ⟨Nat.le_refl _⟩, ⟨bkA BK185.out⟩, ⟨blA HB.out⟩⟩
 case round =>
  clear H'; (try clear p2); obtain ⟨x5_1, rfl, HA, HK1, BK185, HB⟩ := hrel
  cases gk with
  | zero => exact absurd HA.out (by simp [steepleref25_find.l0])
  | succ k1 =>
   have H := HA.out; clear HA
   simp only [steepleref25_find.l0] at H
   by_cases c4 : x5_1 < (l0.length : Int)
   ·rw [if_pos c4] at H
    have c4b0 : decide (x5_1 < (l0.length : Int)) = true := decide_eq_true c4; clear c4
    by_cases c5 : 0 ≤ x5_1
    ·rw [if_pos c5] at H
     have c5b0 : decide (0 ≤ x5_1) = true := decide_eq_true c5; clear c5
     by_cases c6 : ((rd_T47 l0 x5_1).f0) = a1_0
     ·rw [if_pos c6] at H
      have c6b0 : (((rd_T47 l0 x5_1).f0) == a1_0) = true := beq_iff_eq.mpr c6; have c6b1 : (((rd_T47 l0 x5_1).f0) != a1_0) = false := bne_eq_false_iff_eq.mpr c6; clear c6
      by_cases c7 : ((rd_T47 l0 x5_1).f1) = a1_1
      ·rw [if_pos c7] at H
       have c7b0 : (((rd_T47 l0 x5_1).f1) == a1_1) = true := beq_iff_eq.mpr c7; have c7b1 : (((rd_T47 l0 x5_1).f1) != a1_1) = false := bne_eq_false_iff_eq.mpr c7; clear c7
       by_cases c8 : ((rd_T47 l0 x5_1).f2) = a1_2
       ·rw [if_pos c8] at H
        have c8b0 : (((rd_T47 l0 x5_1).f2) == a1_2) = true := beq_iff_eq.mpr c8; have c8b1 : (((rd_T47 l0 x5_1).f2) != a1_2) = false := bne_eq_false_iff_eq.mpr c8; clear c8; obtain rfl := Option.some.inj H
        have p186 : 0 ≤ (x5_1 : Int) := of_decide_eq_true (by first | (with_reducible assumption) | assumption)
        have q186 : x5_1 < (l0.length : Int) := of_decide_eq_true (by first | (with_reducible assumption) | assumption)
        obtain ⟨ad186, e186, hx186_0, hx186_1, hx186_2, hx186_3, hx186_4⟩ := at_T47 HR0.out x5_1 p186 q186
        cases e186
        replace hx186_0 := (HB.out.cell (World.block_lt_of_cell? w _ hx186_0)).trans hx186_0; replace hx186_1 := (HB.out.cell (World.block_lt_of_cell? w _ hx186_1)).trans hx186_1; replace hx186_2 := (HB.out.cell (World.block_lt_of_cell? w _ hx186_2)).trans hx186_2; replace hx186_3 := (HB.out.cell (World.block_lt_of_cell? w _ hx186_3)).trans hx186_3; replace hx186_4 := (HB.out.cell (World.block_lt_of_cell? w _ hx186_4)).trans hx186_4; replace p186 := eq_true p186; replace q186 := eq_true q186
        have hcz9 := fun i => blk_cell BK185.out i
        have hfz9 := fun i => blk_frozen BK185.out i
        have p187 : 0 ≤ (x5_1 : Int) := of_decide_eq_true (by first | (with_reducible assumption) | assumption)
        have q187 : x5_1 < (l0.length : Int) := of_decide_eq_true (by first | (with_reducible assumption) | assumption)
        obtain ⟨ad187, e187, hx187_0, hx187_1, hx187_2, hx187_3, hx187_4⟩ := at_T47 HR0.out x5_1 p187 q187
        obtain rfl : ad186 = ad187 := (by injection e187)
        replace hx187_0 := (HB.out.cell (World.block_lt_of_cell? w _ hx187_0)).trans hx187_0; replace hx187_1 := (HB.out.cell (World.block_lt_of_cell? w _ hx187_1)).trans hx187_1; replace hx187_2 := (HB.out.cell (World.block_lt_of_cell? w _ hx187_2)).trans hx187_2; replace hx187_3 := (HB.out.cell (World.block_lt_of_cell? w _ hx187_3)).trans hx187_3; replace hx187_4 := (HB.out.cell (World.block_lt_of_cell? w _ hx187_4)).trans hx187_4; replace p187 := eq_true p187; replace q187 := eq_true q187
        have p188 : 0 ≤ (x5_1 : Int) := of_decide_eq_true (by first | (with_reducible assumption) | assumption)
        have q188 : x5_1 < (l0.length : Int) := of_decide_eq_true (by first | (with_reducible assumption) | assumption)
        obtain ⟨ad188, e188, hx188_0, hx188_1, hx188_2, hx188_3, hx188_4⟩ := at_T47 HR0.out x5_1 p188 q188
        obtain rfl : ad186 = ad188 := (by injection e188)
        replace hx188_0 := (HB.out.cell (World.block_lt_of_cell? w _ hx188_0)).trans hx188_0; replace hx188_1 := (HB.out.cell (World.block_lt_of_cell? w _ hx188_1)).trans hx188_1; replace hx188_2 := (HB.out.cell (World.block_lt_of_cell? w _ hx188_2)).trans hx188_2; replace hx188_3 := (HB.out.cell (World.block_lt_of_cell? w _ hx188_3)).trans hx188_3; replace hx188_4 := (HB.out.cell (World.block_lt_of_cell? w _ hx188_4)).trans hx188_4; replace p188 := eq_true p188; replace q188 := eq_true q188
        go_wp2
        repeat (go_quiet (fail); try go_wp2)
        go_ret
        exact ⟨by first | rfl | (simp [errW_none, errW_some] <;> rfl) | (simp [*, errW_none, errW_some] <;> rfl), blA HB.out⟩
       ·rw [if_neg c8] at H
        have c8b0 : (((rd_T47 l0 x5_1).f2) == a1_2) = false := beq_eq_false_iff_ne.mpr c8; have c8b1 : (((rd_T47 l0 x5_1).f2) != a1_2) = true := bne_iff_ne.mpr c8; have H' := Aside0.mk H; clear H
        have p186 : 0 ≤ (x5_1 : Int) := of_decide_eq_true (by first | (with_reducible assumption) | assumption)
        have q186 : x5_1 < (l0.length : Int) := of_decide_eq_true (by first | (with_reducible assumption) | assumption)
        obtain ⟨ad186, e186, hx186_0, hx186_1, hx186_2, hx186_3, hx186_4⟩ := at_T47 HR0.out x5_1 p186 q186
        cases e186
        replace hx186_0 := (HB.out.cell (World.block_lt_of_cell? w _ hx186_0)).trans hx186_0; replace hx186_1 := (HB.out.cell (World.block_lt_of_cell? w _ hx186_1)).trans hx186_1; replace hx186_2 := (HB.out.cell (World.block_lt_of_cell? w _ hx186_2)).trans hx186_2; replace hx186_3 := (HB.out.cell (World.block_lt_of_cell? w _ hx186_3)).trans hx186_3; replace hx186_4 := (HB.out.cell (World.block_lt_of_cell? w _ hx186_4)).trans hx186_4; replace p186 := eq_true p186; replace q186 := eq_true q186
        have hcz10 := fun i => blk_cell BK185.out i
        have hfz10 := fun i => blk_frozen BK185.out i
        have p187 : 0 ≤ (x5_1 : Int) := of_decide_eq_true (by first | (with_reducible assumption) | assumption)
        have q187 : x5_1 < (l0.length : Int) := of_decide_eq_true (by first | (with_reducible assumption) | assumption)
        obtain ⟨ad187, e187, hx187_0, hx187_1, hx187_2, hx187_3, hx187_4⟩ := at_T47 HR0.out x5_1 p187 q187
        obtain rfl : ad186 = ad187 := (by injection e187)
        replace hx187_0 := (HB.out.cell (World.block_lt_of_cell? w _ hx187_0)).trans hx187_0; replace hx187_1 := (HB.out.cell (World.block_lt_of_cell? w _ hx187_1)).trans hx187_1; replace hx187_2 := (HB.out.cell (World.block_lt_of_cell? w _ hx187_2)).trans hx187_2; replace hx187_3 := (HB.out.cell (World.block_lt_of_cell? w _ hx187_3)).trans hx187_3; replace hx187_4 := (HB.out.cell (World.block_lt_of_cell? w _ hx187_4)).trans hx187_4; replace p187 := eq_true p187; replace q187 := eq_true q187
        have p188 : 0 ≤ (x5_1 : Int) := of_decide_eq_true (by first | (with_reducible assumption) | assumption)
        have q188 : x5_1 < (l0.length : Int) := of_decide_eq_true (by first | (with_reducible assumption) | assumption)
        obtain ⟨ad188, e188, hx188_0, hx188_1, hx188_2, hx188_3, hx188_4⟩ := at_T47 HR0.out x5_1 p188 q188
        obtain rfl : ad186 = ad188 := (by injection e188)
        replace hx188_0 := (HB.out.cell (World.block_lt_of_cell? w _ hx188_0)).trans hx188_0; replace hx188_1 := (HB.out.cell (World.block_lt_of_cell? w _ hx188_1)).trans hx188_1; replace hx188_2 := (HB.out.cell (World.block_lt_of_cell? w _ hx188_2)).trans hx188_2; replace hx188_3 := (HB.out.cell (World.block_lt_of_cell? w _ hx188_3)).trans hx188_3; replace hx188_4 := (HB.out.cell (World.block_lt_of_cell? w _ hx188_4)).trans hx188_4; replace p188 := eq_true p188; replace q188 := eq_true q188
        go_wp2
        repeat (go_quiet (fail); try go_wp2)
        go_roundg k1
        case measure => have := HK1.out; omega
        case rel => exact ⟨(wrap64 (x5_1 + 1)), eqA, H', ⟨by have := HK1.out; omega⟩, ⟨bkA BK185.out⟩, ⟨blA HB.out⟩⟩
      ·rw [if_neg c7] at H
       have c7b0 : (((rd_T47 l0 x5_1).f1) == a1_1) = false := beq_eq_false_iff_ne.mpr c7; have c7b1 : (((rd_T47 l0 x5_1).f1) != a1_1) = true := bne_iff_ne.mpr c7; have H' := Aside0.mk H; clear H
       have p186 : 0 ≤ (x5_1 : Int) := of_decide_eq_true (by first | (with_reducible assumption) | assumption)
       have q186 : x5_1 < (l0.length : Int) := of_decide_eq_true (by first | (with_reducible assumption) | assumption)
       obtain ⟨ad186, e186, hx186_0, hx186_1, hx186_2, hx186_3, hx186_4⟩ := at_T47 HR0.out x5_1 p186 q186
       cases e186
       replace hx186_0 := (HB.out.cell (World.block_lt_of_cell? w _ hx186_0)).trans hx186_0; replace hx186_1 := (HB.out.cell (World.block_lt_of_cell? w _ hx186_1)).trans hx186_1; replace hx186_2 := (HB.out.cell (World.block_lt_of_cell? w _ hx186_2)).trans hx186_2; replace hx186_3 := (HB.out.cell (World.block_lt_of_cell? w _ hx186_3)).trans hx186_3; replace hx186_4 := (HB.out.cell (World.block_lt_of_cell? w _ hx186_4)).trans hx186_4; replace p186 := eq_true p186; replace q186 := eq_true q186
       have hcz11 := fun i => blk_cell BK185.out i
       have hfz11 := fun i => blk_frozen BK185.out i
       have p187 : 0 ≤ (x5_1 : Int) := of_decide_eq_true (by first | (with_reducible assumption) | assumption)
       have q187 : x5_1 < (l0.length : Int) := of_decide_eq_true (by first | (with_reducible assumption) | assumption)
       obtain ⟨ad187, e187, hx187_0, hx187_1, hx187_2, hx187_3, hx187_4⟩ := at_T47 HR0.out x5_1 p187 q187
       obtain rfl : ad186 = ad187 := (by injection e187)
       replace hx187_0 := (HB.out.cell (World.block_lt_of_cell? w _ hx187_0)).trans hx187_0; replace hx187_1 := (HB.out.cell (World.block_lt_of_cell? w _ hx187_1)).trans hx187_1; replace hx187_2 := (HB.out.cell (World.block_lt_of_cell? w _ hx187_2)).trans hx187_2; replace hx187_3 := (HB.out.cell (World.block_lt_of_cell? w _ hx187_3)).trans hx187_3; replace hx187_4 := (HB.out.cell (World.block_lt_of_cell? w _ hx187_4)).trans hx187_4; replace p187 := eq_true p187; replace q187 := eq_true q187
       go_wp2
       repeat (go_quiet (fail); try go_wp2)
       go_roundg k1
       case measure => have := HK1.out; omega
       case rel => exact ⟨(wrap64 (x5_1 + 1)), eqA, H', ⟨by have := HK1.out; omega⟩, ⟨bkA BK185.out⟩, ⟨blA HB.out⟩⟩
     ·rw [if_neg c6] at H
      have c6b0 : (((rd_T47 l0 x5_1).f0) == a1_0) = false := beq_eq_false_iff_ne.mpr c6; have c6b1 : (((rd_T47 l0 x5_1).f0) != a1_0) = true := bne_iff_ne.mpr c6; have H' := Aside0.mk H; clear H
      have p186 : 0 ≤ (x5_1 : Int) := of_decide_eq_true (by first | (with_reducible assumption) | assumption)
      have q186 : x5_1 < (l0.length : Int) := of_decide_eq_true (by first | (with_reducible assumption) | assumption)
      obtain ⟨ad186, e186, hx186_0, hx186_1, hx186_2, hx186_3, hx186_4⟩ := at_T47 HR0.out x5_1 p186 q186
      cases e186
      replace hx186_0 := (HB.out.cell (World.block_lt_of_cell? w _ hx186_0)).trans hx186_0; replace hx186_1 := (HB.out.cell (World.block_lt_of_cell? w _ hx186_1)).trans hx186_1; replace hx186_2 := (HB.out.cell (World.block_lt_of_cell? w _ hx186_2)).trans hx186_2; replace hx186_3 := (HB.out.cell (World.block_lt_of_cell? w _ hx186_3)).trans hx186_3; replace hx186_4 := (HB.out.cell (World.block_lt_of_cell? w _ hx186_4)).trans hx186_4; replace p186 := eq_true p186; replace q186 := eq_true q186
      have hcz12 := fun i => blk_cell BK185.out i
      have hfz12 := fun i => blk_frozen BK185.out i
      go_wp2
      repeat (go_quiet (fail); try go_wp2)
      go_roundg k1
      case measure => have := HK1.out; omega
      case rel => exact ⟨(wrap64 (x5_1 + 1)), eqA, H', ⟨by have := HK1.out; omega⟩, ⟨bkA BK185.out⟩, ⟨blA HB.out⟩⟩
    ·rw [if_neg c5] at H
     exact absurd H (by simp)
   ·rw [if_neg c4] at H
    have c4b0 : decide (x5_1 < (l0.length : Int)) = false := decide_eq_false c4; clear c4; obtain rfl := Option.some.inj H
    go_wp2
    repeat (go_quiet (fail); try go_wp2)
    go_ret
    exact ⟨by first | rfl | (simp [errW_none, errW_some] <;> rfl) | (simp [*, errW_none, errW_some] <;> rfl), blA HB.out⟩
end Go.Proofs.Ythiiodgpdoljoaa.PLc
namespace Go.Proofs.Ythiiodgpdoljoaa.PLc
open Go.RowKit Go.Proofs.YthiiodgpdoljoaaW.PrintWords Go.Proofs.YthiiodgpdoljoaaW.PrintLast Go.Proofs.YthiiodgpdoljoaaW.PrintMore
attribute [local go_sem] max2_int min2_int max_two min_two max_three min_three max_four min_four   -- for this text's walks alone
set_option linter.unusedVariables false
set_option linter.unusedSimpArgs false
/-! ### steepleref25_Wires: function 17 -/
mutual
def steepleref25_Wires.l0 : Nat → List (S47) → Int → Int → Int → Int → Int → Int → List (S106) → Option ((List (S47)))
 | 0, _, _, _, _, _, _, _, _ => none
 | k + 1, x3, x4, x190000, x190001, x190002, x190003, x190004, x190005 => if x4 < (x190005.length : Int) then (if 0 ≤ x4 then ((steepleref25_System_Own.f k x190000 x190001 x190002 x190003 x190004 x190005 ((rd_T106 x190005 x4).f0) ((rd_T106 x190005 x4).f1) ((rd_T106 x190005 x4).f2) ((rd_T106 x190005 x4).f3) ((rd_T106 x190005 x4).f4)).bind fun t191 => (steepleref25_Wires.l1 k x3 x4 t191 0 x190000 x190001 x190002 x190003 x190004 x190005)) else (none)) else (some x3)
def steepleref25_Wires.l1 : Nat → List (S47) → Int → List (S47) → Int → Int → Int → Int → Int → Int → List (S106) → Option ((List (S47)))
 | 0, _, _, _, _, _, _, _, _, _, _ => none
 | k + 1, x3, x4, x5, x6, x190000, x190001, x190002, x190003, x190004, x190005 => if x6 < (x5.length : Int) then (if 0 ≤ x6 then ((steepleref25_find.f k x3 ((rd_T47 x5 x6).f0) ((rd_T47 x5 x6).f1) ((rd_T47 x5 x6).f2) ((rd_T47 x5 x6).f3.f0) ((rd_T47 x5 x6).f3.f1)).bind fun t195 => (if t195 < 0 then (if x3.length < 3518437208883 then (steepleref25_Wires.l1 k (x3 ++ [(⟨(rd_T47 x5 x6).f0, (rd_T47 x5 x6).f1, (rd_T47 x5 x6).f2, (⟨(rd_T47 x5 x6).f3.f0, (rd_T47 x5 x6).f3.f1⟩ : S45)⟩ : S47)]) x4 x5 (wrap64 (x6 + 1)) x190000 x190001 x190002 x190003 x190004 x190005) else (none)) else (steepleref25_Wires.l1 k x3 x4 x5 (wrap64 (x6 + 1)) x190000 x190001 x190002 x190003 x190004 x190005))) else (none)) else (steepleref25_Wires.l0 k x3 (wrap64 (x4 + 1)) x190000 x190001 x190002 x190003 x190004 x190005)
end
def steepleref25_Wires.f (k : Nat) (a0_0 : Int) (a0_1 : Int) (a0_2 : Int) (a0_3 : Int) (a0_4 : Int) (l0_5 : List (S106)) : Option ((List (S47))) := steepleref25_Wires.l0 k ([] : List (S47)) 0 a0_0 a0_1 a0_2 a0_3 a0_4 l0_5
theorem steepleref25_Wires.mono_l : ∀ k, (∀ y0 y1 y2 y3 y4 y5 y6 y7, LeO (steepleref25_Wires.l0 k y0 y1 y2 y3 y4 y5 y6 y7) (steepleref25_Wires.l0 (k + 1) y0 y1 y2 y3 y4 y5 y6 y7)) ∧ (∀ y0 y1 y2 y3 y4 y5 y6 y7 y8 y9, LeO (steepleref25_Wires.l1 k y0 y1 y2 y3 y4 y5 y6 y7 y8 y9) (steepleref25_Wires.l1 (k + 1) y0 y1 y2 y3 y4 y5 y6 y7 y8 y9))
 | 0 => ⟨fun _ _ _ _ _ _ _ _ r h => by simp [steepleref25_Wires.l0] at h, fun _ _ _ _ _ _ _ _ _ _ r h => by simp [steepleref25_Wires.l1] at h⟩
 | k + 1 => by
  obtain ⟨ih0, ih1⟩ := steepleref25_Wires.mono_l k
  refine ⟨?_, ?_⟩
  ·intro y0 y1 y2 y3 y4 y5 y6 y7
   unfold steepleref25_Wires.l0
   repeat' first
   | (with_reducible exact ih0 _ _ _ _ _ _ _ _)
   | (with_reducible exact ih1 _ _ _ _ _ _ _ _ _ _)
   | (with_reducible exact steepleref25_System_Own.mono _ _ _ _ _ _ _ _ _ _ _ _)
   | (with_reducible exact steepleref25_find.mono _ _ _ _ _ _ _)
   | (with_reducible exact LeO.refl _)
   | (with_reducible exact LeO.none _)
   | (with_reducible refine LeO.ite ?_ ?_)
   | (with_reducible refine LeO.bind ?_ (fun _ => ?_))
   | exact ih0 _ _ _ _ _ _ _ _
   | exact ih1 _ _ _ _ _ _ _ _ _ _
   | exact steepleref25_System_Own.mono _ _ _ _ _ _ _ _ _ _ _ _
   | exact steepleref25_find.mono _ _ _ _ _ _ _
   | exact LeO.none _
   | refine LeO.ite ?_ ?_
   | refine LeO.bind ?_ (fun _ => ?_)
  ·intro y0 y1 y2 y3 y4 y5 y6 y7 y8 y9
   unfold steepleref25_Wires.l1
   repeat' first
   | (with_reducible exact ih0 _ _ _ _ _ _ _ _)
   | (with_reducible exact ih1 _ _ _ _ _ _ _ _ _ _)
   | (with_reducible exact steepleref25_System_Own.mono _ _ _ _ _ _ _ _ _ _ _ _)
   | (with_reducible exact steepleref25_find.mono _ _ _ _ _ _ _)
   | (with_reducible exact LeO.refl _)
   | (with_reducible exact LeO.none _)
   | (with_reducible refine LeO.ite ?_ ?_)
   | (with_reducible refine LeO.bind ?_ (fun _ => ?_))
   | exact ih0 _ _ _ _ _ _ _ _
   | exact ih1 _ _ _ _ _ _ _ _ _ _
   | exact steepleref25_System_Own.mono _ _ _ _ _ _ _ _ _ _ _ _
   | exact steepleref25_find.mono _ _ _ _ _ _ _
   | exact LeO.none _
   | refine LeO.ite ?_ ?_
   | refine LeO.bind ?_ (fun _ => ?_)
theorem steepleref25_Wires.mono : ∀ a0 a1 a2 a3 a4 a5 k, LeO (steepleref25_Wires.f k a0 a1 a2 a3 a4 a5) (steepleref25_Wires.f (k + 1) a0 a1 a2 a3 a4 a5) := by
 intro a0 a1 a2 a3 a4 a5 k
 obtain ⟨ih0, ih1⟩ := steepleref25_Wires.mono_l k
 unfold steepleref25_Wires.f
 repeat' first
   | (with_reducible exact ih0 _ _ _ _ _ _ _ _)
   | (with_reducible exact ih1 _ _ _ _ _ _ _ _ _ _)
   | (with_reducible exact steepleref25_System_Own.mono _ _ _ _ _ _ _ _ _ _ _ _)
   | (with_reducible exact steepleref25_find.mono _ _ _ _ _ _ _)
   | (with_reducible exact LeO.refl _)
   | (with_reducible exact LeO.none _)
   | (with_reducible refine LeO.ite ?_ ?_)
   | (with_reducible refine LeO.bind ?_ (fun _ => ?_))
   | exact ih0 _ _ _ _ _ _ _ _
   | exact ih1 _ _ _ _ _ _ _ _ _ _
   | exact steepleref25_System_Own.mono _ _ _ _ _ _ _ _ _ _ _ _
   | exact steepleref25_find.mono _ _ _ _ _ _ _
   | exact LeO.none _
   | refine LeO.ite ?_ ?_
   | refine LeO.bind ?_ (fun _ => ?_)
def steepleref25_Wires.T5 : Bool × List (List Nat × List Nat) := (true, [([], []), ([], []), ([1], [1]), ([], []), ([2, 3], [2, 3]), ([4], [4]), ([0, 5], [0, 5]), ([6, 6, 0, 1, 2, 3, 4, 5, 6], [6])])
def steepleref25_Wires.B5 : List Nat := [0, 0, 2, 0, 14, 30, 63, 127]
theorem steepleref25_Wires.tab5 : rtab .any (opsOf Try.f17 5) = steepleref25_Wires.T5 := by kernel_rfl
theorem steepleref25_Wires.bits5 : waitsOk steepleref25_Wires.T5.2 steepleref25_Wires.B5 = true := by kernel_rfl
set_option maxHeartbeats 8000000 in
set_option maxRecDepth 100000 in
theorem steepleref25_Wires.calls (k : Nat) (a0_0 : Int) (a0_1 : Int) (a0_2 : Int) (a0_3 : Int) (a0_4 : Int) (A0_5 : Option Addr) (c0_5 : Nat) (l0_5 : List (S106)) (r : List (S47)) (w : World) (hr0_5 : Kd.C k106 w A0_5 l0_5.length l0_5) (hc0_5 : l0_5.length ≤ c0_5) (h : steepleref25_Wires.f k a0_0 a0_1 a0_2 a0_3 a0_4 l0_5 = some r) :
  Calls Try.prog 17 #[.agg #[.int .i64 a0_0, .int .i64 a0_1, .int .i64 a0_2, .int .i64 a0_3, .int .i64 a0_4, .slice A0_5 l0_5.length c0_5]] w fun e w' => ∃ v0_ : Value, e = .returned (v0_) ∧ Kd.R k47 47 w' w.heap.size (fun _ => True) v0_ r ∧ Below w.heap.size w w' := by
 have hu28 := Try.underlying28; have hu106 := Try.underlying106; have hu47 := Try.underlying47; have HR0_5 := Aside0.mk hr0_5; have HC0_5 := Aside0.mk hc0_5; clear hr0_5 hc0_5; have HB := Aside0.mk (Below.refl w.heap.size w); have H : (steepleref25_Wires.l0 k ([] : List (S47)) 0 a0_0 a0_1 a0_2 a0_3 a0_4 l0_5) = some r := h; clear h; have H' := Aside0.mk H; clear H
 go_enter Try.func17, Try.ntmps17
 go_wp2_with (first | ((with_reducible refine gate_dst (N := 1) rfl ?_); refine box_event ?hg (N := 1) ?hd (cs := #[.int .i64 a0_0, .int .i64 a0_1, .int .i64 a0_2, .int .i64 a0_3, .int .i64 a0_4, .slice A0_5 l0_5.length c0_5]) (t := 28) ?hr ?_; (case hd => rfl); (case hg => rfl); (case hr => first | (go_simp; done) | (go_simp; rfl)); intro gb189 hg w2 hbox hb; have n0_ := Aside0.mk (below_step (blA HB.out) hb); have n1_ := Aside0.mk (hbox); have n2_ := Aside0.mk ((by rw [hg]; exact (below_size (blA HB.out)) : w.heap.size ≤ gb189)); have n3_ := Aside0.mk ((by rw [hg]; exact (below_size (blA HB.out)) : w.heap.size ≤ gb189)); clear HB; have HB := n0_; have BK189 := n1_; have GW189 := n2_; have GE189 := n3_; clear n0_ n1_ n2_ n3_; clear hb hbox hg))
 go_loopg [3, 4] k (fun kq v3 v4 w' => ∃ (x3_1 : List (S47)) (x4_1 : Int), v4 = .int .i64 x4_1 ∧ Aside0 (steepleref25_Wires.l0 kq x3_1 x4_1 a0_0 a0_1 a0_2 a0_3 a0_4 l0_5 = some r) ∧ Aside0 (kq ≤ k) ∧ Aside0 (Kd.R k47 47 w' w.heap.size (fun _ => True) v3 x3_1) ∧ Aside0 (w'.heap[gb189]? = some (.cells #[.int .i64 a0_0, .int .i64 a0_1, .int .i64 a0_2, .int .i64 a0_3, .int .i64 a0_4, (.slice A0_5 l0_5.length c0_5)] 28 (0, 0))) ∧ Aside0 (Below w.heap.size w w'))
 case atStart => exact ⟨(([] : List (S47))), (0), eqA, H', ⟨Nat.le_refl _⟩, ⟨by first | exact Kd.R_nil _ _ _ _ _ | exact Kd.N_nil _ _ _ _ _ | exact Kd.V_nil _ _ _ _ _ | exact Kd.Q_nil _ _ _ _ _ | exact Kd.S_nil _ _ _ _ _⟩, ⟨bkA BK189.out⟩, ⟨blA HB.out⟩⟩
 case round =>
  clear H'; (try clear c1); (try clear p2); obtain ⟨x3_1, x4_1, rfl, HA, HK1, HO_3, BK189, HB⟩ := hrel
  cases gk with
  | zero => exact absurd HA.out (by simp [steepleref25_Wires.l0])
  | succ k1 =>
   have H := HA.out; clear HA
   simp only [steepleref25_Wires.l0] at H
   by_cases c3 : x4_1 < (l0_5.length : Int)
   ·rw [if_pos c3] at H
    have c3b0 : decide (x4_1 < (l0_5.length : Int)) = true := decide_eq_true c3; clear c3
    by_cases c4 : 0 ≤ x4_1
    ·rw [if_pos c4] at H
     have c4b0 : decide (0 ≤ x4_1) = true := decide_eq_true c4; clear c4; replace H := Option.bind_eq_some_iff.mp H; obtain ⟨t191, A50, H⟩ := H; replace H : (steepleref25_Wires.l1 k1 x3_1 x4_1 t191 0 a0_0 a0_1 a0_2 a0_3 a0_4 l0_5) = some r := H; have A5 := Aside0.mk A50; clear A50; have H' := Aside0.mk H; clear H
     have hcz6 := fun i => blk_cell BK189.out i
     have hfz6 := fun i => blk_frozen BK189.out i
     try go_wp2
     have n0_ := Aside0.mk (Kd.R_drew HO_3.out); have n1_ := Aside0.mk (blk_drew BK189.out); have n2_ := Aside0.mk (below_drew1 HB.out); clear HO_3; clear BK189; clear HB; have HO_3 := n0_; have BK189 := n1_; have HB := n2_; clear n0_ n1_ n2_
     have p190 : 0 ≤ (x4_1 : Int) := of_decide_eq_true (by first | (with_reducible assumption) | assumption)
     have q190 : x4_1 < (l0_5.length : Int) := of_decide_eq_true (by first | (with_reducible assumption) | assumption)
     obtain ⟨ad190, e190, hx190_0, hx190_1, hx190_2, hx190_3, hx190_4⟩ := at_T106 HR0_5.out x4_1 p190 q190; have hw190_4 := hx190_4; have hw190_3 := hx190_3; have hw190_2 := hx190_2; have hw190_1 := hx190_1; have hw190_0 := hx190_0
     cases e190
     replace hx190_0 := (HB.out.cell (World.block_lt_of_cell? w _ hx190_0)).trans hx190_0; replace hx190_1 := (HB.out.cell (World.block_lt_of_cell? w _ hx190_1)).trans hx190_1; replace hx190_2 := (HB.out.cell (World.block_lt_of_cell? w _ hx190_2)).trans hx190_2; replace hx190_3 := (HB.out.cell (World.block_lt_of_cell? w _ hx190_3)).trans hx190_3; replace hx190_4 := (HB.out.cell (World.block_lt_of_cell? w _ hx190_4)).trans hx190_4; replace p190 := eq_true p190; replace q190 := eq_true q190
     refine start_ (n := 8) (S := fun w' => w'.cell? ⟨gb189, 0, none⟩ = some (.int .i64 a0_0) ∧ w'.cell? ⟨gb189, 1, none⟩ = some (.int .i64 a0_1) ∧ w'.cell? ⟨gb189, 2, none⟩ = some (.int .i64 a0_2) ∧ w'.cell? ⟨gb189, 3, none⟩ = some (.int .i64 a0_3) ∧ w'.cell? ⟨gb189, 4, none⟩ = some (.int .i64 a0_4) ∧ w'.cell? ⟨gb189, 5, none⟩ = some (.slice (some ad190) l0_5.length c0_5) ∧ w'.cell? (ad190.add ((x4_1).toNat * 5)) = some (.int .i64 ((rd_T106 l0_5 x4_1).f0)) ∧ w'.cell? ⟨(ad190.add ((x4_1).toNat * 5)).block, (ad190.add ((x4_1).toNat * 5)).off + 1, none⟩ = some (.int .i64 ((rd_T106 l0_5 x4_1).f1)) ∧ w'.cell? ⟨(ad190.add ((x4_1).toNat * 5)).block, (ad190.add ((x4_1).toNat * 5)).off + 2, none⟩ = some (.int .i64 ((rd_T106 l0_5 x4_1).f2)) ∧ w'.cell? ⟨(ad190.add ((x4_1).toNat * 5)).block, (ad190.add ((x4_1).toNat * 5)).off + 3, none⟩ = some (.int .i64 ((rd_T106 l0_5 x4_1).f3)) ∧ w'.cell? ⟨(ad190.add ((x4_1).toNat * 5)).block, (ad190.add ((x4_1).toNat * 5)).off + 4, none⟩ = some (.int .i64 ((rd_T106 l0_5 x4_1).f4))) (ds := []) #[false, false, false, false, false, false, false, false] (by kernel_rfl) rfl rfl ⟨(blk_cell BK189.out 0).trans rfl, (blk_cell BK189.out 1).trans rfl, (blk_cell BK189.out 2).trans rfl, (blk_cell BK189.out 3).trans rfl, (blk_cell BK189.out 4).trans rfl, (blk_cell BK189.out 5).trans rfl, (clA HB.out hw190_0), (clA HB.out hw190_1), (clA HB.out hw190_2), (clA HB.out hw190_3), (clA HB.out hw190_4)⟩ (fun hHeld => ?_); refine with_tabW steepleref25_Wires.tab5 steepleref25_Wires.bits5 (fun HT_ HW_ => ?_)
     generalize wr.drew = w7 at HO_3 BK189 HB hx190_0 hx190_1 hx190_2 hx190_3 hx190_4 hHeld ⊢
     refine pureA 1 (some 15) HT_.out ?_
     refine pureA 3 (some 17) HT_.out ?_
     refine takeA 0 (some 14) rfl HT_.out HW_.out hHeld (Or.inl ⟨by rfl, by rintro w' ⟨s0, s1, s2, s3, s4, s5, s6, s7, s8, s9, s10⟩; go_simp; with_reducible rfl⟩) ?_
     refine takeA 2 (some 16) rfl HT_.out HW_.out hHeld (Or.inl ⟨by rfl, by rintro w' ⟨s0, s1, s2, s3, s4, s5, s6, s7, s8, s9, s10⟩; go_simp; with_reducible rfl⟩) ?_
     refine pureA 4 (some 18) HT_.out ?_
     refine takeA 5 (some 19) rfl HT_.out HW_.out hHeld (Or.inl ⟨by rfl, by rintro w' ⟨s0, s1, s2, s3, s4, s5, s6, s7, s8, s9, s10⟩; go_simp; with_reducible rfl⟩) ?_
     refine one_ (i := 6) (N := some 20) #[true, true, true, true, true, true, true, false] rfl rfl (one_of HT_.out (by kernel_rfl)) (by decide) (fun K hK => ?_)
     refine goes_ Try.func61 (by kernel_rfl) rfl #[.agg #[.int .i64 a0_0, .int .i64 a0_1, .int .i64 a0_2, .int .i64 a0_3, .int .i64 a0_4, .slice (some ad190) l0_5.length c0_5], .agg #[.int .i64 ((rd_T106 l0_5 x4_1).f0), .int .i64 ((rd_T106 l0_5 x4_1).f1), .int .i64 ((rd_T106 l0_5 x4_1).f2), .int .i64 ((rd_T106 l0_5 x4_1).f3), .int .i64 ((rd_T106 l0_5 x4_1).f4)]] (by rfl) rfl rfl gsA ?_
     with_reducible refine (steepleref25_System_Own.calls k1 a0_0 a0_1 a0_2 a0_3 a0_4 _ _ l0_5 ((rd_T106 l0_5 x4_1).f0) ((rd_T106 l0_5 x4_1).f1) ((rd_T106 l0_5 x4_1).f2) ((rd_T106 l0_5 x4_1).f3) ((rd_T106 l0_5 x4_1).f4) t191 _ ?side1 ?side2 A5.out).mono ?_
     (case side1 => repeat (first | exact (Kd.C_below HR0_5.out HB.out) | (with_reducible refine Kd.C_alloc ?_ _) | (with_reducible refine Kd.C_drewN ?_ _) | (with_reducible refine Kd.C_drew ?_)))
     (case side2 => exact HC0_5.out)
     rintro e w8 ⟨v192, rfl, ho0, hb⟩
     refine ⟨_, rfl, ?_⟩
     have n0_ := Aside0.mk (Kd.R_elder' (raA HO_3.out) (Kd.R_base ho0) hb)
     have n1_ := Aside0.mk (Kd.R_lower (Kd.R_new' ho0 (Kd.R_lt (raA HO_3.out))) (below_size (blA HB.out)))
     have n2_ := Aside0.mk (blk_below (bkA BK189.out) hb); have n3_ := Aside0.mk (below_step (blA HB.out) hb); clear HO_3; clear BK189; clear HB; have HO_3 := n0_; have HO193 := n1_; have BK189 := n2_; have HB := n3_; clear n0_ n1_ n2_ n3_
     (try clear hb)
     (try clear ho0)
     refine hK.out _ _ ⟨(blk_cell BK189.out 0).trans rfl, (blk_cell BK189.out 1).trans rfl, (blk_cell BK189.out 2).trans rfl, (blk_cell BK189.out 3).trans rfl, (blk_cell BK189.out 4).trans rfl, (blk_cell BK189.out 5).trans rfl, (clA HB.out hw190_0), (clA HB.out hw190_1), (clA HB.out hw190_2), (clA HB.out hw190_3), (clA HB.out hw190_4)⟩ (fun hHeld => ?_)
     clear hK K
     refine normA ?_
     refine pureA 7 (some 5) HT_.out ?_
     refine done_ (done_of HT_.out (by kernel_rfl)) ?_
     try go_wp2
     go_loopg [3, 6] k1 (fun kq v3 v6 w' => ∃ (x3_2 : List (S47)) (x6_2 : Int), v6 = .int .i64 x6_2 ∧ Aside0 (steepleref25_Wires.l1 kq x3_2 x4_1 t191 x6_2 a0_0 a0_1 a0_2 a0_3 a0_4 l0_5 = some r) ∧ Aside0 (kq ≤ k1) ∧ Aside0 (Kd.R k47 47 w' w.heap.size (fun k_ => some k_ ≠ (v192 : Value).ownBlock) v3 x3_2) ∧ Aside0 (Kd.R k47 47 w' w.heap.size (fun k_ => some k_ ≠ (v3 : Value).ownBlock) v192 t191) ∧ Aside0 (w'.heap[gb189]? = some (.cells #[.int .i64 a0_0, .int .i64 a0_1, .int .i64 a0_2, .int .i64 a0_3, .int .i64 a0_4, (.slice (some ad190) l0_5.length c0_5)] 28 (0, 0))) ∧ Aside0 (Below w.heap.size w w'))
     case atStart => exact ⟨(x3_1), (0), eqA, H', ⟨Nat.le_refl _⟩, ⟨by (with_reducible repeat (first | apply Kd.R_alloc | apply Kd.R_drewN | apply Kd.R_drew)); exact Kd.R_mono HO_3.out (fun _ hk => hk.2)⟩, ⟨by (with_reducible repeat (first | apply Kd.R_alloc | apply Kd.R_drewN | apply Kd.R_drew)); exact Kd.R_mono HO193.out (fun _ hk => hk.2)⟩, ⟨bkA BK189.out⟩, ⟨blA HB.out⟩⟩
     case round =>
      clear H'; (try clear c1); (try clear p1); (try clear q1); (try clear hx1); (try clear p2); (try clear c3); (try clear c3b0); (try clear c4); (try clear c4b0); (try clear c6); (try clear hcz6); (try clear hfz6); (try clear hx190_0); (try clear hx190_1); (try clear hx190_2); (try clear hx190_3); (try clear hx190_4); (try clear p190); (try clear p2); (try clear q190); obtain ⟨x3_2, x6_2, rfl, HA, HK2, HO_3, HO_5, BK189, HB⟩ := hrel
      cases gk with
      | zero => exact absurd HA.out (by simp [steepleref25_Wires.l1])
      | succ k2 =>
       have H := HA.out; clear HA
       simp only [steepleref25_Wires.l1] at H
       by_cases c9 : x6_2 < (t191.length : Int)
       ·rw [if_pos c9] at H
        have c9b0 : decide (x6_2 < (t191.length : Int)) = true := decide_eq_true c9; clear c9
        by_cases c10 : 0 ≤ x6_2
        ·rw [if_pos c10] at H
         have c10b0 : decide (0 ≤ x6_2) = true := decide_eq_true c10; clear c10; replace H := Option.bind_eq_some_iff.mp H; obtain ⟨t195, A110, H⟩ := H
         (try dsimp only at H)
         have A11 := Aside0.mk A110; clear A110
         by_cases c12 : t195 < 0
         ·rw [if_pos c12] at H
          have c12b0 : decide (t195 < 0) = true := decide_eq_true c12; clear c12
          by_cases c13 : x3_2.length < 3518437208883
          ·rw [if_pos c13] at H
           have LMc13 := Aside0.mk c13; clear c13
           obtain ⟨y197, hy197⟩ : ∃ y_ : List (S47), y_ = (x3_2 ++ [(⟨(rd_T47 t191 x6_2).f0, (rd_T47 t191 x6_2).f1, (rd_T47 t191 x6_2).f2, (⟨(rd_T47 t191 x6_2).f3.f0, (rd_T47 t191 x6_2).f3.f1⟩ : S45)⟩ : S47)]) := ⟨_, rfl⟩
           replace H : (steepleref25_Wires.l1 k2 y197 x4_1 t191 (wrap64 (x6_2 + 1)) a0_0 a0_1 a0_2 a0_3 a0_4 l0_5) = some r := by first | (rw [hy197]; with_reducible exact H) | (have H2_ := (Option.bind_some _ _).symm.trans H; rw [hy197]; with_reducible exact H2_) | (have H2_ := (Option.bind_some _ _).symm.trans H; with_reducible exact H2_) | with_reducible exact H | (rw [hy197]; exact H) | exact H
           have Ny197 := Aside0.mk hy197; clear hy197; have H' := Aside0.mk H; clear H; obtain ⟨Ao14, co14, eo14⟩ := Kd.R_slice HO_5.out; subst eo14
           have p194 : 0 ≤ (x6_2 : Int) := of_decide_eq_true (by first | (with_reducible assumption) | assumption)
           have q194 : x6_2 < (t191.length : Int) := of_decide_eq_true (by first | (with_reducible assumption) | assumption)
           obtain ⟨ad194, e194, hx194_0, hx194_1, hx194_2, hx194_3, hx194_4⟩ := at_T47 (Kd.R_reads' HO_5.out).2.2 x6_2 p194 q194
           cases e194
           replace p194 := eq_true p194; replace q194 := eq_true q194; obtain ⟨Ao15, co15, eo15⟩ := Kd.R_slice HO_3.out; subst eo15
           go_wp2_with (first | ((with_reducible refine gate_callee (f := 62) rfl ?_); refine goesL_ (some 32) rfl rfl Try.func62 (by kernel_rfl) rfl #[.slice Ao15 x3_2.length co15, .agg #[.int .i64 ((rd_T47 t191 x6_2).f0), .int .i64 ((rd_T47 t191 x6_2).f1), .int .i64 ((rd_T47 t191 x6_2).f2), .int .u64 ((rd_T47 t191 x6_2).f3.f0), .int .u64 ((rd_T47 t191 x6_2).f3.f1)]] rfl gsA ?_; (with_reducible refine (steepleref25_find.calls k2 _ _ x3_2 ((rd_T47 t191 x6_2).f0) ((rd_T47 t191 x6_2).f1) ((rd_T47 t191 x6_2).f2) ((rd_T47 t191 x6_2).f3.f0) ((rd_T47 t191 x6_2).f3.f1) t195 _ ?side1 ?side2 A11.out).mono ?_); (case side1 => repeat (first | exact (Kd.R_reads' HO_3.out).2.2 | (with_reducible refine Kd.C_alloc ?_ _) | (with_reducible refine Kd.C_drewN ?_ _) | (with_reducible refine Kd.C_drew ?_))); (case side2 => exact (Kd.R_reads' HO_3.out).2.1); rintro e w16 ⟨rfl, hb⟩; refine ⟨_, rfl, ?_⟩; have n0_ := Aside0.mk (Kd.R_below (raA HO_3.out) hb); have n1_ := Aside0.mk (Kd.R_below (raA HO_5.out) hb); have n2_ := Aside0.mk (blk_below (bkA BK189.out) hb); have n3_ := Aside0.mk (below_step (blA HB.out) hb); clear HO_3; clear HO_5; clear BK189; clear HB; have HO_3 := n0_; have HO_5 := n1_; have BK189 := n2_; have HB := n3_; clear n0_ n1_ n2_ n3_; (try clear hb); have p196 : 0 ≤ (x6_2 : Int) := of_decide_eq_true (by first | (with_reducible assumption) | assumption); have q196 : x6_2 < (t191.length : Int) := of_decide_eq_true (by first | (with_reducible assumption) | assumption); obtain ⟨ad196, e196, hx196_0, hx196_1, hx196_2, hx196_3, hx196_4⟩ := at_T47 (Kd.R_reads' HO_5.out).2.2 x6_2 p196 q196; obtain rfl : ad194 = ad196 := (by injection e196); replace p196 := eq_true p196; replace q196 := eq_true q196) | ((with_reducible refine gate_builtin (b := .append) (xs := #[.tmp 34, .tmp 39]) rfl ?_); at_builtin; refine Kd.R_append k47 (w0 := w) w.heap.size rfl (.tmp 34) (.tmp 39) 38 47 (.agg #[(.int .i64 0), (.int .i64 0), (.int .i64 0), (.int .u64 0), (.int .u64 0)]) 40 rfl Try.underlying38 info47 rfl (by decide) (by omega) (.slice Ao15 x3_2.length co15) x3_2 (⟨(rd_T47 t191 x6_2).f0, (rd_T47 t191 x6_2).f1, (rd_T47 t191 x6_2).f2, (⟨(rd_T47 t191 x6_2).f3.f0, (rd_T47 t191 x6_2).f3.f1⟩ : S45)⟩ : S47) [.int .i64 ((rd_T47 t191 x6_2).f0), .int .i64 ((rd_T47 t191 x6_2).f1), .int .i64 ((rd_T47 t191 x6_2).f2), .int .u64 ((rd_T47 t191 x6_2).f3.f0), .int .u64 ((rd_T47 t191 x6_2).f3.f1)] (fun k_ => some k_ ≠ (.slice (some ad194) t191.length co14 : Value).ownBlock) (fun _ => False) rfl rfl ?aP (fun _ hk => hk.elim) ?aF ?aO ?aB ?aS ?aL ?_; (case aP => exact k47_mkM _ _ _ (⟨(rd_T47 t191 x6_2).f0, (rd_T47 t191 x6_2).f1, (rd_T47 t191 x6_2).f2, (⟨(rd_T47 t191 x6_2).f3.f0, (rd_T47 t191 x6_2).f3.f1⟩ : S45)⟩ : S47)); (case aB => exact (blA HB.out)); (case aF => exact (fun k_ hk => Kd.fresh' (Kd.R_lt (raA HO_5.out)) k_ hk)); (case aO => exact (raA HO_3.out)); (case aS => exact (below_size (blA HB.out))); (case aL => have := LMc13.out; omega); intro v198 w17 ho hb hg hat; rw [← Ny197.out] at ho; have n0_ := Aside0.mk (Kd.R_after (ok := (fun _ => True)) (by (with_reducible repeat (first | apply Kd.R_alloc | apply Kd.R_drewN | apply Kd.R_drew)); exact Kd.R_mono HO_5.out (fun _ hk => ⟨trivial, hk⟩)) hg hat); have n1_ := Aside0.mk (blk_grown (bkA BK189.out) hg (Kd.R_ne HO_3.out BK189.out (by decide))); have n2_ := Aside0.mk (hb); have n3_ := Aside0.mk (ho); clear HO_5; clear BK189; clear HB; clear HO_3; have HO_5 := n0_; have BK189 := n1_; have HB := n2_; have HO199 := n3_; clear n0_ n1_ n2_ n3_; clear ho hb hg hat))
           go_roundg k2
           case measure => have := HK1.out; have := HK2.out; omega
           case rel => exact ⟨(y197), (wrap64 (x6_2 + 1)), eqA, H', ⟨by have := HK1.out; have := HK2.out; omega⟩, ⟨raA HO199.out⟩, ⟨by (with_reducible repeat (first | apply Kd.R_alloc | apply Kd.R_drewN | apply Kd.R_drew)); exact Kd.R_mono HO_5.out (fun _ hk => hk.2)⟩, ⟨bkA BK189.out⟩, ⟨blA HB.out⟩⟩
          ·rw [if_neg c13] at H
           exact absurd H (by simp)
         ·rw [if_neg c12] at H
          have c12b0 : decide (t195 < 0) = false := decide_eq_false c12; clear c12; have H' := Aside0.mk H; clear H; obtain ⟨Ao18, co18, eo18⟩ := Kd.R_slice HO_5.out; subst eo18
          have p194 : 0 ≤ (x6_2 : Int) := of_decide_eq_true (by first | (with_reducible assumption) | assumption)
          have q194 : x6_2 < (t191.length : Int) := of_decide_eq_true (by first | (with_reducible assumption) | assumption)
          obtain ⟨ad194, e194, hx194_0, hx194_1, hx194_2, hx194_3, hx194_4⟩ := at_T47 (Kd.R_reads' HO_5.out).2.2 x6_2 p194 q194
          cases e194
          replace p194 := eq_true p194; replace q194 := eq_true q194; obtain ⟨Ao19, co19, eo19⟩ := Kd.R_slice HO_3.out; subst eo19
          go_wp2_with (first | ((with_reducible refine gate_callee (f := 62) rfl ?_); refine goesL_ (some 32) rfl rfl Try.func62 (by kernel_rfl) rfl #[.slice Ao19 x3_2.length co19, .agg #[.int .i64 ((rd_T47 t191 x6_2).f0), .int .i64 ((rd_T47 t191 x6_2).f1), .int .i64 ((rd_T47 t191 x6_2).f2), .int .u64 ((rd_T47 t191 x6_2).f3.f0), .int .u64 ((rd_T47 t191 x6_2).f3.f1)]] rfl gsA ?_; (with_reducible refine (steepleref25_find.calls k2 _ _ x3_2 ((rd_T47 t191 x6_2).f0) ((rd_T47 t191 x6_2).f1) ((rd_T47 t191 x6_2).f2) ((rd_T47 t191 x6_2).f3.f0) ((rd_T47 t191 x6_2).f3.f1) t195 _ ?side1 ?side2 A11.out).mono ?_); (case side1 => repeat (first | exact (Kd.R_reads' HO_3.out).2.2 | (with_reducible refine Kd.C_alloc ?_ _) | (with_reducible refine Kd.C_drewN ?_ _) | (with_reducible refine Kd.C_drew ?_))); (case side2 => exact (Kd.R_reads' HO_3.out).2.1); rintro e w20 ⟨rfl, hb⟩; refine ⟨_, rfl, ?_⟩; have n0_ := Aside0.mk (Kd.R_below (raA HO_3.out) hb); have n1_ := Aside0.mk (Kd.R_below (raA HO_5.out) hb); have n2_ := Aside0.mk (blk_below (bkA BK189.out) hb); have n3_ := Aside0.mk (below_step (blA HB.out) hb); clear HO_3; clear HO_5; clear BK189; clear HB; have HO_3 := n0_; have HO_5 := n1_; have BK189 := n2_; have HB := n3_; clear n0_ n1_ n2_ n3_; (try clear hb)))
          go_roundg k2
          case measure => have := HK1.out; have := HK2.out; omega
          case rel => exact ⟨(x3_2), (wrap64 (x6_2 + 1)), eqA, H', ⟨by have := HK1.out; have := HK2.out; omega⟩, ⟨raA HO_3.out⟩, ⟨raA HO_5.out⟩, ⟨bkA BK189.out⟩, ⟨blA HB.out⟩⟩
        ·rw [if_neg c10] at H
         exact absurd H (by simp)
       ·rw [if_neg c9] at H
        have c9b0 : decide (x6_2 < (t191.length : Int)) = false := decide_eq_false c9; clear c9; have H' := Aside0.mk H; clear H; obtain ⟨Ao21, co21, eo21⟩ := Kd.R_slice HO_5.out; subst eo21
        go_wp2
        go_roundg k2
        case measure => have := HK1.out; have := HK2.out; omega
        case rel => exact ⟨(x3_2), (wrap64 (x4_1 + 1)), eqA, H', ⟨by have := HK1.out; have := HK2.out; omega⟩, ⟨by (with_reducible repeat (first | apply Kd.R_alloc | apply Kd.R_drewN | apply Kd.R_drew)); exact Kd.R_mono HO_3.out (fun _ hk => trivial)⟩, ⟨bkA BK189.out⟩, ⟨blA HB.out⟩⟩
    ·rw [if_neg c4] at H
     exact absurd H (by simp)
   ·rw [if_neg c3] at H
    have c3b0 : decide (x4_1 < (l0_5.length : Int)) = false := decide_eq_false c3; clear c3; obtain rfl := Option.some.inj H
    have hcz22 := fun i => blk_cell BK189.out i
    have hfz22 := fun i => blk_frozen BK189.out i
    go_wp2
    go_ret
    exact ⟨_, by first | rfl | (simp [errW_none, errW_some] <;> rfl) | (simp [*, errW_none, errW_some] <;> rfl), raA HO_3.out, blA HB.out⟩
end Go.Proofs.Ythiiodgpdoljoaa.PLc
namespace Go.Proofs.Ythiiodgpdoljoaa.PLc
open Go.RowKit Go.Proofs.YthiiodgpdoljoaaW.PrintWords Go.Proofs.YthiiodgpdoljoaaW.PrintLast Go.Proofs.YthiiodgpdoljoaaW.PrintMore
attribute [local go_sem] max2_int min2_int max_two min_two max_three min_three max_four min_four   -- for this text's walks alone
set_option linter.unusedVariables false
set_option linter.unusedSimpArgs false
/-! ### steepleref25_v: function 91 -/
def steepleref25_v.f (a0 : Int) : Option (Int × Int × Int × Int × Int) := some (2, a0, 0, 0, 0)
set_option maxHeartbeats 8000000 in
set_option maxRecDepth 100000 in
theorem steepleref25_v.calls (a0 : Int) (r1 : Int) (r2 : Int) (r3 : Int) (r4 : Int) (r5 : Int) (w : World) (h : steepleref25_v.f a0 = some (r1, r2, r3, r4, r5)) :
  Calls Try.prog 91 #[.int .i64 a0] w fun e w' => e = .returned (.agg #[.int .i64 r1, .int .i64 r2, .int .i64 r3, .int .u64 r4, .int .u64 r5]) ∧ Below w.heap.size w w' := by
 have hu52 := Try.underlying52; have HB := Aside0.mk (Below.refl w.heap.size w); have H : (some (2, a0, 0, 0, 0)) = some (r1, r2, r3, r4, r5) := h; clear h
 simp only [Option.some.injEq, Prod.mk.injEq] at H
 obtain ⟨rfl, rfl, rfl, rfl, rfl⟩ := H
 go_enter Try.func91, Try.ntmps91
 go_wp2_with (first | ((with_reducible refine gate_dst (N := 2) rfl ?_); refine box_event ?hg (N := 2) ?hd (cs := #[.int .i64 0, .int .i64 0, .int .i64 0, .int .u64 0, .int .u64 0]) (t := 52) ?hr ?_; (case hd => rfl); (case hg => rfl); (case hr => first | (go_simp; done) | (go_simp; rfl)); intro gb200 hg w2 hbox hb; have n0_ := Aside0.mk (below_step (blA HB.out) hb); have n1_ := Aside0.mk (hbox); have n2_ := Aside0.mk ((by rw [hg]; exact (below_size (blA HB.out)) : w.heap.size ≤ gb200)); have n3_ := Aside0.mk ((by rw [hg]; exact (below_size (blA HB.out)) : w.heap.size ≤ gb200)); clear HB; have HB := n0_; have BK200 := n1_; have GW200 := n2_; have GE200 := n3_; clear n0_ n1_ n2_ n3_; clear hb hbox hg; have hcz3 := fun i => blk_cell BK200.out i; have hfz3 := fun i => blk_frozen BK200.out i; ))
 refine bodyPost_ret (results_cell_row rfl _ _ gb200 52 #[.int .i64 2, .int .i64 a0, .int .i64 0, .int .u64 0, .int .u64 0] (0, 0) _ rfl (by refine bkA ?_; refine blk_put (cs := #[.int .i64 2, .int .i64 a0, .int .i64 0, .int .u64 0, .int .u64 0]) ?_ 4 _ rfl; refine bkA ?_; refine blk_put (cs := #[.int .i64 2, .int .i64 a0, .int .i64 0, .int .u64 0, .int .u64 0]) ?_ 3 _ rfl; refine bkA ?_; refine blk_put (cs := #[.int .i64 2, .int .i64 a0, .int .i64 0, .int .u64 0, .int .u64 0]) ?_ 2 _ rfl; refine bkA ?_; refine blk_put (cs := #[.int .i64 2, .int .i64 0, .int .i64 0, .int .u64 0, .int .u64 0]) ?_ 1 _ rfl; refine bkA ?_; refine blk_put (cs := #[.int .i64 0, .int .i64 0, .int .i64 0, .int .u64 0, .int .u64 0]) ?_ 0 _ rfl; refine bkA ?_; exact BK200.out) Try.underlying52 rfl (by kernel_rfl)) rfl ?_
 exact ⟨by first | rfl | (simp [errW_none, errW_some] <;> rfl) | (simp [*, errW_none, errW_some] <;> rfl), blA HB.out⟩
/-! ### steepleref25_plus: function 92 -/
def steepleref25_plus.f (a0 : Int) (a1 : Int) : Option (Int × Int × Int × Int × Int) := some (3, a0, a1, 0, 0)
set_option maxHeartbeats 8000000 in
set_option maxRecDepth 100000 in
theorem steepleref25_plus.calls (a0 : Int) (a1 : Int) (r1 : Int) (r2 : Int) (r3 : Int) (r4 : Int) (r5 : Int) (w : World) (h : steepleref25_plus.f a0 a1 = some (r1, r2, r3, r4, r5)) :
  Calls Try.prog 92 #[.int .i64 a0, .int .i64 a1] w fun e w' => e = .returned (.agg #[.int .i64 r1, .int .i64 r2, .int .i64 r3, .int .u64 r4, .int .u64 r5]) ∧ Below w.heap.size w w' := by
 have hu52 := Try.underlying52; have HB := Aside0.mk (Below.refl w.heap.size w); have H : (some (3, a0, a1, 0, 0)) = some (r1, r2, r3, r4, r5) := h; clear h
 simp only [Option.some.injEq, Prod.mk.injEq] at H
 obtain ⟨rfl, rfl, rfl, rfl, rfl⟩ := H
 go_enter Try.func92, Try.ntmps92
 go_wp2_with (first | ((with_reducible refine gate_dst (N := 4) rfl ?_); refine box_event ?hg (N := 4) ?hd (cs := #[.int .i64 0, .int .i64 0, .int .i64 0, .int .u64 0, .int .u64 0]) (t := 52) ?hr ?_; (case hd => rfl); (case hg => rfl); (case hr => first | (go_simp; done) | (go_simp; rfl)); intro gb201 hg w3 hbox hb; have n0_ := Aside0.mk (below_step (blA HB.out) hb); have n1_ := Aside0.mk (hbox); have n2_ := Aside0.mk ((by rw [hg]; exact (below_size (blA HB.out)) : w.heap.size ≤ gb201)); have n3_ := Aside0.mk ((by rw [hg]; exact (below_size (blA HB.out)) : w.heap.size ≤ gb201)); clear HB; have HB := n0_; have BK201 := n1_; have GW201 := n2_; have GE201 := n3_; clear n0_ n1_ n2_ n3_; clear hb hbox hg; have hcz4 := fun i => blk_cell BK201.out i; have hfz4 := fun i => blk_frozen BK201.out i; ))
 refine bodyPost_ret (results_cell_row rfl _ _ gb201 52 #[.int .i64 3, .int .i64 a0, .int .i64 a1, .int .u64 0, .int .u64 0] (0, 0) _ rfl (by refine bkA ?_; refine blk_put (cs := #[.int .i64 3, .int .i64 a0, .int .i64 a1, .int .u64 0, .int .u64 0]) ?_ 4 _ rfl; refine bkA ?_; refine blk_put (cs := #[.int .i64 3, .int .i64 a0, .int .i64 a1, .int .u64 0, .int .u64 0]) ?_ 3 _ rfl; refine bkA ?_; refine blk_put (cs := #[.int .i64 3, .int .i64 a0, .int .i64 0, .int .u64 0, .int .u64 0]) ?_ 2 _ rfl; refine bkA ?_; refine blk_put (cs := #[.int .i64 3, .int .i64 0, .int .i64 0, .int .u64 0, .int .u64 0]) ?_ 1 _ rfl; refine bkA ?_; refine blk_put (cs := #[.int .i64 0, .int .i64 0, .int .i64 0, .int .u64 0, .int .u64 0]) ?_ 0 _ rfl; refine bkA ?_; exact BK201.out) Try.underlying52 rfl (by kernel_rfl)) rfl ?_
 exact ⟨by first | rfl | (simp [errW_none, errW_some] <;> rfl) | (simp [*, errW_none, errW_some] <;> rfl), blA HB.out⟩
/-! ### steepleref25_times: function 93 -/
def steepleref25_times.f (a0 : Int) (a1 : Int) : Option (Int × Int × Int × Int × Int) := some (4, a0, a1, 0, 0)
set_option maxHeartbeats 8000000 in
set_option maxRecDepth 100000 in
theorem steepleref25_times.calls (a0 : Int) (a1 : Int) (r1 : Int) (r2 : Int) (r3 : Int) (r4 : Int) (r5 : Int) (w : World) (h : steepleref25_times.f a0 a1 = some (r1, r2, r3, r4, r5)) :
  Calls Try.prog 93 #[.int .i64 a0, .int .i64 a1] w fun e w' => e = .returned (.agg #[.int .i64 r1, .int .i64 r2, .int .i64 r3, .int .u64 r4, .int .u64 r5]) ∧ Below w.heap.size w w' := by
 have hu52 := Try.underlying52; have HB := Aside0.mk (Below.refl w.heap.size w); have H : (some (4, a0, a1, 0, 0)) = some (r1, r2, r3, r4, r5) := h; clear h
 simp only [Option.some.injEq, Prod.mk.injEq] at H
 obtain ⟨rfl, rfl, rfl, rfl, rfl⟩ := H
 go_enter Try.func93, Try.ntmps93
 go_wp2_with (first | ((with_reducible refine gate_dst (N := 4) rfl ?_); refine box_event ?hg (N := 4) ?hd (cs := #[.int .i64 0, .int .i64 0, .int .i64 0, .int .u64 0, .int .u64 0]) (t := 52) ?hr ?_; (case hd => rfl); (case hg => rfl); (case hr => first | (go_simp; done) | (go_simp; rfl)); intro gb202 hg w3 hbox hb; have n0_ := Aside0.mk (below_step (blA HB.out) hb); have n1_ := Aside0.mk (hbox); have n2_ := Aside0.mk ((by rw [hg]; exact (below_size (blA HB.out)) : w.heap.size ≤ gb202)); have n3_ := Aside0.mk ((by rw [hg]; exact (below_size (blA HB.out)) : w.heap.size ≤ gb202)); clear HB; have HB := n0_; have BK202 := n1_; have GW202 := n2_; have GE202 := n3_; clear n0_ n1_ n2_ n3_; clear hb hbox hg; have hcz4 := fun i => blk_cell BK202.out i; have hfz4 := fun i => blk_frozen BK202.out i; ))
 refine bodyPost_ret (results_cell_row rfl _ _ gb202 52 #[.int .i64 4, .int .i64 a0, .int .i64 a1, .int .u64 0, .int .u64 0] (0, 0) _ rfl (by refine bkA ?_; refine blk_put (cs := #[.int .i64 4, .int .i64 a0, .int .i64 a1, .int .u64 0, .int .u64 0]) ?_ 4 _ rfl; refine bkA ?_; refine blk_put (cs := #[.int .i64 4, .int .i64 a0, .int .i64 a1, .int .u64 0, .int .u64 0]) ?_ 3 _ rfl; refine bkA ?_; refine blk_put (cs := #[.int .i64 4, .int .i64 a0, .int .i64 0, .int .u64 0, .int .u64 0]) ?_ 2 _ rfl; refine bkA ?_; refine blk_put (cs := #[.int .i64 4, .int .i64 0, .int .i64 0, .int .u64 0, .int .u64 0]) ?_ 1 _ rfl; refine bkA ?_; refine blk_put (cs := #[.int .i64 0, .int .i64 0, .int .i64 0, .int .u64 0, .int .u64 0]) ?_ 0 _ rfl; refine bkA ?_; exact BK202.out) Try.underlying52 rfl (by kernel_rfl)) rfl ?_
 exact ⟨by first | rfl | (simp [errW_none, errW_some] <;> rfl) | (simp [*, errW_none, errW_some] <;> rfl), blA HB.out⟩
end Go.Proofs.Ythiiodgpdoljoaa.PLc
