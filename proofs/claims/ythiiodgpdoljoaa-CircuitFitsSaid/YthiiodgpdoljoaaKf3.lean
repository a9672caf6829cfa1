import Derived.Test.YthiiodgpdoljoaaKf1
import Derived.Test.YthiiodgpdoljoaaKf0
import Derived.Test.YthiiodgpdoljoaaKf2
-- Words and walks that the kit's print has laid for this seat, cut down, and our own texts, merged.
namespace Go.Proofs.Ythiiodgpdoljoaa.PLc
open Go.RowKit Go.Proofs.YthiiodgpdoljoaaW.PrintWords Go.Proofs.YthiiodgpdoljoaaW.PrintLast Go.Proofs.YthiiodgpdoljoaaW.PrintMore
attribute [local go_sem] max2_int min2_int max_two min_two max_three min_three max_four min_four   -- for this text's walks alone
set_option linter.unusedVariables false
set_option linter.unusedSimpArgs false
/-! ### circuit_board_gate: function 88 -/
def circuit_board_gate.T2 : Bool × List (List Nat × List Nat) := (true, [([], []), ([], []), ([1], [1]), ([2], [2]), ([0, 3], [0, 3]), ([], []), ([], []), ([6], [6]), ([7], [7]), ([5, 8, 4], [5, 8]), ([4, 9, 0, 1, 2, 3, 4], [4]), ([9, 10, 0, 1, 2, 3, 4, 5, 6, 7, 8, 9, 10], [9])])
def circuit_board_gate.B2 : List Nat := [0, 0, 2, 6, 15, 0, 0, 64, 192, 511, 1023, 2047]
theorem circuit_board_gate.tab2 : rtab .any (opsOf Try.f88 2) = circuit_board_gate.T2 := by kernel_rfl
theorem circuit_board_gate.bits2 : waitsOk circuit_board_gate.T2.2 circuit_board_gate.B2 = true := by kernel_rfl
set_option maxHeartbeats 4000000 in
set_option maxRecDepth 100000 in
theorem gate8.calls (s0 s1 s2 s3 s4 : Int) (As : Option Addr) (ns cs : Nat) (d a c s : Int) {base n : Nat} {w0 w : World} {g : Nat} {b : Bd} (H : BrdS base w0 w g b n) (hn : n < 90000) :
  Calls Try.prog 88 #[.pointer (some ⟨g, 0, none⟩), .agg #[.int .i64 s0, .int .i64 s1, .int .i64 s2, .int .i64 s3, .int .i64 s4, .slice As ns cs], .agg #[.int .i64 8, .int .i64 d, .int .i64 a, .int .i64 c, .int .i64 s]] w fun e w' => e = .returned (.tuple #[]) ∧ BrdS base w0 w' g (gate8 b d a c s) (n + 50) := by
 have H0 := Aside0.mk H; clear H
 have hu24 := Try.underlying24; have hu105 := Try.underlying105; have hu76 := Try.underlying76; have hu74 := Try.underlying74; have hu118 := Try.underlying118
 go_enter Try.func88, Try.ntmps88
 go_wp2_with (first | ((with_reducible refine gate_dst (N := 4) rfl ?_); refine box_event rfl (N := 4) rfl (cs := #[.int .i64 s0, .int .i64 s1, .int .i64 s2, .int .i64 s3, .int .i64 s4, .slice As ns cs]) (t := 24) (by first | (go_simp; done) | (go_simp; rfl)) ?_; intro gs hgs wgs hbox hb; have BKgs := Aside0.mk hbox; have HBgs := Aside0.mk hb; clear hbox hb hgs; have hcs0 := (blk_cell BKgs.out 0).trans rfl) | ((with_reducible refine gate_dst (N := 5) rfl ?_); refine box_event rfl (N := 5) rfl (cs := #[.int .i64 8, .int .i64 d, .int .i64 a, .int .i64 c, .int .i64 s]) (t := 105) (by first | (go_simp; done) | (go_simp; rfl)) ?_; intro gg hgg wgg hbox hb; have BKgg := Aside0.mk hbox; have HBgg := Aside0.mk hb; clear hbox hb hgg; replace BKgs := Aside0.mk (blk_below BKgs.out HBgg.out); have HS := Aside0.mk (⟨(H0.out.brd.below HBgs.out).below HBgg.out, Below.refl _ _, H0.out.small, TK.refl _ _⟩ : BrdS base wgg wgg g b n); have NGg := Aside0.mk (HS.out.ne BKgg.out (by decide)); have NGs := Aside0.mk (HS.out.ne BKgs.out (by decide)); have hcg0 := (blk_cell BKgg.out 0).trans rfl; have hcg1 := (blk_cell BKgg.out 1).trans rfl; have hcg2 := (blk_cell BKgg.out 2).trans rfl; have hcg3 := (blk_cell BKgg.out 3).trans rfl; have hcg4 := (blk_cell BKgg.out 4).trans rfl; have hcs0 := (blk_cell BKgs.out 0).trans rfl))
 clear hcs0 hcg0 hcg1 hcg2 hcg3 hcg4
 refine start_ (n := 12) (S := fun w' => w'.cell? ⟨gg, 2, none⟩ = some (.int .i64 a) ∧ w'.cell? ⟨gg, 3, none⟩ = some (.int .i64 c)) (ds := []) #[false, false, false, false, false, false, false, false, false, false, false, false] (by kernel_rfl) rfl rfl ⟨(blk_cell (blk_drew (HS.out.kept gg _ 105 BKgg.out (by decide) (by decide) (by decide) NGg.out)) 2).trans rfl, (blk_cell (blk_drew (HS.out.kept gg _ 105 BKgg.out (by decide) (by decide) (by decide) NGg.out)) 3).trans rfl⟩ (fun hHeld => ?_)
 refine with_tabW circuit_board_gate.tab2 circuit_board_gate.bits2 (fun HT_ HW_ => ?_)
 replace HS := Aside0.mk (HS.out.step (below_drew (Below.refl _ _)))
 generalize wgg.drew = wd at HS hHeld ⊢
 refine pureA 0 (some 17) HT_.out ?_
 refine pureA 1 (some 18) HT_.out ?_
 refine takeA 2 (some 19) rfl HT_.out HW_.out hHeld (Or.inl ⟨by rfl, by rintro w' ⟨s0, s1⟩; go_simp; with_reducible rfl⟩) ?_
 refine pureA 3 (some 20) HT_.out ?_
 refine pureA 5 (some 22) HT_.out ?_
 refine pureA 6 (some 23) HT_.out ?_
 refine takeA 7 (some 24) rfl HT_.out HW_.out hHeld (Or.inl ⟨by rfl, by rintro w' ⟨s0, s1⟩; go_simp; with_reducible rfl⟩) ?_
 refine pureA 8 (some 25) HT_.out ?_
 refine one_ (i := 4) (N := some 21) #[true, true, true, true, true, true, true, true, true, false, false, false] rfl rfl (one_of HT_.out (by kernel_rfl)) (by decide) (fun K hK => ?_)
 refine goes_ Try.func113 (by kernel_rfl) rfl #[.pointer (some ⟨g, 0, none⟩), .agg #[.int .i64 a, .int .i64 0, .int .i64 0, .int .u64 0, .int .u64 0]] (by rfl) rfl rfl (by (try simp only [List.map_toArray, List.map_cons, List.map_nil]); first | done | rfl) ?_
 refine (circuit_board_wire.calls (cl a) HS.out (by omega)).mono ?_
 rintro e w' ⟨rfl, hb⟩; replace HS := Aside0.mk hb; clear hb; refine ⟨_, rfl, ?_⟩
 refine hK.out _ _ ⟨(blk_cell (HS.out.kept gg _ 105 BKgg.out (by decide) (by decide) (by decide) NGg.out) 2).trans rfl, (blk_cell (HS.out.kept gg _ 105 BKgg.out (by decide) (by decide) (by decide) NGg.out) 3).trans rfl⟩ (fun hHeld => ?_)
 clear hK K
 refine normA ?_
 refine one_ (i := 9) (N := some 26) #[true, true, true, true, true, true, true, true, true, true, false, false] rfl rfl (one_of HT_.out (by kernel_rfl)) (by decide) (fun K hK => ?_)
 refine goes_ Try.func113 (by kernel_rfl) rfl #[.pointer (some ⟨g, 0, none⟩), .agg #[.int .i64 c, .int .i64 0, .int .i64 0, .int .u64 0, .int .u64 0]] (by rfl) rfl rfl (by (try simp only [List.map_toArray, List.map_cons, List.map_nil]); first | done | rfl) ?_
 refine (circuit_board_wire.calls (cl c) HS.out (by omega)).mono ?_
 rintro e w' ⟨rfl, hb⟩; replace HS := Aside0.mk hb; clear hb; refine ⟨_, rfl, ?_⟩
 refine hK.out _ _ ⟨(blk_cell (HS.out.kept gg _ 105 BKgg.out (by decide) (by decide) (by decide) NGg.out) 2).trans rfl, (blk_cell (HS.out.kept gg _ 105 BKgg.out (by decide) (by decide) (by decide) NGg.out) 3).trans rfl⟩ (fun hHeld => ?_)
 clear hK K
 refine normA ?_
 refine pureA 10 (some 6) HT_.out ?_
 refine pureA 11 (some 7) HT_.out ?_
 refine done_ (done_of HT_.out (by kernel_rfl)) ?_
 clear HT_ HW_ hHeld
 have BKg_ := HS.out.kept gg _ 105 BKgg.out (by decide) (by decide) (by decide) NGg.out; have BKs_ := HS.out.kept gs _ 24 BKgs.out (by decide) (by decide) (by decide) NGs.out; have hcg0 := (blk_cell BKg_ 0).trans rfl; have hcg1 := (blk_cell BKg_ 1).trans rfl; have hcg2 := (blk_cell BKg_ 2).trans rfl; have hcg3 := (blk_cell BKg_ 3).trans rfl; have hcg4 := (blk_cell BKg_ 4).trans rfl; have hcs0 := (blk_cell BKs_ 0).trans rfl; clear BKg_ BKs_
 go_wp2_with (first | (go_at_call 115; refine (circuit_board_v.calls _ HS.out (by omega)).mono ?_; rintro e w' ⟨rfl, hb⟩; replace HS := Aside0.mk hb; clear hb; have BKg_ := HS.out.kept gg _ 105 BKgg.out (by decide) (by decide) (by decide) NGg.out; have BKs_ := HS.out.kept gs _ 24 BKgs.out (by decide) (by decide) (by decide) NGs.out; have hcg0 := (blk_cell BKg_ 0).trans rfl; have hcg1 := (blk_cell BKg_ 1).trans rfl; have hcg2 := (blk_cell BKg_ 2).trans rfl; have hcg3 := (blk_cell BKg_ 3).trans rfl; have hcg4 := (blk_cell BKg_ 4).trans rfl; have hcs0 := (blk_cell BKs_ 0).trans rfl; clear BKg_ BKs_) | (go_at_call 114; refine (circuit_board_sum.calls _ _ HS.out (by omega)).mono ?_; rintro e w' ⟨rfl, hb⟩; replace HS := Aside0.mk hb; clear hb; have BKg_ := HS.out.kept gg _ 105 BKgg.out (by decide) (by decide) (by decide) NGg.out; have BKs_ := HS.out.kept gs _ 24 BKgs.out (by decide) (by decide) (by decide) NGs.out; have hcg0 := (blk_cell BKg_ 0).trans rfl; have hcg1 := (blk_cell BKg_ 1).trans rfl; have hcg2 := (blk_cell BKg_ 2).trans rfl; have hcg3 := (blk_cell BKg_ 3).trans rfl; have hcg4 := (blk_cell BKg_ 4).trans rfl; have hcs0 := (blk_cell BKs_ 0).trans rfl; clear BKg_ BKs_) | (go_at_call 119; refine (circuit_board_prod.calls _ _ HS.out (by omega)).mono ?_; rintro e w' ⟨rfl, hb⟩; replace HS := Aside0.mk hb; clear hb; have BKg_ := HS.out.kept gg _ 105 BKgg.out (by decide) (by decide) (by decide) NGg.out; have BKs_ := HS.out.kept gs _ 24 BKgs.out (by decide) (by decide) (by decide) NGs.out; have hcg0 := (blk_cell BKg_ 0).trans rfl; have hcg1 := (blk_cell BKg_ 1).trans rfl; have hcg2 := (blk_cell BKg_ 2).trans rfl; have hcg3 := (blk_cell BKg_ 3).trans rfl; have hcg4 := (blk_cell BKg_ 4).trans rfl; have hcs0 := (blk_cell BKs_ 0).trans rfl; clear BKg_ BKs_) | (go_at_call 116; refine (circuit_board_done.calls  HS.out (by omega)).mono ?_; rintro e w' ⟨rfl, hb⟩; replace HS := Aside0.mk hb; clear hb; have BKg_ := HS.out.kept gg _ 105 BKgg.out (by decide) (by decide) (by decide) NGg.out; have BKs_ := HS.out.kept gs _ 24 BKgs.out (by decide) (by decide) (by decide) NGs.out; have hcg0 := (blk_cell BKg_ 0).trans rfl; have hcg1 := (blk_cell BKg_ 1).trans rfl; have hcg2 := (blk_cell BKg_ 2).trans rfl; have hcg3 := (blk_cell BKg_ 3).trans rfl; have hcg4 := (blk_cell BKg_ 4).trans rfl; have hcs0 := (blk_cell BKs_ 0).trans rfl; clear BKg_ BKs_))
 (first | go_end0 | ((try simp only [Exit.inBlock, Exit.then]); refine bodyPost_ret (results_none rfl _ _ _) rfl ?_))
 exact ⟨rfl, BrdS.back H0.out HBgs.out HBgg.out HS.out (by omega)⟩
set_option maxHeartbeats 4000000 in
set_option maxRecDepth 100000 in
theorem gate4.calls (s0 s1 s2 s3 s4 : Int) (As : Option Addr) (ns cs : Nat) (d a c s : Int) {base n : Nat} {w0 w : World} {g : Nat} {b : Bd} (H : BrdS base w0 w g b n) (hn : n < 90000) :
  Calls Try.prog 88 #[.pointer (some ⟨g, 0, none⟩), .agg #[.int .i64 s0, .int .i64 s1, .int .i64 s2, .int .i64 s3, .int .i64 s4, .slice As ns cs], .agg #[.int .i64 4, .int .i64 d, .int .i64 a, .int .i64 c, .int .i64 s]] w fun e w' => e = .returned (.tuple #[]) ∧ BrdS base w0 w' g (gateT b 1 d a c s) (n + 50) := by
 have H0 := Aside0.mk H; clear H
 have hu24 := Try.underlying24; have hu105 := Try.underlying105; have hu76 := Try.underlying76; have hu74 := Try.underlying74; have hu118 := Try.underlying118
 go_enter Try.func88, Try.ntmps88
 go_wp2_with (first | ((with_reducible refine gate_dst (N := 4) rfl ?_); refine box_event rfl (N := 4) rfl (cs := #[.int .i64 s0, .int .i64 s1, .int .i64 s2, .int .i64 s3, .int .i64 s4, .slice As ns cs]) (t := 24) (by first | (go_simp; done) | (go_simp; rfl)) ?_; intro gs hgs wgs hbox hb; have BKgs := Aside0.mk hbox; have HBgs := Aside0.mk hb; clear hbox hb hgs; have hcs0 := (blk_cell BKgs.out 0).trans rfl) | ((with_reducible refine gate_dst (N := 5) rfl ?_); refine box_event rfl (N := 5) rfl (cs := #[.int .i64 4, .int .i64 d, .int .i64 a, .int .i64 c, .int .i64 s]) (t := 105) (by first | (go_simp; done) | (go_simp; rfl)) ?_; intro gg hgg wgg hbox hb; have BKgg := Aside0.mk hbox; have HBgg := Aside0.mk hb; clear hbox hb hgg; replace BKgs := Aside0.mk (blk_below BKgs.out HBgg.out); have HS := Aside0.mk (⟨(H0.out.brd.below HBgs.out).below HBgg.out, Below.refl _ _, H0.out.small, TK.refl _ _⟩ : BrdS base wgg wgg g b n); have NGg := Aside0.mk (HS.out.ne BKgg.out (by decide)); have NGs := Aside0.mk (HS.out.ne BKgs.out (by decide)); have hcg0 := (blk_cell BKgg.out 0).trans rfl; have hcg1 := (blk_cell BKgg.out 1).trans rfl; have hcg2 := (blk_cell BKgg.out 2).trans rfl; have hcg3 := (blk_cell BKgg.out 3).trans rfl; have hcg4 := (blk_cell BKgg.out 4).trans rfl; have hcs0 := (blk_cell BKgs.out 0).trans rfl) | (go_at_call 117; (with_reducible refine (circuit_turned.calls 4 1 _ rfl).mono ?_); rintro e w' ⟨rfl, ⟨nd, rfl⟩⟩; replace HS := Aside0.mk (HS.out.drewN nd); have BKg_ := HS.out.kept gg _ 105 BKgg.out (by decide) (by decide) (by decide) NGg.out; have BKs_ := HS.out.kept gs _ 24 BKgs.out (by decide) (by decide) (by decide) NGs.out; have hcg0 := (blk_cell BKg_ 0).trans rfl; have hcg1 := (blk_cell BKg_ 1).trans rfl; have hcg2 := (blk_cell BKg_ 2).trans rfl; have hcg3 := (blk_cell BKg_ 3).trans rfl; have hcg4 := (blk_cell BKg_ 4).trans rfl; have hcs0 := (blk_cell BKs_ 0).trans rfl; clear BKg_ BKs_) | (go_at_call 113; (with_reducible refine (circuit_board_wire.calls (cl d) HS.out (by omega)).mono ?_); rintro e w' ⟨rfl, hb⟩; replace HS := Aside0.mk hb; clear hb; have BKg_ := HS.out.kept gg _ 105 BKgg.out (by decide) (by decide) (by decide) NGg.out; have BKs_ := HS.out.kept gs _ 24 BKgs.out (by decide) (by decide) (by decide) NGs.out; have hcg0 := (blk_cell BKg_ 0).trans rfl; have hcg1 := (blk_cell BKg_ 1).trans rfl; have hcg2 := (blk_cell BKg_ 2).trans rfl; have hcg3 := (blk_cell BKg_ 3).trans rfl; have hcg4 := (blk_cell BKg_ 4).trans rfl; have hcs0 := (blk_cell BKs_ 0).trans rfl; clear BKg_ BKs_) | (go_at_call 113; (with_reducible refine (circuit_board_wire.calls (clk a 1 s) HS.out (by omega)).mono ?_); rintro e w' ⟨rfl, hb⟩; replace HS := Aside0.mk hb; clear hb; have BKg_ := HS.out.kept gg _ 105 BKgg.out (by decide) (by decide) (by decide) NGg.out; have BKs_ := HS.out.kept gs _ 24 BKgs.out (by decide) (by decide) (by decide) NGs.out; have hcg0 := (blk_cell BKg_ 0).trans rfl; have hcg1 := (blk_cell BKg_ 1).trans rfl; have hcg2 := (blk_cell BKg_ 2).trans rfl; have hcg3 := (blk_cell BKg_ 3).trans rfl; have hcg4 := (blk_cell BKg_ 4).trans rfl; have hcs0 := (blk_cell BKs_ 0).trans rfl; clear BKg_ BKs_) | (go_at_call 115; refine (circuit_board_v.calls _ HS.out (by omega)).mono ?_; rintro e w' ⟨rfl, hb⟩; replace HS := Aside0.mk hb; clear hb; have BKg_ := HS.out.kept gg _ 105 BKgg.out (by decide) (by decide) (by decide) NGg.out; have BKs_ := HS.out.kept gs _ 24 BKgs.out (by decide) (by decide) (by decide) NGs.out; have hcg0 := (blk_cell BKg_ 0).trans rfl; have hcg1 := (blk_cell BKg_ 1).trans rfl; have hcg2 := (blk_cell BKg_ 2).trans rfl; have hcg3 := (blk_cell BKg_ 3).trans rfl; have hcg4 := (blk_cell BKg_ 4).trans rfl; have hcs0 := (blk_cell BKs_ 0).trans rfl; clear BKg_ BKs_) | (go_at_call 114; refine (circuit_board_sum.calls _ _ HS.out (by omega)).mono ?_; rintro e w' ⟨rfl, hb⟩; replace HS := Aside0.mk hb; clear hb; have BKg_ := HS.out.kept gg _ 105 BKgg.out (by decide) (by decide) (by decide) NGg.out; have BKs_ := HS.out.kept gs _ 24 BKgs.out (by decide) (by decide) (by decide) NGs.out; have hcg0 := (blk_cell BKg_ 0).trans rfl; have hcg1 := (blk_cell BKg_ 1).trans rfl; have hcg2 := (blk_cell BKg_ 2).trans rfl; have hcg3 := (blk_cell BKg_ 3).trans rfl; have hcg4 := (blk_cell BKg_ 4).trans rfl; have hcs0 := (blk_cell BKs_ 0).trans rfl; clear BKg_ BKs_) | (go_at_call 119; refine (circuit_board_prod.calls _ _ HS.out (by omega)).mono ?_; rintro e w' ⟨rfl, hb⟩; replace HS := Aside0.mk hb; clear hb; have BKg_ := HS.out.kept gg _ 105 BKgg.out (by decide) (by decide) (by decide) NGg.out; have BKs_ := HS.out.kept gs _ 24 BKgs.out (by decide) (by decide) (by decide) NGs.out; have hcg0 := (blk_cell BKg_ 0).trans rfl; have hcg1 := (blk_cell BKg_ 1).trans rfl; have hcg2 := (blk_cell BKg_ 2).trans rfl; have hcg3 := (blk_cell BKg_ 3).trans rfl; have hcg4 := (blk_cell BKg_ 4).trans rfl; have hcs0 := (blk_cell BKs_ 0).trans rfl; clear BKg_ BKs_) | (go_at_call 116; refine (circuit_board_done.calls  HS.out (by omega)).mono ?_; rintro e w' ⟨rfl, hb⟩; replace HS := Aside0.mk hb; clear hb; have BKg_ := HS.out.kept gg _ 105 BKgg.out (by decide) (by decide) (by decide) NGg.out; have BKs_ := HS.out.kept gs _ 24 BKgs.out (by decide) (by decide) (by decide) NGs.out; have hcg0 := (blk_cell BKg_ 0).trans rfl; have hcg1 := (blk_cell BKg_ 1).trans rfl; have hcg2 := (blk_cell BKg_ 2).trans rfl; have hcg3 := (blk_cell BKg_ 3).trans rfl; have hcg4 := (blk_cell BKg_ 4).trans rfl; have hcs0 := (blk_cell BKs_ 0).trans rfl; clear BKg_ BKs_))
 (first | go_end0 | ((try simp only [Exit.inBlock, Exit.then]); refine bodyPost_ret (results_none rfl _ _ _) rfl ?_))
 exact ⟨rfl, BrdS.back H0.out HBgs.out HBgg.out HS.out (by omega)⟩
set_option maxHeartbeats 4000000 in
set_option maxRecDepth 100000 in
theorem gate5.calls (s0 s1 s2 s3 s4 : Int) (As : Option Addr) (ns cs : Nat) (d a c s : Int) {base n : Nat} {w0 w : World} {g : Nat} {b : Bd} (H : BrdS base w0 w g b n) (hn : n < 90000) :
  Calls Try.prog 88 #[.pointer (some ⟨g, 0, none⟩), .agg #[.int .i64 s0, .int .i64 s1, .int .i64 s2, .int .i64 s3, .int .i64 s4, .slice As ns cs], .agg #[.int .i64 5, .int .i64 d, .int .i64 a, .int .i64 c, .int .i64 s]] w fun e w' => e = .returned (.tuple #[]) ∧ BrdS base w0 w' g (gateT b 2 d a c s) (n + 50) := by
 have H0 := Aside0.mk H; clear H
 have hu24 := Try.underlying24; have hu105 := Try.underlying105; have hu76 := Try.underlying76; have hu74 := Try.underlying74; have hu118 := Try.underlying118
 go_enter Try.func88, Try.ntmps88
 go_wp2_with (first | ((with_reducible refine gate_dst (N := 4) rfl ?_); refine box_event rfl (N := 4) rfl (cs := #[.int .i64 s0, .int .i64 s1, .int .i64 s2, .int .i64 s3, .int .i64 s4, .slice As ns cs]) (t := 24) (by first | (go_simp; done) | (go_simp; rfl)) ?_; intro gs hgs wgs hbox hb; have BKgs := Aside0.mk hbox; have HBgs := Aside0.mk hb; clear hbox hb hgs; have hcs0 := (blk_cell BKgs.out 0).trans rfl) | ((with_reducible refine gate_dst (N := 5) rfl ?_); refine box_event rfl (N := 5) rfl (cs := #[.int .i64 5, .int .i64 d, .int .i64 a, .int .i64 c, .int .i64 s]) (t := 105) (by first | (go_simp; done) | (go_simp; rfl)) ?_; intro gg hgg wgg hbox hb; have BKgg := Aside0.mk hbox; have HBgg := Aside0.mk hb; clear hbox hb hgg; replace BKgs := Aside0.mk (blk_below BKgs.out HBgg.out); have HS := Aside0.mk (⟨(H0.out.brd.below HBgs.out).below HBgg.out, Below.refl _ _, H0.out.small, TK.refl _ _⟩ : BrdS base wgg wgg g b n); have NGg := Aside0.mk (HS.out.ne BKgg.out (by decide)); have NGs := Aside0.mk (HS.out.ne BKgs.out (by decide)); have hcg0 := (blk_cell BKgg.out 0).trans rfl; have hcg1 := (blk_cell BKgg.out 1).trans rfl; have hcg2 := (blk_cell BKgg.out 2).trans rfl; have hcg3 := (blk_cell BKgg.out 3).trans rfl; have hcg4 := (blk_cell BKgg.out 4).trans rfl; have hcs0 := (blk_cell BKgs.out 0).trans rfl) | (go_at_call 117; (with_reducible refine (circuit_turned.calls 5 2 _ rfl).mono ?_); rintro e w' ⟨rfl, ⟨nd, rfl⟩⟩; replace HS := Aside0.mk (HS.out.drewN nd); have BKg_ := HS.out.kept gg _ 105 BKgg.out (by decide) (by decide) (by decide) NGg.out; have BKs_ := HS.out.kept gs _ 24 BKgs.out (by decide) (by decide) (by decide) NGs.out; have hcg0 := (blk_cell BKg_ 0).trans rfl; have hcg1 := (blk_cell BKg_ 1).trans rfl; have hcg2 := (blk_cell BKg_ 2).trans rfl; have hcg3 := (blk_cell BKg_ 3).trans rfl; have hcg4 := (blk_cell BKg_ 4).trans rfl; have hcs0 := (blk_cell BKs_ 0).trans rfl; clear BKg_ BKs_) | (go_at_call 113; (with_reducible refine (circuit_board_wire.calls (cl d) HS.out (by omega)).mono ?_); rintro e w' ⟨rfl, hb⟩; replace HS := Aside0.mk hb; clear hb; have BKg_ := HS.out.kept gg _ 105 BKgg.out (by decide) (by decide) (by decide) NGg.out; have BKs_ := HS.out.kept gs _ 24 BKgs.out (by decide) (by decide) (by decide) NGs.out; have hcg0 := (blk_cell BKg_ 0).trans rfl; have hcg1 := (blk_cell BKg_ 1).trans rfl; have hcg2 := (blk_cell BKg_ 2).trans rfl; have hcg3 := (blk_cell BKg_ 3).trans rfl; have hcg4 := (blk_cell BKg_ 4).trans rfl; have hcs0 := (blk_cell BKs_ 0).trans rfl; clear BKg_ BKs_) | (go_at_call 113; (with_reducible refine (circuit_board_wire.calls (clk a 2 s) HS.out (by omega)).mono ?_); rintro e w' ⟨rfl, hb⟩; replace HS := Aside0.mk hb; clear hb; have BKg_ := HS.out.kept gg _ 105 BKgg.out (by decide) (by decide) (by decide) NGg.out; have BKs_ := HS.out.kept gs _ 24 BKgs.out (by decide) (by decide) (by decide) NGs.out; have hcg0 := (blk_cell BKg_ 0).trans rfl; have hcg1 := (blk_cell BKg_ 1).trans rfl; have hcg2 := (blk_cell BKg_ 2).trans rfl; have hcg3 := (blk_cell BKg_ 3).trans rfl; have hcg4 := (blk_cell BKg_ 4).trans rfl; have hcs0 := (blk_cell BKs_ 0).trans rfl; clear BKg_ BKs_) | (go_at_call 115; refine (circuit_board_v.calls _ HS.out (by omega)).mono ?_; rintro e w' ⟨rfl, hb⟩; replace HS := Aside0.mk hb; clear hb; have BKg_ := HS.out.kept gg _ 105 BKgg.out (by decide) (by decide) (by decide) NGg.out; have BKs_ := HS.out.kept gs _ 24 BKgs.out (by decide) (by decide) (by decide) NGs.out; have hcg0 := (blk_cell BKg_ 0).trans rfl; have hcg1 := (blk_cell BKg_ 1).trans rfl; have hcg2 := (blk_cell BKg_ 2).trans rfl; have hcg3 := (blk_cell BKg_ 3).trans rfl; have hcg4 := (blk_cell BKg_ 4).trans rfl; have hcs0 := (blk_cell BKs_ 0).trans rfl; clear BKg_ BKs_) | (go_at_call 114; refine (circuit_board_sum.calls _ _ HS.out (by omega)).mono ?_; rintro e w' ⟨rfl, hb⟩; replace HS := Aside0.mk hb; clear hb; have BKg_ := HS.out.kept gg _ 105 BKgg.out (by decide) (by decide) (by decide) NGg.out; have BKs_ := HS.out.kept gs _ 24 BKgs.out (by decide) (by decide) (by decide) NGs.out; have hcg0 := (blk_cell BKg_ 0).trans rfl; have hcg1 := (blk_cell BKg_ 1).trans rfl; have hcg2 := (blk_cell BKg_ 2).trans rfl; have hcg3 := (blk_cell BKg_ 3).trans rfl; have hcg4 := (blk_cell BKg_ 4).trans rfl; have hcs0 := (blk_cell BKs_ 0).trans rfl; clear BKg_ BKs_) | (go_at_call 119; refine (circuit_board_prod.calls _ _ HS.out (by omega)).mono ?_; rintro e w' ⟨rfl, hb⟩; replace HS := Aside0.mk hb; clear hb; have BKg_ := HS.out.kept gg _ 105 BKgg.out (by decide) (by decide) (by decide) NGg.out; have BKs_ := HS.out.kept gs _ 24 BKgs.out (by decide) (by decide) (by decide) NGs.out; have hcg0 := (blk_cell BKg_ 0).trans rfl; have hcg1 := (blk_cell BKg_ 1).trans rfl; have hcg2 := (blk_cell BKg_ 2).trans rfl; have hcg3 := (blk_cell BKg_ 3).trans rfl; have hcg4 := (blk_cell BKg_ 4).trans rfl; have hcs0 := (blk_cell BKs_ 0).trans rfl; clear BKg_ BKs_) | (go_at_call 116; refine (circuit_board_done.calls  HS.out (by omega)).mono ?_; rintro e w' ⟨rfl, hb⟩; replace HS := Aside0.mk hb; clear hb; have BKg_ := HS.out.kept gg _ 105 BKgg.out (by decide) (by decide) (by decide) NGg.out; have BKs_ := HS.out.kept gs _ 24 BKgs.out (by decide) (by decide) (by decide) NGs.out; have hcg0 := (blk_cell BKg_ 0).trans rfl; have hcg1 := (blk_cell BKg_ 1).trans rfl; have hcg2 := (blk_cell BKg_ 2).trans rfl; have hcg3 := (blk_cell BKg_ 3).trans rfl; have hcg4 := (blk_cell BKg_ 4).trans rfl; have hcs0 := (blk_cell BKs_ 0).trans rfl; clear BKg_ BKs_))
 (first | go_end0 | ((try simp only [Exit.inBlock, Exit.then]); refine bodyPost_ret (results_none rfl _ _ _) rfl ?_))
 exact ⟨rfl, BrdS.back H0.out HBgs.out HBgg.out HS.out (by omega)⟩
set_option maxHeartbeats 4000000 in
set_option maxRecDepth 100000 in
theorem gate6.calls (s0 s1 s2 s3 s4 : Int) (As : Option Addr) (ns cs : Nat) (d a c s : Int) {base n : Nat} {w0 w : World} {g : Nat} {b : Bd} (H : BrdS base w0 w g b n) (hn : n < 90000) :
  Calls Try.prog 88 #[.pointer (some ⟨g, 0, none⟩), .agg #[.int .i64 s0, .int .i64 s1, .int .i64 s2, .int .i64 s3, .int .i64 s4, .slice As ns cs], .agg #[.int .i64 6, .int .i64 d, .int .i64 a, .int .i64 c, .int .i64 s]] w fun e w' => e = .returned (.tuple #[]) ∧ BrdS base w0 w' g (gateT b 3 d a c s) (n + 50) := by
 have H0 := Aside0.mk H; clear H
 have hu24 := Try.underlying24; have hu105 := Try.underlying105; have hu76 := Try.underlying76; have hu74 := Try.underlying74; have hu118 := Try.underlying118
 go_enter Try.func88, Try.ntmps88
 go_wp2_with (first | ((with_reducible refine gate_dst (N := 4) rfl ?_); refine box_event rfl (N := 4) rfl (cs := #[.int .i64 s0, .int .i64 s1, .int .i64 s2, .int .i64 s3, .int .i64 s4, .slice As ns cs]) (t := 24) (by first | (go_simp; done) | (go_simp; rfl)) ?_; intro gs hgs wgs hbox hb; have BKgs := Aside0.mk hbox; have HBgs := Aside0.mk hb; clear hbox hb hgs; have hcs0 := (blk_cell BKgs.out 0).trans rfl) | ((with_reducible refine gate_dst (N := 5) rfl ?_); refine box_event rfl (N := 5) rfl (cs := #[.int .i64 6, .int .i64 d, .int .i64 a, .int .i64 c, .int .i64 s]) (t := 105) (by first | (go_simp; done) | (go_simp; rfl)) ?_; intro gg hgg wgg hbox hb; have BKgg := Aside0.mk hbox; have HBgg := Aside0.mk hb; clear hbox hb hgg; replace BKgs := Aside0.mk (blk_below BKgs.out HBgg.out); have HS := Aside0.mk (⟨(H0.out.brd.below HBgs.out).below HBgg.out, Below.refl _ _, H0.out.small, TK.refl _ _⟩ : BrdS base wgg wgg g b n); have NGg := Aside0.mk (HS.out.ne BKgg.out (by decide)); have NGs := Aside0.mk (HS.out.ne BKgs.out (by decide)); have hcg0 := (blk_cell BKgg.out 0).trans rfl; have hcg1 := (blk_cell BKgg.out 1).trans rfl; have hcg2 := (blk_cell BKgg.out 2).trans rfl; have hcg3 := (blk_cell BKgg.out 3).trans rfl; have hcg4 := (blk_cell BKgg.out 4).trans rfl; have hcs0 := (blk_cell BKgs.out 0).trans rfl) | (go_at_call 117; (with_reducible refine (circuit_turned.calls 6 3 _ rfl).mono ?_); rintro e w' ⟨rfl, ⟨nd, rfl⟩⟩; replace HS := Aside0.mk (HS.out.drewN nd); have BKg_ := HS.out.kept gg _ 105 BKgg.out (by decide) (by decide) (by decide) NGg.out; have BKs_ := HS.out.kept gs _ 24 BKgs.out (by decide) (by decide) (by decide) NGs.out; have hcg0 := (blk_cell BKg_ 0).trans rfl; have hcg1 := (blk_cell BKg_ 1).trans rfl; have hcg2 := (blk_cell BKg_ 2).trans rfl; have hcg3 := (blk_cell BKg_ 3).trans rfl; have hcg4 := (blk_cell BKg_ 4).trans rfl; have hcs0 := (blk_cell BKs_ 0).trans rfl; clear BKg_ BKs_) | (go_at_call 113; (with_reducible refine (circuit_board_wire.calls (cl d) HS.out (by omega)).mono ?_); rintro e w' ⟨rfl, hb⟩; replace HS := Aside0.mk hb; clear hb; have BKg_ := HS.out.kept gg _ 105 BKgg.out (by decide) (by decide) (by decide) NGg.out; have BKs_ := HS.out.kept gs _ 24 BKgs.out (by decide) (by decide) (by decide) NGs.out; have hcg0 := (blk_cell BKg_ 0).trans rfl; have hcg1 := (blk_cell BKg_ 1).trans rfl; have hcg2 := (blk_cell BKg_ 2).trans rfl; have hcg3 := (blk_cell BKg_ 3).trans rfl; have hcg4 := (blk_cell BKg_ 4).trans rfl; have hcs0 := (blk_cell BKs_ 0).trans rfl; clear BKg_ BKs_) | (go_at_call 113; (with_reducible refine (circuit_board_wire.calls (clk a 3 s) HS.out (by omega)).mono ?_); rintro e w' ⟨rfl, hb⟩; replace HS := Aside0.mk hb; clear hb; have BKg_ := HS.out.kept gg _ 105 BKgg.out (by decide) (by decide) (by decide) NGg.out; have BKs_ := HS.out.kept gs _ 24 BKgs.out (by decide) (by decide) (by decide) NGs.out; have hcg0 := (blk_cell BKg_ 0).trans rfl; have hcg1 := (blk_cell BKg_ 1).trans rfl; have hcg2 := (blk_cell BKg_ 2).trans rfl; have hcg3 := (blk_cell BKg_ 3).trans rfl; have hcg4 := (blk_cell BKg_ 4).trans rfl; have hcs0 := (blk_cell BKs_ 0).trans rfl; clear BKg_ BKs_) | (go_at_call 115; refine (circuit_board_v.calls _ HS.out (by omega)).mono ?_; rintro e w' ⟨rfl, hb⟩; replace HS := Aside0.mk hb; clear hb; have BKg_ := HS.out.kept gg _ 105 BKgg.out (by decide) (by decide) (by decide) NGg.out; have BKs_ := HS.out.kept gs _ 24 BKgs.out (by decide) (by decide) (by decide) NGs.out; have hcg0 := (blk_cell BKg_ 0).trans rfl; have hcg1 := (blk_cell BKg_ 1).trans rfl; have hcg2 := (blk_cell BKg_ 2).trans rfl; have hcg3 := (blk_cell BKg_ 3).trans rfl; have hcg4 := (blk_cell BKg_ 4).trans rfl; have hcs0 := (blk_cell BKs_ 0).trans rfl; clear BKg_ BKs_) | (go_at_call 114; refine (circuit_board_sum.calls _ _ HS.out (by omega)).mono ?_; rintro e w' ⟨rfl, hb⟩; replace HS := Aside0.mk hb; clear hb; have BKg_ := HS.out.kept gg _ 105 BKgg.out (by decide) (by decide) (by decide) NGg.out; have BKs_ := HS.out.kept gs _ 24 BKgs.out (by decide) (by decide) (by decide) NGs.out; have hcg0 := (blk_cell BKg_ 0).trans rfl; have hcg1 := (blk_cell BKg_ 1).trans rfl; have hcg2 := (blk_cell BKg_ 2).trans rfl; have hcg3 := (blk_cell BKg_ 3).trans rfl; have hcg4 := (blk_cell BKg_ 4).trans rfl; have hcs0 := (blk_cell BKs_ 0).trans rfl; clear BKg_ BKs_) | (go_at_call 119; refine (circuit_board_prod.calls _ _ HS.out (by omega)).mono ?_; rintro e w' ⟨rfl, hb⟩; replace HS := Aside0.mk hb; clear hb; have BKg_ := HS.out.kept gg _ 105 BKgg.out (by decide) (by decide) (by decide) NGg.out; have BKs_ := HS.out.kept gs _ 24 BKgs.out (by decide) (by decide) (by decide) NGs.out; have hcg0 := (blk_cell BKg_ 0).trans rfl; have hcg1 := (blk_cell BKg_ 1).trans rfl; have hcg2 := (blk_cell BKg_ 2).trans rfl; have hcg3 := (blk_cell BKg_ 3).trans rfl; have hcg4 := (blk_cell BKg_ 4).trans rfl; have hcs0 := (blk_cell BKs_ 0).trans rfl; clear BKg_ BKs_) | (go_at_call 116; refine (circuit_board_done.calls  HS.out (by omega)).mono ?_; rintro e w' ⟨rfl, hb⟩; replace HS := Aside0.mk hb; clear hb; have BKg_ := HS.out.kept gg _ 105 BKgg.out (by decide) (by decide) (by decide) NGg.out; have BKs_ := HS.out.kept gs _ 24 BKgs.out (by decide) (by decide) (by decide) NGs.out; have hcg0 := (blk_cell BKg_ 0).trans rfl; have hcg1 := (blk_cell BKg_ 1).trans rfl; have hcg2 := (blk_cell BKg_ 2).trans rfl; have hcg3 := (blk_cell BKg_ 3).trans rfl; have hcg4 := (blk_cell BKg_ 4).trans rfl; have hcs0 := (blk_cell BKs_ 0).trans rfl; clear BKg_ BKs_))
 (first | go_end0 | ((try simp only [Exit.inBlock, Exit.then]); refine bodyPost_ret (results_none rfl _ _ _) rfl ?_))
 exact ⟨rfl, BrdS.back H0.out HBgs.out HBgg.out HS.out (by omega)⟩
set_option maxHeartbeats 4000000 in
set_option maxRecDepth 100000 in
theorem gate3.calls (s0 s1 s2 s3 s4 : Int) (As : Option Addr) (ns cs : Nat) (d a c s : Int) {base n : Nat} {w0 w : World} {g : Nat} {b : Bd} (H : BrdS base w0 w g b n) (hn : n < 90000) :
  Calls Try.prog 88 #[.pointer (some ⟨g, 0, none⟩), .agg #[.int .i64 s0, .int .i64 s1, .int .i64 s2, .int .i64 s3, .int .i64 s4, .slice As ns cs], .agg #[.int .i64 3, .int .i64 d, .int .i64 a, .int .i64 c, .int .i64 s]] w fun e w' => e = .returned (.tuple #[]) ∧ BrdS base w0 w' g (gate3 b d a c s) (n + 50) := by
 have H0 := Aside0.mk H; clear H
 have hu24 := Try.underlying24; have hu105 := Try.underlying105; have hu76 := Try.underlying76; have hu74 := Try.underlying74; have hu118 := Try.underlying118
 go_enter Try.func88, Try.ntmps88
 go_wp2_with (first | ((with_reducible refine gate_dst (N := 4) rfl ?_); refine box_event rfl (N := 4) rfl (cs := #[.int .i64 s0, .int .i64 s1, .int .i64 s2, .int .i64 s3, .int .i64 s4, .slice As ns cs]) (t := 24) (by first | (go_simp; done) | (go_simp; rfl)) ?_; intro gs hgs wgs hbox hb; have BKgs := Aside0.mk hbox; have HBgs := Aside0.mk hb; clear hbox hb hgs; have hcs0 := (blk_cell BKgs.out 0).trans rfl) | ((with_reducible refine gate_dst (N := 5) rfl ?_); refine box_event rfl (N := 5) rfl (cs := #[.int .i64 3, .int .i64 d, .int .i64 a, .int .i64 c, .int .i64 s]) (t := 105) (by first | (go_simp; done) | (go_simp; rfl)) ?_; intro gg hgg wgg hbox hb; have BKgg := Aside0.mk hbox; have HBgg := Aside0.mk hb; clear hbox hb hgg; replace BKgs := Aside0.mk (blk_below BKgs.out HBgg.out); have HS := Aside0.mk (⟨(H0.out.brd.below HBgs.out).below HBgg.out, Below.refl _ _, H0.out.small, TK.refl _ _⟩ : BrdS base wgg wgg g b n); have NGg := Aside0.mk (HS.out.ne BKgg.out (by decide)); have NGs := Aside0.mk (HS.out.ne BKgs.out (by decide)); have hcg0 := (blk_cell BKgg.out 0).trans rfl; have hcg1 := (blk_cell BKgg.out 1).trans rfl; have hcg2 := (blk_cell BKgg.out 2).trans rfl; have hcg3 := (blk_cell BKgg.out 3).trans rfl; have hcg4 := (blk_cell BKgg.out 4).trans rfl; have hcs0 := (blk_cell BKgs.out 0).trans rfl) | (go_at_call 117; (with_reducible refine (circuit_turned.calls 3 0 _ rfl).mono ?_); rintro e w' ⟨rfl, ⟨nd, rfl⟩⟩; replace HS := Aside0.mk (HS.out.drewN nd); have BKg_ := HS.out.kept gg _ 105 BKgg.out (by decide) (by decide) (by decide) NGg.out; have BKs_ := HS.out.kept gs _ 24 BKgs.out (by decide) (by decide) (by decide) NGs.out; have hcg0 := (blk_cell BKg_ 0).trans rfl; have hcg1 := (blk_cell BKg_ 1).trans rfl; have hcg2 := (blk_cell BKg_ 2).trans rfl; have hcg3 := (blk_cell BKg_ 3).trans rfl; have hcg4 := (blk_cell BKg_ 4).trans rfl; have hcs0 := (blk_cell BKs_ 0).trans rfl; clear BKg_ BKs_) | (go_at_call 113; (with_reducible refine (circuit_board_wire.calls (cl d) HS.out (by omega)).mono ?_); rintro e w' ⟨rfl, hb⟩; replace HS := Aside0.mk hb; clear hb; have BKg_ := HS.out.kept gg _ 105 BKgg.out (by decide) (by decide) (by decide) NGg.out; have BKs_ := HS.out.kept gs _ 24 BKgs.out (by decide) (by decide) (by decide) NGs.out; have hcg0 := (blk_cell BKg_ 0).trans rfl; have hcg1 := (blk_cell BKg_ 1).trans rfl; have hcg2 := (blk_cell BKg_ 2).trans rfl; have hcg3 := (blk_cell BKg_ 3).trans rfl; have hcg4 := (blk_cell BKg_ 4).trans rfl; have hcs0 := (blk_cell BKs_ 0).trans rfl; clear BKg_ BKs_) | (go_at_call 113; (with_reducible refine (circuit_board_wire.calls (cl a) HS.out (by omega)).mono ?_); rintro e w' ⟨rfl, hb⟩; replace HS := Aside0.mk hb; clear hb; have BKg_ := HS.out.kept gg _ 105 BKgg.out (by decide) (by decide) (by decide) NGg.out; have BKs_ := HS.out.kept gs _ 24 BKgs.out (by decide) (by decide) (by decide) NGs.out; have hcg0 := (blk_cell BKg_ 0).trans rfl; have hcg1 := (blk_cell BKg_ 1).trans rfl; have hcg2 := (blk_cell BKg_ 2).trans rfl; have hcg3 := (blk_cell BKg_ 3).trans rfl; have hcg4 := (blk_cell BKg_ 4).trans rfl; have hcs0 := (blk_cell BKs_ 0).trans rfl; clear BKg_ BKs_) | (go_at_call 118; (with_reducible refine (circuit_board_put.calls ⟨1, 0, 0, ⟨0, 1⟩⟩ HS.out (by omega)).mono ?_); rintro e w' ⟨rfl, hb⟩; replace HS := Aside0.mk hb; clear hb; have BKg_ := HS.out.kept gg _ 105 BKgg.out (by decide) (by decide) (by decide) NGg.out; have BKs_ := HS.out.kept gs _ 24 BKgs.out (by decide) (by decide) (by decide) NGs.out; have hcg0 := (blk_cell BKg_ 0).trans rfl; have hcg1 := (blk_cell BKg_ 1).trans rfl; have hcg2 := (blk_cell BKg_ 2).trans rfl; have hcg3 := (blk_cell BKg_ 3).trans rfl; have hcg4 := (blk_cell BKg_ 4).trans rfl; have hcs0 := (blk_cell BKs_ 0).trans rfl; clear BKg_ BKs_) | (go_at_call 115; refine (circuit_board_v.calls _ HS.out (by omega)).mono ?_; rintro e w' ⟨rfl, hb⟩; replace HS := Aside0.mk hb; clear hb; have BKg_ := HS.out.kept gg _ 105 BKgg.out (by decide) (by decide) (by decide) NGg.out; have BKs_ := HS.out.kept gs _ 24 BKgs.out (by decide) (by decide) (by decide) NGs.out; have hcg0 := (blk_cell BKg_ 0).trans rfl; have hcg1 := (blk_cell BKg_ 1).trans rfl; have hcg2 := (blk_cell BKg_ 2).trans rfl; have hcg3 := (blk_cell BKg_ 3).trans rfl; have hcg4 := (blk_cell BKg_ 4).trans rfl; have hcs0 := (blk_cell BKs_ 0).trans rfl; clear BKg_ BKs_) | (go_at_call 114; refine (circuit_board_sum.calls _ _ HS.out (by omega)).mono ?_; rintro e w' ⟨rfl, hb⟩; replace HS := Aside0.mk hb; clear hb; have BKg_ := HS.out.kept gg _ 105 BKgg.out (by decide) (by decide) (by decide) NGg.out; have BKs_ := HS.out.kept gs _ 24 BKgs.out (by decide) (by decide) (by decide) NGs.out; have hcg0 := (blk_cell BKg_ 0).trans rfl; have hcg1 := (blk_cell BKg_ 1).trans rfl; have hcg2 := (blk_cell BKg_ 2).trans rfl; have hcg3 := (blk_cell BKg_ 3).trans rfl; have hcg4 := (blk_cell BKg_ 4).trans rfl; have hcs0 := (blk_cell BKs_ 0).trans rfl; clear BKg_ BKs_) | (go_at_call 119; refine (circuit_board_prod.calls _ _ HS.out (by omega)).mono ?_; rintro e w' ⟨rfl, hb⟩; replace HS := Aside0.mk hb; clear hb; have BKg_ := HS.out.kept gg _ 105 BKgg.out (by decide) (by decide) (by decide) NGg.out; have BKs_ := HS.out.kept gs _ 24 BKgs.out (by decide) (by decide) (by decide) NGs.out; have hcg0 := (blk_cell BKg_ 0).trans rfl; have hcg1 := (blk_cell BKg_ 1).trans rfl; have hcg2 := (blk_cell BKg_ 2).trans rfl; have hcg3 := (blk_cell BKg_ 3).trans rfl; have hcg4 := (blk_cell BKg_ 4).trans rfl; have hcs0 := (blk_cell BKs_ 0).trans rfl; clear BKg_ BKs_) | (go_at_call 116; refine (circuit_board_done.calls  HS.out (by omega)).mono ?_; rintro e w' ⟨rfl, hb⟩; replace HS := Aside0.mk hb; clear hb; have BKg_ := HS.out.kept gg _ 105 BKgg.out (by decide) (by decide) (by decide) NGg.out; have BKs_ := HS.out.kept gs _ 24 BKgs.out (by decide) (by decide) (by decide) NGs.out; have hcg0 := (blk_cell BKg_ 0).trans rfl; have hcg1 := (blk_cell BKg_ 1).trans rfl; have hcg2 := (blk_cell BKg_ 2).trans rfl; have hcg3 := (blk_cell BKg_ 3).trans rfl; have hcg4 := (blk_cell BKg_ 4).trans rfl; have hcs0 := (blk_cell BKs_ 0).trans rfl; clear BKg_ BKs_))
 (first | go_end0 | ((try simp only [Exit.inBlock, Exit.then]); refine bodyPost_ret (results_none rfl _ _ _) rfl ?_))
 exact ⟨rfl, BrdS.back H0.out HBgs.out HBgg.out HS.out (by omega)⟩
set_option maxHeartbeats 4000000 in
set_option maxRecDepth 100000 in
theorem gate1.calls (s0 s1 s2 s3 s4 : Int) (As : Option Addr) (ns cs : Nat) (d a c s : Int) {base n : Nat} {w0 w : World} {g : Nat} {b : Bd} (H : BrdS base w0 w g b n) (hn : n < 90000) :
  Calls Try.prog 88 #[.pointer (some ⟨g, 0, none⟩), .agg #[.int .i64 s0, .int .i64 s1, .int .i64 s2, .int .i64 s3, .int .i64 s4, .slice As ns cs], .agg #[.int .i64 1, .int .i64 d, .int .i64 a, .int .i64 c, .int .i64 s]] w fun e w' => e = .returned (.tuple #[]) ∧ BrdS base w0 w' g (gate1 b d a c s) (n + 50) := by
 have H0 := Aside0.mk H; clear H
 have hu24 := Try.underlying24; have hu105 := Try.underlying105; have hu76 := Try.underlying76; have hu74 := Try.underlying74; have hu118 := Try.underlying118
 go_enter Try.func88, Try.ntmps88
 go_wp2_with (first | ((with_reducible refine gate_dst (N := 4) rfl ?_); refine box_event rfl (N := 4) rfl (cs := #[.int .i64 s0, .int .i64 s1, .int .i64 s2, .int .i64 s3, .int .i64 s4, .slice As ns cs]) (t := 24) (by first | (go_simp; done) | (go_simp; rfl)) ?_; intro gs hgs wgs hbox hb; have BKgs := Aside0.mk hbox; have HBgs := Aside0.mk hb; clear hbox hb hgs; have hcs0 := (blk_cell BKgs.out 0).trans rfl) | ((with_reducible refine gate_dst (N := 5) rfl ?_); refine box_event rfl (N := 5) rfl (cs := #[.int .i64 1, .int .i64 d, .int .i64 a, .int .i64 c, .int .i64 s]) (t := 105) (by first | (go_simp; done) | (go_simp; rfl)) ?_; intro gg hgg wgg hbox hb; have BKgg := Aside0.mk hbox; have HBgg := Aside0.mk hb; clear hbox hb hgg; replace BKgs := Aside0.mk (blk_below BKgs.out HBgg.out); have HS := Aside0.mk (⟨(H0.out.brd.below HBgs.out).below HBgg.out, Below.refl _ _, H0.out.small, TK.refl _ _⟩ : BrdS base wgg wgg g b n); have NGg := Aside0.mk (HS.out.ne BKgg.out (by decide)); have NGs := Aside0.mk (HS.out.ne BKgs.out (by decide)); have hcg0 := (blk_cell BKgg.out 0).trans rfl; have hcg1 := (blk_cell BKgg.out 1).trans rfl; have hcg2 := (blk_cell BKgg.out 2).trans rfl; have hcg3 := (blk_cell BKgg.out 3).trans rfl; have hcg4 := (blk_cell BKgg.out 4).trans rfl; have hcs0 := (blk_cell BKgs.out 0).trans rfl) | (go_at_call 117; (with_reducible refine (circuit_turned.calls 1 0 _ rfl).mono ?_); rintro e w' ⟨rfl, ⟨nd, rfl⟩⟩; replace HS := Aside0.mk (HS.out.drewN nd); have BKg_ := HS.out.kept gg _ 105 BKgg.out (by decide) (by decide) (by decide) NGg.out; have BKs_ := HS.out.kept gs _ 24 BKgs.out (by decide) (by decide) (by decide) NGs.out; have hcg0 := (blk_cell BKg_ 0).trans rfl; have hcg1 := (blk_cell BKg_ 1).trans rfl; have hcg2 := (blk_cell BKg_ 2).trans rfl; have hcg3 := (blk_cell BKg_ 3).trans rfl; have hcg4 := (blk_cell BKg_ 4).trans rfl; have hcs0 := (blk_cell BKs_ 0).trans rfl; clear BKg_ BKs_) | (go_at_call 113; (with_reducible refine (circuit_board_wire.calls (cl d) HS.out (by omega)).mono ?_); rintro e w' ⟨rfl, hb⟩; replace HS := Aside0.mk hb; clear hb; have BKg_ := HS.out.kept gg _ 105 BKgg.out (by decide) (by decide) (by decide) NGg.out; have BKs_ := HS.out.kept gs _ 24 BKgs.out (by decide) (by decide) (by decide) NGs.out; have hcg0 := (blk_cell BKg_ 0).trans rfl; have hcg1 := (blk_cell BKg_ 1).trans rfl; have hcg2 := (blk_cell BKg_ 2).trans rfl; have hcg3 := (blk_cell BKg_ 3).trans rfl; have hcg4 := (blk_cell BKg_ 4).trans rfl; have hcs0 := (blk_cell BKs_ 0).trans rfl; clear BKg_ BKs_) | (go_at_call 113; (with_reducible refine (circuit_board_wire.calls (cl a) HS.out (by omega)).mono ?_); rintro e w' ⟨rfl, hb⟩; replace HS := Aside0.mk hb; clear hb; have BKg_ := HS.out.kept gg _ 105 BKgg.out (by decide) (by decide) (by decide) NGg.out; have BKs_ := HS.out.kept gs _ 24 BKgs.out (by decide) (by decide) (by decide) NGs.out; have hcg0 := (blk_cell BKg_ 0).trans rfl; have hcg1 := (blk_cell BKg_ 1).trans rfl; have hcg2 := (blk_cell BKg_ 2).trans rfl; have hcg3 := (blk_cell BKg_ 3).trans rfl; have hcg4 := (blk_cell BKg_ 4).trans rfl; have hcs0 := (blk_cell BKs_ 0).trans rfl; clear BKg_ BKs_) | (go_at_call 113; (with_reducible refine (circuit_board_wire.calls (cl c) HS.out (by omega)).mono ?_); rintro e w' ⟨rfl, hb⟩; replace HS := Aside0.mk hb; clear hb; have BKg_ := HS.out.kept gg _ 105 BKgg.out (by decide) (by decide) (by decide) NGg.out; have BKs_ := HS.out.kept gs _ 24 BKgs.out (by decide) (by decide) (by decide) NGs.out; have hcg0 := (blk_cell BKg_ 0).trans rfl; have hcg1 := (blk_cell BKg_ 1).trans rfl; have hcg2 := (blk_cell BKg_ 2).trans rfl; have hcg3 := (blk_cell BKg_ 3).trans rfl; have hcg4 := (blk_cell BKg_ 4).trans rfl; have hcs0 := (blk_cell BKs_ 0).trans rfl; clear BKg_ BKs_) | (go_at_call 115; refine (circuit_board_v.calls _ HS.out (by omega)).mono ?_; rintro e w' ⟨rfl, hb⟩; replace HS := Aside0.mk hb; clear hb; have BKg_ := HS.out.kept gg _ 105 BKgg.out (by decide) (by decide) (by decide) NGg.out; have BKs_ := HS.out.kept gs _ 24 BKgs.out (by decide) (by decide) (by decide) NGs.out; have hcg0 := (blk_cell BKg_ 0).trans rfl; have hcg1 := (blk_cell BKg_ 1).trans rfl; have hcg2 := (blk_cell BKg_ 2).trans rfl; have hcg3 := (blk_cell BKg_ 3).trans rfl; have hcg4 := (blk_cell BKg_ 4).trans rfl; have hcs0 := (blk_cell BKs_ 0).trans rfl; clear BKg_ BKs_) | (go_at_call 114; refine (circuit_board_sum.calls _ _ HS.out (by omega)).mono ?_; rintro e w' ⟨rfl, hb⟩; replace HS := Aside0.mk hb; clear hb; have BKg_ := HS.out.kept gg _ 105 BKgg.out (by decide) (by decide) (by decide) NGg.out; have BKs_ := HS.out.kept gs _ 24 BKgs.out (by decide) (by decide) (by decide) NGs.out; have hcg0 := (blk_cell BKg_ 0).trans rfl; have hcg1 := (blk_cell BKg_ 1).trans rfl; have hcg2 := (blk_cell BKg_ 2).trans rfl; have hcg3 := (blk_cell BKg_ 3).trans rfl; have hcg4 := (blk_cell BKg_ 4).trans rfl; have hcs0 := (blk_cell BKs_ 0).trans rfl; clear BKg_ BKs_) | (go_at_call 119; refine (circuit_board_prod.calls _ _ HS.out (by omega)).mono ?_; rintro e w' ⟨rfl, hb⟩; replace HS := Aside0.mk hb; clear hb; have BKg_ := HS.out.kept gg _ 105 BKgg.out (by decide) (by decide) (by decide) NGg.out; have BKs_ := HS.out.kept gs _ 24 BKgs.out (by decide) (by decide) (by decide) NGs.out; have hcg0 := (blk_cell BKg_ 0).trans rfl; have hcg1 := (blk_cell BKg_ 1).trans rfl; have hcg2 := (blk_cell BKg_ 2).trans rfl; have hcg3 := (blk_cell BKg_ 3).trans rfl; have hcg4 := (blk_cell BKg_ 4).trans rfl; have hcs0 := (blk_cell BKs_ 0).trans rfl; clear BKg_ BKs_) | (go_at_call 116; refine (circuit_board_done.calls  HS.out (by omega)).mono ?_; rintro e w' ⟨rfl, hb⟩; replace HS := Aside0.mk hb; clear hb; have BKg_ := HS.out.kept gg _ 105 BKgg.out (by decide) (by decide) (by decide) NGg.out; have BKs_ := HS.out.kept gs _ 24 BKgs.out (by decide) (by decide) (by decide) NGs.out; have hcg0 := (blk_cell BKg_ 0).trans rfl; have hcg1 := (blk_cell BKg_ 1).trans rfl; have hcg2 := (blk_cell BKg_ 2).trans rfl; have hcg3 := (blk_cell BKg_ 3).trans rfl; have hcg4 := (blk_cell BKg_ 4).trans rfl; have hcs0 := (blk_cell BKs_ 0).trans rfl; clear BKg_ BKs_))
 (first | go_end0 | ((try simp only [Exit.inBlock, Exit.then]); refine bodyPost_ret (results_none rfl _ _ _) rfl ?_))
 exact ⟨rfl, BrdS.back H0.out HBgs.out HBgg.out HS.out (by omega)⟩
set_option maxHeartbeats 4000000 in
set_option maxRecDepth 100000 in
theorem gate2.calls (s0 s1 s2 s3 s4 : Int) (As : Option Addr) (ns cs : Nat) (d a c s : Int) {base n : Nat} {w0 w : World} {g : Nat} {b : Bd} (H : BrdS base w0 w g b n) (hn : n < 90000) :
  Calls Try.prog 88 #[.pointer (some ⟨g, 0, none⟩), .agg #[.int .i64 s0, .int .i64 s1, .int .i64 s2, .int .i64 s3, .int .i64 s4, .slice As ns cs], .agg #[.int .i64 2, .int .i64 d, .int .i64 a, .int .i64 c, .int .i64 s]] w fun e w' => e = .returned (.tuple #[]) ∧ BrdS base w0 w' g (gate2 b d a c s) (n + 50) := by
 have H0 := Aside0.mk H; clear H
 have hu24 := Try.underlying24; have hu105 := Try.underlying105; have hu76 := Try.underlying76; have hu74 := Try.underlying74; have hu118 := Try.underlying118
 go_enter Try.func88, Try.ntmps88
 go_wp2_with (first | ((with_reducible refine gate_dst (N := 4) rfl ?_); refine box_event rfl (N := 4) rfl (cs := #[.int .i64 s0, .int .i64 s1, .int .i64 s2, .int .i64 s3, .int .i64 s4, .slice As ns cs]) (t := 24) (by first | (go_simp; done) | (go_simp; rfl)) ?_; intro gs hgs wgs hbox hb; have BKgs := Aside0.mk hbox; have HBgs := Aside0.mk hb; clear hbox hb hgs; have hcs0 := (blk_cell BKgs.out 0).trans rfl) | ((with_reducible refine gate_dst (N := 5) rfl ?_); refine box_event rfl (N := 5) rfl (cs := #[.int .i64 2, .int .i64 d, .int .i64 a, .int .i64 c, .int .i64 s]) (t := 105) (by first | (go_simp; done) | (go_simp; rfl)) ?_; intro gg hgg wgg hbox hb; have BKgg := Aside0.mk hbox; have HBgg := Aside0.mk hb; clear hbox hb hgg; replace BKgs := Aside0.mk (blk_below BKgs.out HBgg.out); have HS := Aside0.mk (⟨(H0.out.brd.below HBgs.out).below HBgg.out, Below.refl _ _, H0.out.small, TK.refl _ _⟩ : BrdS base wgg wgg g b n); have NGg := Aside0.mk (HS.out.ne BKgg.out (by decide)); have NGs := Aside0.mk (HS.out.ne BKgs.out (by decide)); have hcg0 := (blk_cell BKgg.out 0).trans rfl; have hcg1 := (blk_cell BKgg.out 1).trans rfl; have hcg2 := (blk_cell BKgg.out 2).trans rfl; have hcg3 := (blk_cell BKgg.out 3).trans rfl; have hcg4 := (blk_cell BKgg.out 4).trans rfl; have hcs0 := (blk_cell BKgs.out 0).trans rfl) | (go_at_call 117; (with_reducible refine (circuit_turned.calls 2 0 _ rfl).mono ?_); rintro e w' ⟨rfl, ⟨nd, rfl⟩⟩; replace HS := Aside0.mk (HS.out.drewN nd); have BKg_ := HS.out.kept gg _ 105 BKgg.out (by decide) (by decide) (by decide) NGg.out; have BKs_ := HS.out.kept gs _ 24 BKgs.out (by decide) (by decide) (by decide) NGs.out; have hcg0 := (blk_cell BKg_ 0).trans rfl; have hcg1 := (blk_cell BKg_ 1).trans rfl; have hcg2 := (blk_cell BKg_ 2).trans rfl; have hcg3 := (blk_cell BKg_ 3).trans rfl; have hcg4 := (blk_cell BKg_ 4).trans rfl; have hcs0 := (blk_cell BKs_ 0).trans rfl; clear BKg_ BKs_) | (go_at_call 113; (with_reducible refine (circuit_board_wire.calls (cl d) HS.out (by omega)).mono ?_); rintro e w' ⟨rfl, hb⟩; replace HS := Aside0.mk hb; clear hb; have BKg_ := HS.out.kept gg _ 105 BKgg.out (by decide) (by decide) (by decide) NGg.out; have BKs_ := HS.out.kept gs _ 24 BKgs.out (by decide) (by decide) (by decide) NGs.out; have hcg0 := (blk_cell BKg_ 0).trans rfl; have hcg1 := (blk_cell BKg_ 1).trans rfl; have hcg2 := (blk_cell BKg_ 2).trans rfl; have hcg3 := (blk_cell BKg_ 3).trans rfl; have hcg4 := (blk_cell BKg_ 4).trans rfl; have hcs0 := (blk_cell BKs_ 0).trans rfl; clear BKg_ BKs_) | (go_at_call 113; (with_reducible refine (circuit_board_wire.calls (cl a) HS.out (by omega)).mono ?_); rintro e w' ⟨rfl, hb⟩; replace HS := Aside0.mk hb; clear hb; have BKg_ := HS.out.kept gg _ 105 BKgg.out (by decide) (by decide) (by decide) NGg.out; have BKs_ := HS.out.kept gs _ 24 BKgs.out (by decide) (by decide) (by decide) NGs.out; have hcg0 := (blk_cell BKg_ 0).trans rfl; have hcg1 := (blk_cell BKg_ 1).trans rfl; have hcg2 := (blk_cell BKg_ 2).trans rfl; have hcg3 := (blk_cell BKg_ 3).trans rfl; have hcg4 := (blk_cell BKg_ 4).trans rfl; have hcs0 := (blk_cell BKs_ 0).trans rfl; clear BKg_ BKs_) | (go_at_call 113; (with_reducible refine (circuit_board_wire.calls (cl c) HS.out (by omega)).mono ?_); rintro e w' ⟨rfl, hb⟩; replace HS := Aside0.mk hb; clear hb; have BKg_ := HS.out.kept gg _ 105 BKgg.out (by decide) (by decide) (by decide) NGg.out; have BKs_ := HS.out.kept gs _ 24 BKgs.out (by decide) (by decide) (by decide) NGs.out; have hcg0 := (blk_cell BKg_ 0).trans rfl; have hcg1 := (blk_cell BKg_ 1).trans rfl; have hcg2 := (blk_cell BKg_ 2).trans rfl; have hcg3 := (blk_cell BKg_ 3).trans rfl; have hcg4 := (blk_cell BKg_ 4).trans rfl; have hcs0 := (blk_cell BKs_ 0).trans rfl; clear BKg_ BKs_) | (go_at_call 115; refine (circuit_board_v.calls _ HS.out (by omega)).mono ?_; rintro e w' ⟨rfl, hb⟩; replace HS := Aside0.mk hb; clear hb; have BKg_ := HS.out.kept gg _ 105 BKgg.out (by decide) (by decide) (by decide) NGg.out; have BKs_ := HS.out.kept gs _ 24 BKgs.out (by decide) (by decide) (by decide) NGs.out; have hcg0 := (blk_cell BKg_ 0).trans rfl; have hcg1 := (blk_cell BKg_ 1).trans rfl; have hcg2 := (blk_cell BKg_ 2).trans rfl; have hcg3 := (blk_cell BKg_ 3).trans rfl; have hcg4 := (blk_cell BKg_ 4).trans rfl; have hcs0 := (blk_cell BKs_ 0).trans rfl; clear BKg_ BKs_) | (go_at_call 114; refine (circuit_board_sum.calls _ _ HS.out (by omega)).mono ?_; rintro e w' ⟨rfl, hb⟩; replace HS := Aside0.mk hb; clear hb; have BKg_ := HS.out.kept gg _ 105 BKgg.out (by decide) (by decide) (by decide) NGg.out; have BKs_ := HS.out.kept gs _ 24 BKgs.out (by decide) (by decide) (by decide) NGs.out; have hcg0 := (blk_cell BKg_ 0).trans rfl; have hcg1 := (blk_cell BKg_ 1).trans rfl; have hcg2 := (blk_cell BKg_ 2).trans rfl; have hcg3 := (blk_cell BKg_ 3).trans rfl; have hcg4 := (blk_cell BKg_ 4).trans rfl; have hcs0 := (blk_cell BKs_ 0).trans rfl; clear BKg_ BKs_) | (go_at_call 119; refine (circuit_board_prod.calls _ _ HS.out (by omega)).mono ?_; rintro e w' ⟨rfl, hb⟩; replace HS := Aside0.mk hb; clear hb; have BKg_ := HS.out.kept gg _ 105 BKgg.out (by decide) (by decide) (by decide) NGg.out; have BKs_ := HS.out.kept gs _ 24 BKgs.out (by decide) (by decide) (by decide) NGs.out; have hcg0 := (blk_cell BKg_ 0).trans rfl; have hcg1 := (blk_cell BKg_ 1).trans rfl; have hcg2 := (blk_cell BKg_ 2).trans rfl; have hcg3 := (blk_cell BKg_ 3).trans rfl; have hcg4 := (blk_cell BKg_ 4).trans rfl; have hcs0 := (blk_cell BKs_ 0).trans rfl; clear BKg_ BKs_) | (go_at_call 116; refine (circuit_board_done.calls  HS.out (by omega)).mono ?_; rintro e w' ⟨rfl, hb⟩; replace HS := Aside0.mk hb; clear hb; have BKg_ := HS.out.kept gg _ 105 BKgg.out (by decide) (by decide) (by decide) NGg.out; have BKs_ := HS.out.kept gs _ 24 BKgs.out (by decide) (by decide) (by decide) NGs.out; have hcg0 := (blk_cell BKg_ 0).trans rfl; have hcg1 := (blk_cell BKg_ 1).trans rfl; have hcg2 := (blk_cell BKg_ 2).trans rfl; have hcg3 := (blk_cell BKg_ 3).trans rfl; have hcg4 := (blk_cell BKg_ 4).trans rfl; have hcs0 := (blk_cell BKs_ 0).trans rfl; clear BKg_ BKs_))
 (first | go_end0 | ((try simp only [Exit.inBlock, Exit.then]); refine bodyPost_ret (results_none rfl _ _ _) rfl ?_))
 exact ⟨rfl, BrdS.back H0.out HBgs.out HBgg.out HS.out (by omega)⟩
set_option maxHeartbeats 4000000 in
set_option maxRecDepth 100000 in
theorem gate70.calls (s0 s1 s2 s3 s4 : Int) (As : Option Addr) (ns cs : Nat) (d a c s : Int) {base n : Nat} {w0 w : World} {g : Nat} {b : Bd} (H : BrdS base w0 w g b n) (hn : n < 80000) (hw0 : (s0 == 0) = true) :
  Calls Try.prog 88 #[.pointer (some ⟨g, 0, none⟩), .agg #[.int .i64 s0, .int .i64 s1, .int .i64 s2, .int .i64 s3, .int .i64 s4, .slice As ns cs], .agg #[.int .i64 7, .int .i64 d, .int .i64 a, .int .i64 c, .int .i64 s]] w fun e w' => e = .returned (.tuple #[]) ∧ BrdS base w0 w' g (gate7 b s0 d a c s) (n + 60) := by
 have hw := Aside0.mk hw0; clear hw0
 have H0 := Aside0.mk H; clear H
 have hu24 := Try.underlying24; have hu105 := Try.underlying105; have hu76 := Try.underlying76; have hu74 := Try.underlying74; have hu118 := Try.underlying118
 go_enter Try.func88, Try.ntmps88
 go_wp2_with (first | ((with_reducible refine gate_dst (N := 4) rfl ?_); refine box_event rfl (N := 4) rfl (cs := #[.int .i64 s0, .int .i64 s1, .int .i64 s2, .int .i64 s3, .int .i64 s4, .slice As ns cs]) (t := 24) (by first | (go_simp; done) | (go_simp; rfl)) ?_; intro gs hgs wgs hbox hb; have BKgs := Aside0.mk hbox; have HBgs := Aside0.mk hb; clear hbox hb hgs; have hcs0 := (blk_cell BKgs.out 0).trans rfl; have hcs1 := (blk_cell BKgs.out 1).trans rfl; have hcs2 := (blk_cell BKgs.out 2).trans rfl; have hcs3 := (blk_cell BKgs.out 3).trans rfl; have hcs4 := (blk_cell BKgs.out 4).trans rfl; have hcs5 := (blk_cell BKgs.out 5).trans rfl) | ((with_reducible refine gate_dst (N := 5) rfl ?_); refine box_event rfl (N := 5) rfl (cs := #[.int .i64 7, .int .i64 d, .int .i64 a, .int .i64 c, .int .i64 s]) (t := 105) (by first | (go_simp; done) | (go_simp; rfl)) ?_; intro gg hgg wgg hbox hb; have BKgg := Aside0.mk hbox; have HBgg := Aside0.mk hb; clear hbox hb hgg; replace BKgs := Aside0.mk (blk_below BKgs.out HBgg.out); have HS := Aside0.mk (⟨(H0.out.brd.below HBgs.out).below HBgg.out, Below.refl _ _, H0.out.small, TK.refl _ _⟩ : BrdS base wgg wgg g b n); have NGg := Aside0.mk (HS.out.ne BKgg.out (by decide)); have NGs := Aside0.mk (HS.out.ne BKgs.out (by decide)); have hcg0 := (blk_cell BKgg.out 0).trans rfl; have hcg1 := (blk_cell BKgg.out 1).trans rfl; have hcg2 := (blk_cell BKgg.out 2).trans rfl; have hcg3 := (blk_cell BKgg.out 3).trans rfl; have hcg4 := (blk_cell BKgg.out 4).trans rfl; have hcs0 := (blk_cell BKgs.out 0).trans rfl; have hcs1 := (blk_cell BKgs.out 1).trans rfl; have hcs2 := (blk_cell BKgs.out 2).trans rfl; have hcs3 := (blk_cell BKgs.out 3).trans rfl; have hcs4 := (blk_cell BKgs.out 4).trans rfl; have hcs5 := (blk_cell BKgs.out 5).trans rfl) | (go_at_call 117; (with_reducible refine (circuit_turned.calls 7 0 _ rfl).mono ?_); rintro e w' ⟨rfl, ⟨nd, rfl⟩⟩; replace HS := Aside0.mk (HS.out.drewN nd); have BKg_ := HS.out.kept gg _ 105 BKgg.out (by decide) (by decide) (by decide) NGg.out; have BKs_ := HS.out.kept gs _ 24 BKgs.out (by decide) (by decide) (by decide) NGs.out; have hcg0 := (blk_cell BKg_ 0).trans rfl; have hcg1 := (blk_cell BKg_ 1).trans rfl; have hcg2 := (blk_cell BKg_ 2).trans rfl; have hcg3 := (blk_cell BKg_ 3).trans rfl; have hcg4 := (blk_cell BKg_ 4).trans rfl; have hcs0 := (blk_cell BKs_ 0).trans rfl; have hcs1 := (blk_cell BKs_ 1).trans rfl; have hcs2 := (blk_cell BKs_ 2).trans rfl; have hcs3 := (blk_cell BKs_ 3).trans rfl; have hcs4 := (blk_cell BKs_ 4).trans rfl; have hcs5 := (blk_cell BKs_ 5).trans rfl; clear BKg_ BKs_) | (go_at_call 113; (with_reducible refine (circuit_board_wire.calls (cl d) HS.out (by omega)).mono ?_); rintro e w' ⟨rfl, hb⟩; replace HS := Aside0.mk hb; clear hb; have BKg_ := HS.out.kept gg _ 105 BKgg.out (by decide) (by decide) (by decide) NGg.out; have BKs_ := HS.out.kept gs _ 24 BKgs.out (by decide) (by decide) (by decide) NGs.out; have hcg0 := (blk_cell BKg_ 0).trans rfl; have hcg1 := (blk_cell BKg_ 1).trans rfl; have hcg2 := (blk_cell BKg_ 2).trans rfl; have hcg3 := (blk_cell BKg_ 3).trans rfl; have hcg4 := (blk_cell BKg_ 4).trans rfl; have hcs0 := (blk_cell BKs_ 0).trans rfl; have hcs1 := (blk_cell BKs_ 1).trans rfl; have hcs2 := (blk_cell BKs_ 2).trans rfl; have hcs3 := (blk_cell BKs_ 3).trans rfl; have hcs4 := (blk_cell BKs_ 4).trans rfl; have hcs5 := (blk_cell BKs_ 5).trans rfl; clear BKg_ BKs_) | (go_at_call 113; (with_reducible refine (circuit_board_wire.calls (cl a) HS.out (by omega)).mono ?_); rintro e w' ⟨rfl, hb⟩; replace HS := Aside0.mk hb; clear hb; have BKg_ := HS.out.kept gg _ 105 BKgg.out (by decide) (by decide) (by decide) NGg.out; have BKs_ := HS.out.kept gs _ 24 BKgs.out (by decide) (by decide) (by decide) NGs.out; have hcg0 := (blk_cell BKg_ 0).trans rfl; have hcg1 := (blk_cell BKg_ 1).trans rfl; have hcg2 := (blk_cell BKg_ 2).trans rfl; have hcg3 := (blk_cell BKg_ 3).trans rfl; have hcg4 := (blk_cell BKg_ 4).trans rfl; have hcs0 := (blk_cell BKs_ 0).trans rfl; have hcs1 := (blk_cell BKs_ 1).trans rfl; have hcs2 := (blk_cell BKs_ 2).trans rfl; have hcs3 := (blk_cell BKs_ 3).trans rfl; have hcs4 := (blk_cell BKs_ 4).trans rfl; have hcs5 := (blk_cell BKs_ 5).trans rfl; clear BKg_ BKs_) | (go_at_call 120; (with_reducible refine (add0.calls s0 s1 s2 s3 s4 As ns cs d a c s _ _ HS.out (by omega) hw.out).mono ?_); rintro e w' ⟨rfl, hb⟩; replace HS := Aside0.mk hb; clear hb; have BKg_ := HS.out.kept gg _ 105 BKgg.out (by decide) (by decide) (by decide) NGg.out; have BKs_ := HS.out.kept gs _ 24 BKgs.out (by decide) (by decide) (by decide) NGs.out; have hcg0 := (blk_cell BKg_ 0).trans rfl; have hcg1 := (blk_cell BKg_ 1).trans rfl; have hcg2 := (blk_cell BKg_ 2).trans rfl; have hcg3 := (blk_cell BKg_ 3).trans rfl; have hcg4 := (blk_cell BKg_ 4).trans rfl; have hcs0 := (blk_cell BKs_ 0).trans rfl; have hcs1 := (blk_cell BKs_ 1).trans rfl; have hcs2 := (blk_cell BKs_ 2).trans rfl; have hcs3 := (blk_cell BKs_ 3).trans rfl; have hcs4 := (blk_cell BKs_ 4).trans rfl; have hcs5 := (blk_cell BKs_ 5).trans rfl; clear BKg_ BKs_) | (go_at_call 115; refine (circuit_board_v.calls _ HS.out (by omega)).mono ?_; rintro e w' ⟨rfl, hb⟩; replace HS := Aside0.mk hb; clear hb; have BKg_ := HS.out.kept gg _ 105 BKgg.out (by decide) (by decide) (by decide) NGg.out; have BKs_ := HS.out.kept gs _ 24 BKgs.out (by decide) (by decide) (by decide) NGs.out; have hcg0 := (blk_cell BKg_ 0).trans rfl; have hcg1 := (blk_cell BKg_ 1).trans rfl; have hcg2 := (blk_cell BKg_ 2).trans rfl; have hcg3 := (blk_cell BKg_ 3).trans rfl; have hcg4 := (blk_cell BKg_ 4).trans rfl; have hcs0 := (blk_cell BKs_ 0).trans rfl; have hcs1 := (blk_cell BKs_ 1).trans rfl; have hcs2 := (blk_cell BKs_ 2).trans rfl; have hcs3 := (blk_cell BKs_ 3).trans rfl; have hcs4 := (blk_cell BKs_ 4).trans rfl; have hcs5 := (blk_cell BKs_ 5).trans rfl; clear BKg_ BKs_) | (go_at_call 114; refine (circuit_board_sum.calls _ _ HS.out (by omega)).mono ?_; rintro e w' ⟨rfl, hb⟩; replace HS := Aside0.mk hb; clear hb; have BKg_ := HS.out.kept gg _ 105 BKgg.out (by decide) (by decide) (by decide) NGg.out; have BKs_ := HS.out.kept gs _ 24 BKgs.out (by decide) (by decide) (by decide) NGs.out; have hcg0 := (blk_cell BKg_ 0).trans rfl; have hcg1 := (blk_cell BKg_ 1).trans rfl; have hcg2 := (blk_cell BKg_ 2).trans rfl; have hcg3 := (blk_cell BKg_ 3).trans rfl; have hcg4 := (blk_cell BKg_ 4).trans rfl; have hcs0 := (blk_cell BKs_ 0).trans rfl; have hcs1 := (blk_cell BKs_ 1).trans rfl; have hcs2 := (blk_cell BKs_ 2).trans rfl; have hcs3 := (blk_cell BKs_ 3).trans rfl; have hcs4 := (blk_cell BKs_ 4).trans rfl; have hcs5 := (blk_cell BKs_ 5).trans rfl; clear BKg_ BKs_) | (go_at_call 119; refine (circuit_board_prod.calls _ _ HS.out (by omega)).mono ?_; rintro e w' ⟨rfl, hb⟩; replace HS := Aside0.mk hb; clear hb; have BKg_ := HS.out.kept gg _ 105 BKgg.out (by decide) (by decide) (by decide) NGg.out; have BKs_ := HS.out.kept gs _ 24 BKgs.out (by decide) (by decide) (by decide) NGs.out; have hcg0 := (blk_cell BKg_ 0).trans rfl; have hcg1 := (blk_cell BKg_ 1).trans rfl; have hcg2 := (blk_cell BKg_ 2).trans rfl; have hcg3 := (blk_cell BKg_ 3).trans rfl; have hcg4 := (blk_cell BKg_ 4).trans rfl; have hcs0 := (blk_cell BKs_ 0).trans rfl; have hcs1 := (blk_cell BKs_ 1).trans rfl; have hcs2 := (blk_cell BKs_ 2).trans rfl; have hcs3 := (blk_cell BKs_ 3).trans rfl; have hcs4 := (blk_cell BKs_ 4).trans rfl; have hcs5 := (blk_cell BKs_ 5).trans rfl; clear BKg_ BKs_) | (go_at_call 116; refine (circuit_board_done.calls  HS.out (by omega)).mono ?_; rintro e w' ⟨rfl, hb⟩; replace HS := Aside0.mk hb; clear hb; have BKg_ := HS.out.kept gg _ 105 BKgg.out (by decide) (by decide) (by decide) NGg.out; have BKs_ := HS.out.kept gs _ 24 BKgs.out (by decide) (by decide) (by decide) NGs.out; have hcg0 := (blk_cell BKg_ 0).trans rfl; have hcg1 := (blk_cell BKg_ 1).trans rfl; have hcg2 := (blk_cell BKg_ 2).trans rfl; have hcg3 := (blk_cell BKg_ 3).trans rfl; have hcg4 := (blk_cell BKg_ 4).trans rfl; have hcs0 := (blk_cell BKs_ 0).trans rfl; have hcs1 := (blk_cell BKs_ 1).trans rfl; have hcs2 := (blk_cell BKs_ 2).trans rfl; have hcs3 := (blk_cell BKs_ 3).trans rfl; have hcs4 := (blk_cell BKs_ 4).trans rfl; have hcs5 := (blk_cell BKs_ 5).trans rfl; clear BKg_ BKs_))
 (first | go_end0 | ((try simp only [Exit.inBlock, Exit.then]); refine bodyPost_ret (results_none rfl _ _ _) rfl ?_))
 have hres : gate7 b s0 d a c s = (add0 ((b.wire (cl d)).wire (cl a)) c s (wIdx b.ws (cl d)) (wIdx (b.wire (cl d)).ws (cl a))).done := by unfold gate7; simp only; rw [if_pos (by simpa using hw.out)]
 rw [hres]
 exact ⟨rfl, BrdS.back H0.out HBgs.out HBgg.out HS.out (by omega)⟩
set_option maxHeartbeats 4000000 in
set_option maxRecDepth 100000 in
theorem gate71.calls (s0 s1 s2 s3 s4 : Int) (As : Option Addr) (ns cs : Nat) (d a c s : Int) {base n : Nat} {w0 w : World} {g : Nat} {b : Bd} (H : BrdS base w0 w g b n) (hn : n < 80000) (hw0 : (s0 == 0) = false) :
  Calls Try.prog 88 #[.pointer (some ⟨g, 0, none⟩), .agg #[.int .i64 s0, .int .i64 s1, .int .i64 s2, .int .i64 s3, .int .i64 s4, .slice As ns cs], .agg #[.int .i64 7, .int .i64 d, .int .i64 a, .int .i64 c, .int .i64 s]] w fun e w' => e = .returned (.tuple #[]) ∧ BrdS base w0 w' g (gate7 b s0 d a c s) (n + 60) := by
 have hw := Aside0.mk hw0; clear hw0
 have H0 := Aside0.mk H; clear H
 have hu24 := Try.underlying24; have hu105 := Try.underlying105; have hu76 := Try.underlying76; have hu74 := Try.underlying74; have hu118 := Try.underlying118
 go_enter Try.func88, Try.ntmps88
 go_wp2_with (first | ((with_reducible refine gate_dst (N := 4) rfl ?_); refine box_event rfl (N := 4) rfl (cs := #[.int .i64 s0, .int .i64 s1, .int .i64 s2, .int .i64 s3, .int .i64 s4, .slice As ns cs]) (t := 24) (by first | (go_simp; done) | (go_simp; rfl)) ?_; intro gs hgs wgs hbox hb; have BKgs := Aside0.mk hbox; have HBgs := Aside0.mk hb; clear hbox hb hgs; have hcs0 := (blk_cell BKgs.out 0).trans rfl; have hcs1 := (blk_cell BKgs.out 1).trans rfl; have hcs2 := (blk_cell BKgs.out 2).trans rfl; have hcs3 := (blk_cell BKgs.out 3).trans rfl; have hcs4 := (blk_cell BKgs.out 4).trans rfl; have hcs5 := (blk_cell BKgs.out 5).trans rfl) | ((with_reducible refine gate_dst (N := 5) rfl ?_); refine box_event rfl (N := 5) rfl (cs := #[.int .i64 7, .int .i64 d, .int .i64 a, .int .i64 c, .int .i64 s]) (t := 105) (by first | (go_simp; done) | (go_simp; rfl)) ?_; intro gg hgg wgg hbox hb; have BKgg := Aside0.mk hbox; have HBgg := Aside0.mk hb; clear hbox hb hgg; replace BKgs := Aside0.mk (blk_below BKgs.out HBgg.out); have HS := Aside0.mk (⟨(H0.out.brd.below HBgs.out).below HBgg.out, Below.refl _ _, H0.out.small, TK.refl _ _⟩ : BrdS base wgg wgg g b n); have NGg := Aside0.mk (HS.out.ne BKgg.out (by decide)); have NGs := Aside0.mk (HS.out.ne BKgs.out (by decide)); have hcg0 := (blk_cell BKgg.out 0).trans rfl; have hcg1 := (blk_cell BKgg.out 1).trans rfl; have hcg2 := (blk_cell BKgg.out 2).trans rfl; have hcg3 := (blk_cell BKgg.out 3).trans rfl; have hcg4 := (blk_cell BKgg.out 4).trans rfl; have hcs0 := (blk_cell BKgs.out 0).trans rfl; have hcs1 := (blk_cell BKgs.out 1).trans rfl; have hcs2 := (blk_cell BKgs.out 2).trans rfl; have hcs3 := (blk_cell BKgs.out 3).trans rfl; have hcs4 := (blk_cell BKgs.out 4).trans rfl; have hcs5 := (blk_cell BKgs.out 5).trans rfl) | (go_at_call 117; (with_reducible refine (circuit_turned.calls 7 0 _ rfl).mono ?_); rintro e w' ⟨rfl, ⟨nd, rfl⟩⟩; replace HS := Aside0.mk (HS.out.drewN nd); have BKg_ := HS.out.kept gg _ 105 BKgg.out (by decide) (by decide) (by decide) NGg.out; have BKs_ := HS.out.kept gs _ 24 BKgs.out (by decide) (by decide) (by decide) NGs.out; have hcg0 := (blk_cell BKg_ 0).trans rfl; have hcg1 := (blk_cell BKg_ 1).trans rfl; have hcg2 := (blk_cell BKg_ 2).trans rfl; have hcg3 := (blk_cell BKg_ 3).trans rfl; have hcg4 := (blk_cell BKg_ 4).trans rfl; have hcs0 := (blk_cell BKs_ 0).trans rfl; have hcs1 := (blk_cell BKs_ 1).trans rfl; have hcs2 := (blk_cell BKs_ 2).trans rfl; have hcs3 := (blk_cell BKs_ 3).trans rfl; have hcs4 := (blk_cell BKs_ 4).trans rfl; have hcs5 := (blk_cell BKs_ 5).trans rfl; clear BKg_ BKs_) | (go_at_call 113; (with_reducible refine (circuit_board_wire.calls (cl d) HS.out (by omega)).mono ?_); rintro e w' ⟨rfl, hb⟩; replace HS := Aside0.mk hb; clear hb; have BKg_ := HS.out.kept gg _ 105 BKgg.out (by decide) (by decide) (by decide) NGg.out; have BKs_ := HS.out.kept gs _ 24 BKgs.out (by decide) (by decide) (by decide) NGs.out; have hcg0 := (blk_cell BKg_ 0).trans rfl; have hcg1 := (blk_cell BKg_ 1).trans rfl; have hcg2 := (blk_cell BKg_ 2).trans rfl; have hcg3 := (blk_cell BKg_ 3).trans rfl; have hcg4 := (blk_cell BKg_ 4).trans rfl; have hcs0 := (blk_cell BKs_ 0).trans rfl; have hcs1 := (blk_cell BKs_ 1).trans rfl; have hcs2 := (blk_cell BKs_ 2).trans rfl; have hcs3 := (blk_cell BKs_ 3).trans rfl; have hcs4 := (blk_cell BKs_ 4).trans rfl; have hcs5 := (blk_cell BKs_ 5).trans rfl; clear BKg_ BKs_) | (go_at_call 113; (with_reducible refine (circuit_board_wire.calls (cl a) HS.out (by omega)).mono ?_); rintro e w' ⟨rfl, hb⟩; replace HS := Aside0.mk hb; clear hb; have BKg_ := HS.out.kept gg _ 105 BKgg.out (by decide) (by decide) (by decide) NGg.out; have BKs_ := HS.out.kept gs _ 24 BKgs.out (by decide) (by decide) (by decide) NGs.out; have hcg0 := (blk_cell BKg_ 0).trans rfl; have hcg1 := (blk_cell BKg_ 1).trans rfl; have hcg2 := (blk_cell BKg_ 2).trans rfl; have hcg3 := (blk_cell BKg_ 3).trans rfl; have hcg4 := (blk_cell BKg_ 4).trans rfl; have hcs0 := (blk_cell BKs_ 0).trans rfl; have hcs1 := (blk_cell BKs_ 1).trans rfl; have hcs2 := (blk_cell BKs_ 2).trans rfl; have hcs3 := (blk_cell BKs_ 3).trans rfl; have hcs4 := (blk_cell BKs_ 4).trans rfl; have hcs5 := (blk_cell BKs_ 5).trans rfl; clear BKg_ BKs_) | (go_at_call 120; (with_reducible refine (add1.calls s0 s1 s2 s3 s4 As ns cs d a c s _ _ HS.out (by omega) hw.out).mono ?_); rintro e w' ⟨rfl, hb⟩; replace HS := Aside0.mk hb; clear hb; have BKg_ := HS.out.kept gg _ 105 BKgg.out (by decide) (by decide) (by decide) NGg.out; have BKs_ := HS.out.kept gs _ 24 BKgs.out (by decide) (by decide) (by decide) NGs.out; have hcg0 := (blk_cell BKg_ 0).trans rfl; have hcg1 := (blk_cell BKg_ 1).trans rfl; have hcg2 := (blk_cell BKg_ 2).trans rfl; have hcg3 := (blk_cell BKg_ 3).trans rfl; have hcg4 := (blk_cell BKg_ 4).trans rfl; have hcs0 := (blk_cell BKs_ 0).trans rfl; have hcs1 := (blk_cell BKs_ 1).trans rfl; have hcs2 := (blk_cell BKs_ 2).trans rfl; have hcs3 := (blk_cell BKs_ 3).trans rfl; have hcs4 := (blk_cell BKs_ 4).trans rfl; have hcs5 := (blk_cell BKs_ 5).trans rfl; clear BKg_ BKs_) | (go_at_call 115; refine (circuit_board_v.calls _ HS.out (by omega)).mono ?_; rintro e w' ⟨rfl, hb⟩; replace HS := Aside0.mk hb; clear hb; have BKg_ := HS.out.kept gg _ 105 BKgg.out (by decide) (by decide) (by decide) NGg.out; have BKs_ := HS.out.kept gs _ 24 BKgs.out (by decide) (by decide) (by decide) NGs.out; have hcg0 := (blk_cell BKg_ 0).trans rfl; have hcg1 := (blk_cell BKg_ 1).trans rfl; have hcg2 := (blk_cell BKg_ 2).trans rfl; have hcg3 := (blk_cell BKg_ 3).trans rfl; have hcg4 := (blk_cell BKg_ 4).trans rfl; have hcs0 := (blk_cell BKs_ 0).trans rfl; have hcs1 := (blk_cell BKs_ 1).trans rfl; have hcs2 := (blk_cell BKs_ 2).trans rfl; have hcs3 := (blk_cell BKs_ 3).trans rfl; have hcs4 := (blk_cell BKs_ 4).trans rfl; have hcs5 := (blk_cell BKs_ 5).trans rfl; clear BKg_ BKs_) | (go_at_call 114; refine (circuit_board_sum.calls _ _ HS.out (by omega)).mono ?_; rintro e w' ⟨rfl, hb⟩; replace HS := Aside0.mk hb; clear hb; have BKg_ := HS.out.kept gg _ 105 BKgg.out (by decide) (by decide) (by decide) NGg.out; have BKs_ := HS.out.kept gs _ 24 BKgs.out (by decide) (by decide) (by decide) NGs.out; have hcg0 := (blk_cell BKg_ 0).trans rfl; have hcg1 := (blk_cell BKg_ 1).trans rfl; have hcg2 := (blk_cell BKg_ 2).trans rfl; have hcg3 := (blk_cell BKg_ 3).trans rfl; have hcg4 := (blk_cell BKg_ 4).trans rfl; have hcs0 := (blk_cell BKs_ 0).trans rfl; have hcs1 := (blk_cell BKs_ 1).trans rfl; have hcs2 := (blk_cell BKs_ 2).trans rfl; have hcs3 := (blk_cell BKs_ 3).trans rfl; have hcs4 := (blk_cell BKs_ 4).trans rfl; have hcs5 := (blk_cell BKs_ 5).trans rfl; clear BKg_ BKs_) | (go_at_call 119; refine (circuit_board_prod.calls _ _ HS.out (by omega)).mono ?_; rintro e w' ⟨rfl, hb⟩; replace HS := Aside0.mk hb; clear hb; have BKg_ := HS.out.kept gg _ 105 BKgg.out (by decide) (by decide) (by decide) NGg.out; have BKs_ := HS.out.kept gs _ 24 BKgs.out (by decide) (by decide) (by decide) NGs.out; have hcg0 := (blk_cell BKg_ 0).trans rfl; have hcg1 := (blk_cell BKg_ 1).trans rfl; have hcg2 := (blk_cell BKg_ 2).trans rfl; have hcg3 := (blk_cell BKg_ 3).trans rfl; have hcg4 := (blk_cell BKg_ 4).trans rfl; have hcs0 := (blk_cell BKs_ 0).trans rfl; have hcs1 := (blk_cell BKs_ 1).trans rfl; have hcs2 := (blk_cell BKs_ 2).trans rfl; have hcs3 := (blk_cell BKs_ 3).trans rfl; have hcs4 := (blk_cell BKs_ 4).trans rfl; have hcs5 := (blk_cell BKs_ 5).trans rfl; clear BKg_ BKs_) | (go_at_call 116; refine (circuit_board_done.calls  HS.out (by omega)).mono ?_; rintro e w' ⟨rfl, hb⟩; replace HS := Aside0.mk hb; clear hb; have BKg_ := HS.out.kept gg _ 105 BKgg.out (by decide) (by decide) (by decide) NGg.out; have BKs_ := HS.out.kept gs _ 24 BKgs.out (by decide) (by decide) (by decide) NGs.out; have hcg0 := (blk_cell BKg_ 0).trans rfl; have hcg1 := (blk_cell BKg_ 1).trans rfl; have hcg2 := (blk_cell BKg_ 2).trans rfl; have hcg3 := (blk_cell BKg_ 3).trans rfl; have hcg4 := (blk_cell BKg_ 4).trans rfl; have hcs0 := (blk_cell BKs_ 0).trans rfl; have hcs1 := (blk_cell BKs_ 1).trans rfl; have hcs2 := (blk_cell BKs_ 2).trans rfl; have hcs3 := (blk_cell BKs_ 3).trans rfl; have hcs4 := (blk_cell BKs_ 4).trans rfl; have hcs5 := (blk_cell BKs_ 5).trans rfl; clear BKg_ BKs_))
 (first | go_end0 | ((try simp only [Exit.inBlock, Exit.then]); refine bodyPost_ret (results_none rfl _ _ _) rfl ?_))
 have hres : gate7 b s0 d a c s = (add1 ((b.wire (cl d)).wire (cl a)) c s (wIdx b.ws (cl d)) (wIdx (b.wire (cl d)).ws (cl a))).done := by unfold gate7; simp only; rw [if_neg (by simpa using hw.out)]
 rw [hres]
 exact ⟨rfl, BrdS.back H0.out HBgs.out HBgg.out HS.out (by omega)⟩
/-- What a gate makes of the board. -/
def gateF (w : Int) (b : Bd) (g : S105) : Bd :=
 if g.f0 = 8 then gate8 b g.f1 g.f2 g.f3 g.f4 else if g.f0 = 7 then gate7 b w g.f1 g.f2 g.f3 g.f4 else if g.f0 = 3 then gate3 b g.f1 g.f2 g.f3 g.f4 else
 if g.f0 = 1 then gate1 b g.f1 g.f2 g.f3 g.f4 else if g.f0 = 2 then gate2 b g.f1 g.f2 g.f3 g.f4 else gateT b (g.f0 - 3) g.f1 g.f2 g.f3 g.f4
def gateAll (w : Int) (l : List S105) : Bd := l.foldl (gateF w) ⟨[], [], []⟩
theorem BrdS.more {base : Nat} {w0 w : World} {g : Nat} {b : Bd} {n m : Nat} (h : BrdS base w0 w g b n) (hm : n ≤ m) : BrdS base w0 w g b m := ⟨h.brd, h.below, h.small.mono hm, h.kept⟩
theorem circuit_board_gate.calls (s0 s1 s2 s3 s4 : Int) (As : Option Addr) (ns cs : Nat) (gt : S105) {base n : Nat} {w0 w : World} {g : Nat} {b : Bd} (H : BrdS base w0 w g b n) (hn : n < 80000) (h1 : 1 ≤ gt.f0) (h8 : gt.f0 ≤ 8) :
  Calls Try.prog 88 #[.pointer (some ⟨g, 0, none⟩), .agg #[.int .i64 s0, .int .i64 s1, .int .i64 s2, .int .i64 s3, .int .i64 s4, .slice As ns cs], .agg #[.int .i64 gt.f0, .int .i64 gt.f1, .int .i64 gt.f2, .int .i64 gt.f3, .int .i64 gt.f4]] w
   fun e w' => e = .returned (.tuple #[]) ∧ BrdS base w0 w' g (gateF s0 b gt) (n + 60) := by
 obtain ⟨f0, d, a, c, s⟩ := gt
 simp only at h1 h8 ⊢
 have hf : f0 = 1 ∨ f0 = 2 ∨ f0 = 3 ∨ f0 = 4 ∨ f0 = 5 ∨ f0 = 6 ∨ f0 = 7 ∨ f0 = 8 := by omega
 rcases hf with rfl | rfl | rfl | rfl | rfl | rfl | rfl | rfl
 ·exact (gate1.calls s0 s1 s2 s3 s4 As ns cs d a c s H (by omega)).mono fun e w' h => ⟨h.1, h.2.more (by omega)⟩
 ·exact (gate2.calls s0 s1 s2 s3 s4 As ns cs d a c s H (by omega)).mono fun e w' h => ⟨h.1, h.2.more (by omega)⟩
 ·exact (gate3.calls s0 s1 s2 s3 s4 As ns cs d a c s H (by omega)).mono fun e w' h => ⟨h.1, h.2.more (by omega)⟩
 ·exact (gate4.calls s0 s1 s2 s3 s4 As ns cs d a c s H (by omega)).mono fun e w' h => ⟨h.1, h.2.more (by omega)⟩
 ·exact (gate5.calls s0 s1 s2 s3 s4 As ns cs d a c s H (by omega)).mono fun e w' h => ⟨h.1, h.2.more (by omega)⟩
 ·exact (gate6.calls s0 s1 s2 s3 s4 As ns cs d a c s H (by omega)).mono fun e w' h => ⟨h.1, h.2.more (by omega)⟩
 ·by_cases h : s0 = 0
  ·exact (gate70.calls s0 s1 s2 s3 s4 As ns cs d a c s H (by omega) (by simpa using h)).mono fun e w' h => ⟨h.1, h.2.more (by omega)⟩
  ·exact (gate71.calls s0 s1 s2 s3 s4 As ns cs d a c s H (by omega) (by simpa using h)).mono fun e w' h => ⟨h.1, h.2.more (by omega)⟩
 ·exact (gate8.calls s0 s1 s2 s3 s4 As ns cs d a c s H (by omega)).mono fun e w' h => ⟨h.1, h.2.more (by omega)⟩
end Go.Proofs.Ythiiodgpdoljoaa.PLc
namespace Go.Proofs.Ythiiodgpdoljoaa.Pure
open Go.RowKit Go.Proofs.Ythiiodgpdoljoaa.PLc Go.Proofs.YthiiodgpdoljoaaW.PrintWords Go.Proofs.YthiiodgpdoljoaaW.PrintLast
set_option linter.unusedVariables false
set_option linter.unusedSimpArgs false
def own (w : Int) (g : S105) : List S76 :=
  if g.f0 = 8 then [cl g.f2, cl g.f3] else if 4 ≤ g.f0 ∧ g.f0 ≤ 6 then [cl g.f1, clk g.f2 (g.f0 - 3) g.f4] else if g.f0 = 3 then [cl g.f1, cl g.f2] else
  if g.f0 = 7 ∧ w ≠ 0 then [cl g.f1, cl g.f2, cl g.f3, cl g.f4, clk g.f4 1 1] else if g.f0 = 7 then [cl g.f1, cl g.f2, cl g.f3, cl g.f4] else [cl g.f1, cl g.f2, cl g.f3]
def at_ (w : List Int) (i : Nat) : Int := w.getD i 0
def conds (wide : Int) (g : S105) (w : List Int) : List (List S118) :=
  if g.f0 = 8 ∨ (4 ≤ g.f0 ∧ g.f0 ≤ 6) then [[opV (at_ w 0), opV (at_ w 1), opS 0 1]] else if g.f0 = 3 then [[opV (at_ w 0), opV (at_ w 1), opS 0 1, ⟨1, 0, 0, ⟨0, 1⟩⟩, opS 2 3]] else
  if g.f0 = 1 then [[opV (at_ w 0), opV (at_ w 1), opS 0 1, opV (at_ w 2), opS 2 3]] else if g.f0 = 2 then [[opV (at_ w 0), opV (at_ w 1), opV (at_ w 2), opP 1 2, opS 0 3]] else
  if wide = 0 then [[opV (at_ w 0), opV (at_ w 1), opS 0 1, opV (at_ w 2), opS 2 3], [opV (at_ w 3), opV (at_ w 1), opV (at_ w 2), opP 1 2, opS 0 3]] else
  [[opV (at_ w 0), opV (at_ w 1), opS 0 1, opV (at_ w 2), opS 2 3, opV (at_ w 4), opS 4 5], [opV (at_ w 3), opV (at_ w 1), opV (at_ w 2), opP 1 2, opS 0 3, opV (at_ w 4), opV (at_ w 1), opV (at_ w 2), opS 6 7, opP 5 8, opS 4 9]]
def idxs (ws : List S76) : List S76 → List Int
  | [] => []
  | x :: xs => (wIdx ws x : Int) :: idxs (wAdd ws x) xs
theorem gate_own (w : Int) (b : Bd) (g : S105) (hl : b.l = []) (h1 : 1 ≤ g.f0) (h8 : g.f0 ≤ 8) :
    gateF w b g = ⟨(own w g).foldl wAdd b.ws, b.cs ++ conds w g (idxs b.ws (own w g)), []⟩ := by
  obtain ⟨f0, f1, f2, f3, f4⟩ := g
  obtain ⟨ws, cs, l⟩ := b
  simp only at h1 h8 hl
  subst hl
  have hf : f0 = 1 ∨ f0 = 2 ∨ f0 = 3 ∨ f0 = 4 ∨ f0 = 5 ∨ f0 = 6 ∨ f0 = 7 ∨ f0 = 8 := by omega
  rcases hf with rfl | rfl | rfl | rfl | rfl | rfl | rfl | rfl
  case inr.inr.inr.inr.inr.inr.inl =>
    by_cases hw : w = 0
    · simp [gateF, gate7, add0, own, conds, idxs, at_, Bd.wire, Bd.put, Bd.done, opV, opS, opP, hw]
    · simp [gateF, gate7, add1, own, conds, idxs, at_, Bd.wire, Bd.put, Bd.done, opV, opS, opP, hw]
  all_goals simp [gateF, gate1, gate2, gate3, gateT, gate8, own, conds, idxs, at_, Bd.wire, Bd.put, Bd.done, opV, opS, opP]
/-! The numbers of wires stay. -/
theorem wIdx_ext {ws : List S76} {x : S76} (t : List S76) (h : wIdx ws x < ws.length) : wIdx (ws ++ t) x = wIdx ws x := by
  unfold wIdx at *
  rw [List.findIdx_append, if_pos h]
theorem eq76_refl (x : S76) : eq76 x x = true := by simp [eq76]
theorem wIdx_add (ws : List S76) (x : S76) : wIdx (wAdd ws x) x = wIdx ws x ∧ wIdx ws x < (wAdd ws x).length := by
  unfold wAdd
  by_cases h : wIdx ws x < ws.length
  · rw [if_pos h]; exact ⟨rfl, h⟩
  · rw [if_neg h]
    have he : wIdx ws x = ws.length := by
      have := List.findIdx_le_length (p := eq76 x) (xs := ws)
      unfold wIdx at *
      omega
    refine ⟨?_, by simp; omega⟩
    unfold wIdx at he ⊢
    rw [List.findIdx_append, if_neg (by omega)]
    simp [List.findIdx_cons, eq76_refl, he]
theorem wAdd_ext (ws : List S76) (x : S76) : ∃ t, wAdd ws x = ws ++ t := by
  unfold wAdd
  split
  · exact ⟨[], by simp⟩
  · exact ⟨[x], rfl⟩
theorem fold_ext (xs : List S76) : ∀ ws : List S76, ∃ t, xs.foldl wAdd ws = ws ++ t := by
  induction xs with
  | nil => exact fun ws => ⟨[], by simp⟩
  | cons x xs ih =>
    intro ws
    obtain ⟨t1, h1⟩ := wAdd_ext ws x
    obtain ⟨t2, h2⟩ := ih (wAdd ws x)
    exact ⟨t1 ++ t2, by rw [List.foldl_cons, h2, h1, List.append_assoc]⟩
theorem idxs_final (xs : List S76) : ∀ (ws : List S76) (t : List S76), idxs ws xs = xs.map (fun x => (wIdx (xs.foldl wAdd ws ++ t) x : Int)) := by
  induction xs with
  | nil => exact fun _ _ => rfl
  | cons x xs ih =>
    intro ws t
    rw [List.map_cons, List.foldl_cons]
    have h := wIdx_add ws x
    obtain ⟨t2, h2⟩ := fold_ext xs (wAdd ws x)
    simp only [idxs]
    rw [ih (wAdd ws x) t]
    congr 1
    rw [h2, List.append_assoc, wIdx_ext _ (by rw [h.1]; exact h.2), h.1]
def wiresOf (w : Int) (l : List S105) (ws : List S76) : List S76 := l.foldl (fun ws g => (own w g).foldl wAdd ws) ws
theorem wiresOf_ext (w : Int) (l : List S105) : ∀ ws : List S76, ∃ t, wiresOf w l ws = ws ++ t := by
  induction l with
  | nil => exact fun ws => ⟨[], by simp [wiresOf]⟩
  | cons g l ih =>
    intro ws
    obtain ⟨t1, h1⟩ := fold_ext (own w g) ws
    obtain ⟨t2, h2⟩ := ih ((own w g).foldl wAdd ws)
    exact ⟨t1 ++ t2, by unfold wiresOf at h2 ⊢; rw [List.foldl_cons, h2, h1, List.append_assoc]⟩
theorem gates_own (w : Int) (l : List S105) : ∀ (b : Bd), b.l = [] → (∀ g ∈ l, 1 ≤ g.f0 ∧ g.f0 ≤ 8) →
    l.foldl (gateF w) b = ⟨wiresOf w l b.ws, b.cs ++ l.flatMap (fun g => conds w g ((own w g).map (fun x => (wIdx (wiresOf w l b.ws) x : Int)))), []⟩ := by
  induction l with
  | nil => intro b hb _; obtain ⟨ws, cs, l⟩ := b; simp only at hb; subst hb; simp [wiresOf]
  | cons g l ih =>
    intro b hb hk
    have hg := hk g (by simp)
    rw [List.foldl_cons, gate_own w b g hb hg.1 hg.2, ih _ rfl (fun g' hg' => hk g' (by simp [hg']))]
    have hw : wiresOf w (g :: l) b.ws = wiresOf w l ((own w g).foldl wAdd b.ws) := rfl
    obtain ⟨t, ht⟩ := wiresOf_ext w l ((own w g).foldl wAdd b.ws)
    rw [hw, List.flatMap_cons, List.append_assoc]
    congr 2
    rw [idxs_final (own w g) b.ws t, ← ht]
theorem gateAll_own (w : Int) (l : List S105) (hk : ∀ g ∈ l, 1 ≤ g.f0 ∧ g.f0 ≤ 8) :
    gateAll w l = ⟨wiresOf w l [], l.flatMap (fun g => conds w g ((own w g).map (fun x => (wIdx (wiresOf w l []) x : Int)))), []⟩ := by
  unfold gateAll
  rw [gates_own w l ⟨[], [], []⟩ rfl hk]
  simp
end Go.Proofs.Ythiiodgpdoljoaa.Pure
namespace Go.Proofs.Ythiiodgpdoljoaa.Pure
open Go.RowKit Go.Proofs.Ythiiodgpdoljoaa.PLc Go.Proofs.YthiiodgpdoljoaaW.PrintWords Go.Proofs.YthiiodgpdoljoaaW.PrintLast
set_option linter.unusedVariables false
set_option linter.unusedSimpArgs false
/-! The wires of gates that may be: each column is there, is turned as it may be, and none stands twice. -/
def okW (wide n : Int) (x : S76) : Prop := 0 ≤ x.f0 ∧ x.f0 < n ∧ fits x.f1 wide x.f2 = true
theorem fits0 {wide : Int} (hw : 0 ≤ wide) (hw5 : wide ≤ 5) : fits 0 wide 0 = true := by
  have := p2_bound hw (by omega)
  simp [fits]; omega
theorem fits1 {wide : Int} (hw : 0 < wide) (hw5 : wide ≤ 5) : fits 1 wide 1 = true := by
  have : 1 < p2 wide := by rcases p2_cases (n := wide) (by omega) (by omega) with h | h | h | h | h | h | h <;> omega
  simp [fits]; omega
theorem own_ok {wide cols n : Int} {g : S105} (hw : 0 ≤ wide) (hw5 : wide ≤ 5) (hn : 0 ≤ n) (h : gErr wide cols g n = 0) : ∀ x ∈ own wide g, okW wide (n + makes g.f0) x := by
  have f0 := fits0 hw hw5
  have f1 : wide ≠ 0 → fits 1 wide 1 = true := fun h => fits1 (by omega) hw5
  obtain ⟨g0, g1, g2, g3, g4⟩ := g
  simp only [gErr] at h
  have hk : g0 = 1 ∨ g0 = 2 ∨ g0 = 3 ∨ g0 = 4 ∨ g0 = 5 ∨ g0 = 6 ∨ g0 = 7 ∨ g0 = 8 := by
    by_cases h1 : g0 < 1 ∨ 8 < g0
    · rw [if_pos h1] at h; cases h
    · omega
  rcases hk with rfl | rfl | rfl | rfl | rfl | rfl | rfl | rfl
  case inr.inr.inr.inr.inr.inr.inl =>
    by_cases hw0 : wide = 0
    · subst hw0
      simp at h
      intro x hx
      simp [own] at hx
      simp [okW, makes]
      rcases hx with rfl | rfl | rfl | rfl <;> simp <;> grind
    · have f1' := f1 hw0
      simp at h
      intro x hx
      simp [own, hw0] at hx
      simp [okW, makes]
      rcases hx with rfl | rfl | rfl | rfl | rfl <;> simp <;> grind
  all_goals
    simp at h
    intro x hx
    simp [own] at hx
    simp [okW, makes]
  all_goals first
    | (rcases hx with rfl | rfl | rfl <;> simp <;> grind)
    | (rcases hx with rfl | rfl <;> simp <;> grind)
theorem okW_le {wide n m : Int} {x : S76} (h : okW wide n x) (hm : n ≤ m) : okW wide m x := ⟨h.1, by have := h.2.1; omega, h.2.2⟩
theorem wAdd_ok {wide n : Int} {ws : List S76} {x : S76} (hz : ∀ y ∈ ws, okW wide n y) (hx : okW wide n x) : ∀ y ∈ wAdd ws x, okW wide n y := by
  unfold wAdd
  split
  · exact hz
  · intro y hy; rw [List.mem_append] at hy; rcases hy with hy | hy
    · exact hz y hy
    · rw [List.mem_singleton.mp hy]; exact hx
theorem fold_ok {wide n : Int} (xs : List S76) : ∀ ws : List S76, (∀ y ∈ ws, okW wide n y) → (∀ y ∈ xs, okW wide n y) → ∀ y ∈ xs.foldl wAdd ws, okW wide n y := by
  induction xs with
  | nil => exact fun ws h _ => h
  | cons x xs ih =>
    intro ws h hx
    exact ih (wAdd ws x) (wAdd_ok h (hx x (by simp))) (fun y hy => hx y (by simp [hy]))
theorem wires_ok {wide cols : Int} (hw : 0 ≤ wide) (hw5 : wide ≤ 5) : ∀ (l : List S105) (n : Int) (ws : List S76), 0 ≤ n → (∀ y ∈ ws, okW wide n y) → (walk wide cols l n).2 = 0 → ∀ y ∈ wiresOf wide l ws, okW wide (walk wide cols l n).1 y
  | [], n, ws, hn, h, he => h
  | g :: gs, n, ws, hn, h, he => by
    unfold walk at he ⊢
    by_cases hg : gErr wide cols g n = 0
    · simp only [hg, if_true] at he ⊢
      have hm := makes_nonneg g.f0
      exact wires_ok hw hw5 gs (n + makes g.f0) ((own wide g).foldl wAdd ws) (by omega) (fold_ok _ _ (fun y hy => okW_le (h y hy) (by omega)) (own_ok hw hw5 hn hg)) he
    · simp only [hg, if_false] at he
def dist (ws : List S76) : Prop := ws.Pairwise (fun a b => eq76 a b = false)
theorem eq76_symm {x y : S76} (h : eq76 x y = false) : eq76 y x = false := by
  have e : eq76 y x = eq76 x y := by simp only [eq76, Bool.beq_comm (a := y.f0), Bool.beq_comm (a := y.f1), Bool.beq_comm (a := y.f2), Bool.beq_comm (a := y.f3.f0), Bool.beq_comm (a := y.f3.f1)]
  rw [e]; exact h
theorem wAdd_dist {ws : List S76} {x : S76} (h : dist ws) : dist (wAdd ws x) := by
  unfold wAdd
  split
  · exact h
  · rename_i hn
    have he : wIdx ws x = ws.length := by
      have := List.findIdx_le_length (p := eq76 x) (xs := ws)
      unfold wIdx at *
      omega
    have ha := List.findIdx_eq_length.mp he
    unfold dist at h ⊢
    rw [List.pairwise_append]
    refine ⟨h, List.pairwise_singleton _ _, fun a ha' b hb => ?_⟩
    rw [List.mem_singleton.mp hb]
    exact eq76_symm (by simpa using ha a ha')
theorem fold_dist (xs : List S76) : ∀ ws : List S76, dist ws → dist (xs.foldl wAdd ws) := by
  induction xs with
  | nil => exact fun _ h => h
  | cons x xs ih => exact fun ws h => ih _ (wAdd_dist h)
theorem wires_dist (w : Int) (l : List S105) : ∀ ws : List S76, dist ws → dist (wiresOf w l ws) := by
  induction l with
  | nil => exact fun _ h => h
  | cons g l ih => exact fun ws h => ih _ (fold_dist _ _ h)
end Go.Proofs.Ythiiodgpdoljoaa.Pure
namespace Go.Proofs.Ythiiodgpdoljoaa.Pure
open Go.RowKit Go.Proofs.Ythiiodgpdoljoaa.PLc Go.Proofs.YthiiodgpdoljoaaW.PrintWords Go.Proofs.YthiiodgpdoljoaaW.PrintLast
set_option linter.unusedVariables false
set_option linter.unusedSimpArgs false
def zv (x : S76) : Prop := x.f3.f0 = 0 ∧ x.f3.f1 = 0
theorem own_zv (w : Int) (g : S105) : ∀ x ∈ own w g, zv x := by
  intro x hx
  unfold own at hx
  split at hx
  · simp at hx; rcases hx with rfl | rfl <;> exact ⟨rfl, rfl⟩
  split at hx
  · simp at hx; rcases hx with rfl | rfl <;> exact ⟨rfl, rfl⟩
  split at hx
  · simp at hx; rcases hx with rfl | rfl <;> exact ⟨rfl, rfl⟩
  split at hx
  · simp at hx; rcases hx with rfl | rfl | rfl | rfl | rfl <;> exact ⟨rfl, rfl⟩
  split at hx
  · simp at hx; rcases hx with rfl | rfl | rfl | rfl <;> exact ⟨rfl, rfl⟩
  · simp at hx; rcases hx with rfl | rfl | rfl <;> exact ⟨rfl, rfl⟩
theorem own_len (w : Int) (g : S105) : (own w g).length ≤ 5 := by
  unfold own
  split; · simp
  split; · simp
  split; · simp
  split; · simp
  split <;> simp
theorem wAdd_zv {ws : List S76} {x : S76} (hz : ∀ y ∈ ws, zv y) (hx : zv x) : ∀ y ∈ wAdd ws x, zv y := by
  unfold wAdd
  split
  · exact hz
  · intro y hy; rw [List.mem_append] at hy; rcases hy with hy | hy
    · exact hz y hy
    · rw [List.mem_singleton.mp hy]; exact hx
theorem wAdd_len (ws : List S76) (x : S76) : (wAdd ws x).length ≤ ws.length + 1 := by unfold wAdd; split <;> simp
theorem fold_zv (xs : List S76) : ∀ ws : List S76, (∀ y ∈ ws, zv y) → (∀ y ∈ xs, zv y) → (∀ y ∈ xs.foldl wAdd ws, zv y) ∧ (xs.foldl wAdd ws).length ≤ ws.length + xs.length := by
  induction xs with
  | nil => exact fun ws h _ => ⟨h, by simp⟩
  | cons x xs ih =>
    intro ws h hx
    have := ih (wAdd ws x) (wAdd_zv h (hx x (by simp))) (fun y hy => hx y (by simp [hy]))
    have h2 := wAdd_len ws x
    exact ⟨this.1, by rw [List.foldl_cons, List.length_cons]; omega⟩
theorem len2 {α : Type} {l : List α} (h : l.length = 2) : ∃ a b, l = [a, b] := by
  match l, h with | [a, b], _ => exact ⟨a, b, rfl⟩
theorem len3 {α : Type} {l : List α} (h : l.length = 3) : ∃ a b c, l = [a, b, c] := by
  match l, h with | [a, b, c], _ => exact ⟨a, b, c, rfl⟩
theorem len4 {α : Type} {l : List α} (h : l.length = 4) : ∃ a b c d, l = [a, b, c, d] := by
  match l, h with | [a, b, c, d], _ => exact ⟨a, b, c, d, rfl⟩
theorem len5 {α : Type} {l : List α} (h : l.length = 5) : ∃ a b c d e, l = [a, b, c, d, e] := by
  match l, h with | [a, b, c, d, e], _ => exact ⟨a, b, c, d, e, rfl⟩
theorem fold_mem (xs : List S76) : ∀ (ws : List S76) (x : S76), x ∈ xs → wIdx (xs.foldl wAdd ws) x < (xs.foldl wAdd ws).length := by
  induction xs with
  | nil => intro ws x h; cases h
  | cons y xs ih =>
    intro ws x h
    rw [List.foldl_cons]
    rcases List.mem_cons.mp h with rfl | h
    · have h1 := wIdx_add ws x
      obtain ⟨t, ht⟩ := fold_ext xs (wAdd ws x)
      rw [ht, wIdx_ext _ (by rw [h1.1]; exact h1.2), List.length_append, h1.1]
      omega
    · exact ih _ x h
theorem wires_mem (w : Int) (l : List S105) : ∀ (ws : List S76) (g : S105) (x : S76), g ∈ l → x ∈ own w g → wIdx (wiresOf w l ws) x < (wiresOf w l ws).length := by
  induction l with
  | nil => intro ws g x h; cases h
  | cons y l ih =>
    intro ws g x h hx
    have e : wiresOf w (y :: l) ws = wiresOf w l ((own w y).foldl wAdd ws) := rfl
    rw [e]
    rcases List.mem_cons.mp h with rfl | h
    · have h1 := fold_mem (own w g) ws x hx
      obtain ⟨t, ht⟩ := wiresOf_ext w l ((own w g).foldl wAdd ws)
      rw [ht, wIdx_ext _ h1, List.length_append]
      omega
    · exact ih _ g x h hx
theorem wires_zv (w : Int) (l : List S105) : ∀ ws : List S76, (∀ y ∈ ws, zv y) → (∀ y ∈ wiresOf w l ws, zv y) ∧ (wiresOf w l ws).length ≤ ws.length + 5 * l.length := by
  induction l with
  | nil => exact fun ws h => ⟨h, by simp [wiresOf]⟩
  | cons g l ih =>
    intro ws h
    have h1 := fold_zv (own w g) ws h (own_zv w g)
    have h2 := ih ((own w g).foldl wAdd ws) h1.1
    have h3 := own_len w g
    have e : wiresOf w (g :: l) ws = wiresOf w l ((own w g).foldl wAdd ws) := rfl
    rw [e, List.length_cons]
    exact ⟨h2.1, by omega⟩
theorem conds_len (w : Int) (g : S105) (ws : List Int) : (conds w g ws).length ≤ 2 := by
  unfold conds
  split; · simp
  split; · simp
  split; · simp
  split; · simp
  split <;> simp
end Go.Proofs.Ythiiodgpdoljoaa.Pure
namespace Go.Proofs.Ythiiodgpdoljoaa.Pure
open Go.RowKit Go.Proofs.Ythiiodgpdoljoaa.PLc Go.Proofs.YthiiodgpdoljoaaW.PrintWords Go.Proofs.YthiiodgpdoljoaaW.PrintLast
set_option linter.unusedVariables false
set_option linter.unusedSimpArgs false
/-! What is wrong with an expression: the degrees of its steps. -/
def deg (vars : Int) (o : S118) (out : List Int) : Option Int :=
  if o.f3.f0 = 0 then
    if o.f0 = 1 ∧ o.f1 = 0 ∧ o.f2 = 0 ∧ o.f3.f1 = 1 then some 0
    else if o.f3.f1 = 0 then
      if o.f0 = 2 ∧ o.f2 = 0 ∧ 0 ≤ o.f1 ∧ o.f1 < vars then some 1
      else if o.f0 = 3 ∧ 0 ≤ o.f1 ∧ o.f1 < out.length ∧ 0 ≤ o.f2 ∧ o.f2 < out.length then some (mx (rd out o.f1) (rd out o.f2))
      else if o.f0 = 4 ∧ 0 ≤ o.f1 ∧ o.f1 < out.length ∧ 0 ≤ o.f2 ∧ o.f2 < out.length then some (wrap64 (rd out o.f1 + rd out o.f2))
      else none
    else none
  else none
def run (vars : Int) : List S118 → List Int → Option (List Int)
  | [], out => some out
  | o :: os, out => (deg vars o out).bind fun d => if d ≤ 8 then run vars os (out ++ [d]) else none
def condOk (n : Int) (c : List S118) : Prop := c.length ≤ 20 ∧ 0 < c.length ∧ ∃ r : List Int, run n c [] = some r ∧ r.length = c.length ∧ rd r (wrap64 ((r.length : Int) - 1)) ≤ 2
theorem conds_ok (wide n : Int) (g : S105) (ws : List Int) (h1 : 1 ≤ g.f0) (h8 : g.f0 ≤ 8) (hl : ws.length = (own wide g).length) (hw : ∀ x ∈ ws, 0 ≤ x ∧ x < n) :
    ∀ c ∈ conds wide g ws, condOk n c := by
  obtain ⟨f0, f1, f2, f3, f4⟩ := g
  simp only at h1 h8
  have hf : f0 = 1 ∨ f0 = 2 ∨ f0 = 3 ∨ f0 = 4 ∨ f0 = 5 ∨ f0 = 6 ∨ f0 = 7 ∨ f0 = 8 := by omega
  rcases hf with rfl | rfl | rfl | rfl | rfl | rfl | rfl | rfl
  case inr.inr.inr.inr.inr.inr.inl =>
    by_cases hw0 : wide = 0
    · subst hw0
      obtain ⟨a, b, c, d, rfl⟩ := len4 (l := ws) (by simpa [own] using hl)
      simp only [List.mem_cons, List.not_mem_nil, or_false, forall_eq_or_imp, forall_eq] at hw
      obtain ⟨⟨a1, a2⟩, ⟨b1, b2⟩, ⟨c1, c2⟩, ⟨d1, d2⟩⟩ := hw
      simp [conds, at_, condOk, run, deg, opV, opS, opP, a1, a2, b1, b2, c1, c2, d1, d2, rd, mx, wrap64]
    · obtain ⟨a, b, c, d, e, rfl⟩ := len5 (l := ws) (by simpa [own, hw0] using hl)
      simp only [List.mem_cons, List.not_mem_nil, or_false, forall_eq_or_imp, forall_eq] at hw
      obtain ⟨⟨a1, a2⟩, ⟨b1, b2⟩, ⟨c1, c2⟩, ⟨d1, d2⟩, ⟨e1, e2⟩⟩ := hw
      simp [conds, at_, condOk, run, deg, opV, opS, opP, a1, a2, b1, b2, c1, c2, d1, d2, e1, e2, rd, mx, wrap64, hw0]
  case inl =>
    obtain ⟨a, b, c, rfl⟩ := len3 (l := ws) (by simpa [own] using hl)
    simp only [List.mem_cons, List.not_mem_nil, or_false, forall_eq_or_imp, forall_eq] at hw
    obtain ⟨⟨a1, a2⟩, ⟨b1, b2⟩, ⟨c1, c2⟩⟩ := hw
    simp [conds, at_, condOk, run, deg, opV, opS, opP, a1, a2, b1, b2, c1, c2, rd, mx, wrap64]
  case inr.inl =>
    obtain ⟨a, b, c, rfl⟩ := len3 (l := ws) (by simpa [own] using hl)
    simp only [List.mem_cons, List.not_mem_nil, or_false, forall_eq_or_imp, forall_eq] at hw
    obtain ⟨⟨a1, a2⟩, ⟨b1, b2⟩, ⟨c1, c2⟩⟩ := hw
    simp [conds, at_, condOk, run, deg, opV, opS, opP, a1, a2, b1, b2, c1, c2, rd, mx, wrap64]
  all_goals
    obtain ⟨a, b, rfl⟩ := len2 (l := ws) (by simpa [own] using hl)
    simp only [List.mem_cons, List.not_mem_nil, or_false, forall_eq_or_imp, forall_eq] at hw
    obtain ⟨⟨a1, a2⟩, ⟨b1, b2⟩⟩ := hw
    simp [conds, at_, condOk, run, deg, opV, opS, opP, a1, a2, b1, b2, rd, mx, wrap64]
end Go.Proofs.Ythiiodgpdoljoaa.Pure
namespace Go.Proofs.Ythiiodgpdoljoaa.PLc
open Go.RowKit Go.Proofs.YthiiodgpdoljoaaW.PrintWords Go.Proofs.YthiiodgpdoljoaaW.PrintLast Go.Proofs.YthiiodgpdoljoaaW.PrintMore
attribute [local go_sem] max2_int min2_int max_two min_two max_three min_three max_four min_four   -- for this text's walks alone
set_option linter.unusedVariables false
set_option linter.unusedSimpArgs false
/-! ### octet_Wide: function 99 -/
def octet_Wide.j0 : Nat → Int → Bool → Option (Int)
 | 0, _, _ => none
 | k + 1, x0, x3 => if x3 = true then (some 0) else (if x0 ≤ 3 then (some 1) else (if 0 ≤ (wrap64 (x0 - 3)) then (some (shl .i64 1 (wrap64 (x0 - 3)))) else (none)))
def octet_Wide.f (k : Nat) (a0 : Int) : Option (Int) := if a0 < 0 then (octet_Wide.j0 k a0 true) else (octet_Wide.j0 k a0 (decide (a0 > 7)))
theorem octet_Wide.mono_l : ∀ k, (∀ y0 y1, LeO (octet_Wide.j0 k y0 y1) (octet_Wide.j0 (k + 1) y0 y1))
 | 0 => fun _ _ r h => by simp [octet_Wide.j0] at h
 | k + 1 => by
  have ih0 := octet_Wide.mono_l k
  ·intro y0 y1
   unfold octet_Wide.j0
   repeat' first
   | (with_reducible exact ih0 _ _)
   | (with_reducible exact LeO.refl _)
   | (with_reducible exact LeO.none _)
   | (with_reducible refine LeO.ite ?_ ?_)
   | (with_reducible refine LeO.bind ?_ (fun _ => ?_))
   | exact ih0 _ _
   | exact LeO.none _
   | refine LeO.ite ?_ ?_
   | refine LeO.bind ?_ (fun _ => ?_)
theorem octet_Wide.mono : ∀ a0 k, LeO (octet_Wide.f k a0) (octet_Wide.f (k + 1) a0) := by
 intro a0 k
 have ih0 := octet_Wide.mono_l k
 unfold octet_Wide.f
 repeat' first
   | (with_reducible exact ih0 _ _)
   | (with_reducible exact LeO.refl _)
   | (with_reducible exact LeO.none _)
   | (with_reducible refine LeO.ite ?_ ?_)
   | (with_reducible refine LeO.bind ?_ (fun _ => ?_))
   | exact ih0 _ _
   | exact LeO.none _
   | refine LeO.ite ?_ ?_
   | refine LeO.bind ?_ (fun _ => ?_)
set_option maxHeartbeats 8000000 in
set_option maxRecDepth 100000 in
theorem octet_Wide.calls (k : Nat) (a0 : Int) (r : Int) (w : World) (h : octet_Wide.f k a0 = some r) :
  Calls Try.prog 99 #[.int .i64 a0] w fun e w' => e = .returned (.int .i64 r) ∧ Drawn0 w w' := by
 have H : (if a0 < 0 then (octet_Wide.j0 k a0 true) else (octet_Wide.j0 k a0 (decide (a0 > 7)))) = some r := h
 clear h; have HC2 := Aside0.mk H; clear H
 go_enter Try.func99, Try.ntmps99
 go_upto_region 1 with (fail)
 go_cut [3] (fun v3 wc => ∃ (kq : Nat) (x3_1 : Bool), v3 = .bool x3_1 ∧ Aside0 (octet_Wide.j0 kq a0 x3_1 = some r) ∧ Aside0 (kq ≤ k) ∧ Drawn0 w wc)
 case first =>
  have H := HC2.out; clear HC2
  by_cases c3 : a0 < 0
  ·rw [if_pos c3] at H
   have c3b0 : decide (a0 < 0) = true := decide_eq_true c3; clear c3
   (first | rw [c3b0] | (simp only [i64_w, i32_w]; rw [c3b0]) | skip)
   have H' := Aside0.mk H; clear H
   go_wp2
   go_meet
   case rel => exact ⟨_, (true), eqA, H', ⟨omA⟩, dwA⟩
  ·rw [if_neg c3] at H
   have c3b0 : decide (a0 < 0) = false := decide_eq_false c3; clear c3
   (first | rw [c3b0] | (simp only [i64_w, i32_w]; rw [c3b0]) | skip)
   have H' := Aside0.mk H; clear H
   go_wp2
   go_meet
   case rel => exact ⟨_, (decide (a0 > 7)), eqA, H', ⟨omA⟩, dwA⟩
 case rest =>
  clear HC2; (try clear p2); (try clear c3); (try clear c3b0)
  obtain ⟨kq, x3_1, rfl, HA, HJ1, ⟨mc1, rfl⟩⟩ := hcut
  cases kq with
  | zero => exact absurd HA.out (by simp [octet_Wide.j0])
  | succ kj1 =>
   have H := HA.out; clear HA
   simp only [octet_Wide.j0] at H
   by_cases c4 : x3_1 = true
   ·subst c4
    have H1 : (some 0) = some r := by rw [if_pos rfl] at H; exact H
    clear H; have H := H1; clear H1; obtain rfl := Option.some.inj H
    go_wp2
    go_ret
    exact ⟨eqA, dwA⟩
   ·replace c4 := Bool.eq_false_iff.mpr c4; subst c4
    have H1 : (if a0 ≤ 3 then (some 1) else (if 0 ≤ (wrap64 (a0 - 3)) then (some (shl .i64 1 (wrap64 (a0 - 3)))) else (none))) = some r := by rw [if_neg (show ¬ (false = true) by decide)] at H; exact H
    clear H; have H := H1; clear H1
    by_cases c5 : a0 ≤ 3
    ·rw [if_pos c5] at H
     have c5b0 : decide (a0 ≤ 3) = true := decide_eq_true c5; clear c5; obtain rfl := Option.some.inj H
     go_wp2
     go_ret
     exact ⟨eqA, dwA⟩
    ·rw [if_neg c5] at H
     have c5b0 : decide (a0 ≤ 3) = false := decide_eq_false c5; clear c5
     obtain ⟨ji6, hji6⟩ : ∃ j_ : Int, (wrap64 (a0 - 3)) = j_ := ⟨_, rfl⟩
     replace H : (if 0 ≤ (ji6) then (some (shl .i64 1 (ji6))) else (none)) = some r := by first | (rw [hji6] at H; exact H) | (simp only [hji6] at H ⊢; exact H)
     have hji6w : (IntKind.i64.wrap (a0 - 3)) = ji6 := (i64_w _).trans hji6
     by_cases c7 : 0 ≤ (ji6)
     ·rw [if_pos c7] at H
      have c7b0 := eq_true c7; have c7b1 : decide (0 ≤ (ji6)) = true := decide_eq_true c7; clear c7
      obtain ⟨ji8, hji8⟩ : ∃ j_ : Int, (shl .i64 1 (ji6)) = j_ := ⟨_, rfl⟩
      replace H : (some ji8) = some r := by first | (rw [hji8] at H; exact H) | (simp only [hji8] at H ⊢; exact H)
      have hji8_ : (IntKind.i64.wrap (1 * 2 ^ min (ji6).toNat 64)) = ji8 := hji8; have hji8z : (ji6) ≤ 64 → (IntKind.i64.wrap (1 * 2 ^ (ji6).toNat)) = ji8 := shl_small hji8
      have hji8u : (IntKind.i64.wrap (2 ^ min (ji6).toNat 64)) = ji8 := by have h_ := hji8_; rw [Int.one_mul] at h_; exact h_
      have hji8v : (ji6) ≤ 64 → (IntKind.i64.wrap (2 ^ (ji6).toNat)) = ji8 := fun hle_ => by have h_ := hji8z hle_; rw [Int.one_mul] at h_; exact h_
      have hji8y : (wrap64 (1 * 2 ^ min (ji6).toNat 64)) = ji8 := (i64_w _).symm.trans hji8_
      have hji8x : (ji6) ≤ 64 → (wrap64 (1 * 2 ^ (ji6).toNat)) = ji8 := fun h_ => (i64_w _).symm.trans (hji8z h_)
      obtain rfl := Option.some.inj H
      go_wp2
      go_ret
      exact ⟨by first | rfl | (simp; done) | (simp only [← hji6, ← hji8] <;> (first | rfl | simp)) | (simp [*]; done), dwA⟩
     ·rw [if_neg c7] at H
      exact absurd H (by simp)
/-! ### octet_Of: function 110 -/
def octetOf (a0 hi lo : Int) : Bool := if a0 < 0 then false else if a0 > 7 then false else if a0 = 7 then true else if a0 = 6 then hi == 0 else hi == 0 && lo / 2 ^ (2 ^ a0.toNat : Nat) == 0
def octet_Of.f (a0 : Int) (a1_0 : Int) (a1_1 : Int) : Option Bool := some (octetOf a0 a1_0 a1_1)
set_option maxHeartbeats 8000000 in
set_option maxRecDepth 100000 in
theorem octet_Of.calls (a0 : Int) (a1_0 : Int) (a1_1 : Int) (r : Bool) (w : World) (h : octet_Of.f a0 a1_0 a1_1 = some r) :
 Calls Try.prog 110 #[.int .i64 a0, .agg #[.int .u64 a1_0, .int .u64 a1_1]] w fun e w' => e = .returned (.bool r) ∧ Below w.heap.size w w' := by
 have hu74 := Try.underlying74; have HB := Aside0.mk (Below.refl w.heap.size w)
 obtain rfl : octetOf a0 a1_0 a1_1 = r := Option.some.inj h
 clear h
 by_cases c : a0 < 0
 · have hr : octetOf a0 a1_0 a1_1 = false := by unfold octetOf; rw [if_pos c]
   rw [hr]
   have c1 : decide (a0 < 0) = true := decide_eq_true c
   go_enter Try.func110, Try.ntmps110
   go_wp2_with (first | ((with_reducible refine gate_dst (N := 3) rfl ?_); refine box_event ?hg (N := 3) ?hd (cs := #[.int .u64 a1_0, .int .u64 a1_1]) (t := 74) ?hr ?_; (case hd => rfl); (case hg => rfl); (case hr => first | (go_simp; done) | (go_simp; rfl)); intro gb hg w4 hbox hb; replace HB := Aside0.mk (below_step (blA HB.out) hb); have BK := Aside0.mk hbox; have hcz := fun i => blk_cell BK.out i; have hfz := fun i => blk_frozen BK.out i; clear hb hbox hg))
   repeat (go_quiet (fail); try go_wp2)
   go_ret
   exact ⟨rfl, blA HB.out⟩
 by_cases c2 : 7 < a0
 · have hr : octetOf a0 a1_0 a1_1 = false := by unfold octetOf; rw [if_neg c, if_pos c2]
   rw [hr]
   have c1 : decide (a0 < 0) = false := decide_eq_false c; have c3 : decide (7 < a0) = true := decide_eq_true c2
   go_enter Try.func110, Try.ntmps110
   go_wp2_with (first | ((with_reducible refine gate_dst (N := 3) rfl ?_); refine box_event ?hg (N := 3) ?hd (cs := #[.int .u64 a1_0, .int .u64 a1_1]) (t := 74) ?hr ?_; (case hd => rfl); (case hg => rfl); (case hr => first | (go_simp; done) | (go_simp; rfl)); intro gb hg w4 hbox hb; replace HB := Aside0.mk (below_step (blA HB.out) hb); have BK := Aside0.mk hbox; have hcz := fun i => blk_cell BK.out i; have hfz := fun i => blk_frozen BK.out i; clear hb hbox hg))
   repeat (go_quiet (fail); try go_wp2)
   go_ret
   exact ⟨rfl, blA HB.out⟩
 have hc : a0 = 0 ∨ a0 = 1 ∨ a0 = 2 ∨ a0 = 3 ∨ a0 = 4 ∨ a0 = 5 ∨ a0 = 6 ∨ a0 = 7 := by omega
 clear c c2
 by_cases hh : a1_0 = 0
 · subst hh
   rcases hc with rfl | rfl | rfl | rfl | rfl | rfl | rfl | rfl
   all_goals
     go_enter Try.func110, Try.ntmps110
     go_wp2_with (first | ((with_reducible refine gate_dst (N := 3) rfl ?_); refine box_event ?hg (N := 3) ?hd (cs := #[.int .u64 0, .int .u64 a1_1]) (t := 74) ?hr ?_; (case hd => rfl); (case hg => rfl); (case hr => first | (go_simp; done) | (go_simp; rfl)); intro gb hg w4 hbox hb; replace HB := Aside0.mk (below_step (blA HB.out) hb); have BK := Aside0.mk hbox; have hcz := fun i => blk_cell BK.out i; have hfz := fun i => blk_frozen BK.out i; clear hb hbox hg))
     repeat (go_quiet (fail); try go_wp2)
     go_ret
     exact ⟨by first | rfl | (simp [octetOf]; done), blA HB.out⟩
 · have h0 : (a1_0 == 0) = false := beq_eq_false_iff_ne.mpr hh
   rcases hc with rfl | rfl | rfl | rfl | rfl | rfl | rfl | rfl
   all_goals
     go_enter Try.func110, Try.ntmps110
     go_wp2_with (first | ((with_reducible refine gate_dst (N := 3) rfl ?_); refine box_event ?hg (N := 3) ?hd (cs := #[.int .u64 a1_0, .int .u64 a1_1]) (t := 74) ?hr ?_; (case hd => rfl); (case hg => rfl); (case hr => first | (go_simp; done) | (go_simp; rfl)); intro gb hg w4 hbox hb; replace HB := Aside0.mk (below_step (blA HB.out) hb); have BK := Aside0.mk hbox; have hcz := fun i => blk_cell BK.out i; have hfz := fun i => blk_frozen BK.out i; clear hb hbox hg))
     repeat (go_quiet (fail); try go_wp2)
     go_ret
     exact ⟨by first | rfl | (simp [octetOf, h0, hh]; done), blA HB.out⟩
/-! ### expr_ahead: function 123 -/
def expr_ahead.f (a0_0 : Int) (a0_1 : Int) (a0_2 : Int) (a0_3 : Int) (a0_4 : Int) (a1 : Int) : Option (Bool) := if a0_1 ≥ 0 then (if a0_1 < a1 then (if a0_2 ≥ 0 then (some (decide (a0_2 < a1))) else (some false)) else (some false)) else (some false)
set_option maxHeartbeats 8000000 in
set_option maxRecDepth 100000 in
theorem expr_ahead.calls (a0_0 : Int) (a0_1 : Int) (a0_2 : Int) (a0_3 : Int) (a0_4 : Int) (a1 : Int) (r : Bool) (w : World) (h : expr_ahead.f a0_0 a0_1 a0_2 a0_3 a0_4 a1 = some r) :
  Calls Try.prog 123 #[.agg #[.int .i64 a0_0, .int .i64 a0_1, .int .i64 a0_2, .int .u64 a0_3, .int .u64 a0_4], .int .i64 a1] w fun e w' => e = .returned (.bool r) ∧ Below w.heap.size w w' := by
 have hu118 := Try.underlying118; have HB := Aside0.mk (Below.refl w.heap.size w)
 have H : (if a0_1 ≥ 0 then (if a0_1 < a1 then (if a0_2 ≥ 0 then (some (decide (a0_2 < a1))) else (some false)) else (some false)) else (some false)) = some r := h
 clear h
 by_cases c3 : a0_1 ≥ 0
 ·rw [if_pos c3] at H
  have c3b0 : decide (0 ≤ a0_1) = true := decide_eq_true c3; clear c3
  by_cases c4 : a0_1 < a1
  ·rw [if_pos c4] at H
   have c4b0 : decide (a0_1 < a1) = true := decide_eq_true c4; clear c4
   by_cases c5 : a0_2 ≥ 0
   ·rw [if_pos c5] at H
    have c5b0 : decide (0 ≤ a0_2) = true := decide_eq_true c5; clear c5; obtain rfl := Option.some.inj H
    go_enter Try.func123, Try.ntmps123
    go_wp2_with (first | ((with_reducible refine gate_dst (N := 2) rfl ?_); refine box_event ?hg (N := 2) ?hd (cs := #[.int .i64 a0_0, .int .i64 a0_1, .int .i64 a0_2, .int .u64 a0_3, .int .u64 a0_4]) (t := 118) ?hr ?_; (case hd => rfl); (case hg => rfl); (case hr => first | (go_simp; done) | (go_simp; rfl)); intro gb599 hg w6 hbox hb; have n0_ := Aside0.mk (below_step (blA HB.out) hb); have n1_ := Aside0.mk (hbox); have n2_ := Aside0.mk ((by rw [hg]; exact (below_size (blA HB.out)) : w.heap.size ≤ gb599)); have n3_ := Aside0.mk ((by rw [hg]; exact (below_size (blA HB.out)) : w.heap.size ≤ gb599)); clear HB; have HB := n0_; have BK599 := n1_; have GW599 := n2_; have GE599 := n3_; clear n0_ n1_ n2_ n3_; clear hb hbox hg; have hcz7 := fun i => blk_cell BK599.out i; have hfz7 := fun i => blk_frozen BK599.out i; ))
    go_ret
    exact ⟨by first | rfl | (simp [errW_none, errW_some] <;> rfl) | (simp [*, errW_none, errW_some] <;> rfl), blA HB.out⟩
   ·rw [if_neg c5] at H
    have c5b0 : decide (0 ≤ a0_2) = false := decide_eq_false c5; clear c5; obtain rfl := Option.some.inj H
    go_enter Try.func123, Try.ntmps123
    go_wp2_with (first | ((with_reducible refine gate_dst (N := 2) rfl ?_); refine box_event ?hg (N := 2) ?hd (cs := #[.int .i64 a0_0, .int .i64 a0_1, .int .i64 a0_2, .int .u64 a0_3, .int .u64 a0_4]) (t := 118) ?hr ?_; (case hd => rfl); (case hg => rfl); (case hr => first | (go_simp; done) | (go_simp; rfl)); intro gb599 hg w8 hbox hb; have n0_ := Aside0.mk (below_step (blA HB.out) hb); have n1_ := Aside0.mk (hbox); have n2_ := Aside0.mk ((by rw [hg]; exact (below_size (blA HB.out)) : w.heap.size ≤ gb599)); have n3_ := Aside0.mk ((by rw [hg]; exact (below_size (blA HB.out)) : w.heap.size ≤ gb599)); clear HB; have HB := n0_; have BK599 := n1_; have GW599 := n2_; have GE599 := n3_; clear n0_ n1_ n2_ n3_; clear hb hbox hg; have hcz9 := fun i => blk_cell BK599.out i; have hfz9 := fun i => blk_frozen BK599.out i; ))
    go_ret
    exact ⟨by first | rfl | (simp [errW_none, errW_some] <;> rfl) | (simp [*, errW_none, errW_some] <;> rfl), blA HB.out⟩
  ·rw [if_neg c4] at H
   have c4b0 : decide (a0_1 < a1) = false := decide_eq_false c4; clear c4; obtain rfl := Option.some.inj H
   go_enter Try.func123, Try.ntmps123
   go_wp2_with (first | ((with_reducible refine gate_dst (N := 2) rfl ?_); refine box_event ?hg (N := 2) ?hd (cs := #[.int .i64 a0_0, .int .i64 a0_1, .int .i64 a0_2, .int .u64 a0_3, .int .u64 a0_4]) (t := 118) ?hr ?_; (case hd => rfl); (case hg => rfl); (case hr => first | (go_simp; done) | (go_simp; rfl)); intro gb599 hg w10 hbox hb; have n0_ := Aside0.mk (below_step (blA HB.out) hb); have n1_ := Aside0.mk (hbox); have n2_ := Aside0.mk ((by rw [hg]; exact (below_size (blA HB.out)) : w.heap.size ≤ gb599)); have n3_ := Aside0.mk ((by rw [hg]; exact (below_size (blA HB.out)) : w.heap.size ≤ gb599)); clear HB; have HB := n0_; have BK599 := n1_; have GW599 := n2_; have GE599 := n3_; clear n0_ n1_ n2_ n3_; clear hb hbox hg; have hcz11 := fun i => blk_cell BK599.out i; have hfz11 := fun i => blk_frozen BK599.out i; ))
   go_ret
   exact ⟨by first | rfl | (simp [errW_none, errW_some] <;> rfl) | (simp [*, errW_none, errW_some] <;> rfl), blA HB.out⟩
 ·rw [if_neg c3] at H
  have c3b0 : decide (0 ≤ a0_1) = false := decide_eq_false c3; clear c3; obtain rfl := Option.some.inj H
  go_enter Try.func123, Try.ntmps123
  go_wp2_with (first | ((with_reducible refine gate_dst (N := 2) rfl ?_); refine box_event ?hg (N := 2) ?hd (cs := #[.int .i64 a0_0, .int .i64 a0_1, .int .i64 a0_2, .int .u64 a0_3, .int .u64 a0_4]) (t := 118) ?hr ?_; (case hd => rfl); (case hg => rfl); (case hr => first | (go_simp; done) | (go_simp; rfl)); intro gb599 hg w12 hbox hb; have n0_ := Aside0.mk (below_step (blA HB.out) hb); have n1_ := Aside0.mk (hbox); have n2_ := Aside0.mk ((by rw [hg]; exact (below_size (blA HB.out)) : w.heap.size ≤ gb599)); have n3_ := Aside0.mk ((by rw [hg]; exact (below_size (blA HB.out)) : w.heap.size ≤ gb599)); clear HB; have HB := n0_; have BK599 := n1_; have GW599 := n2_; have GE599 := n3_; clear n0_ n1_ n2_ n3_; clear hb hbox hg; have hcz13 := fun i => blk_cell BK599.out i; have hfz13 := fun i => blk_frozen BK599.out i; ))
  go_ret
  exact ⟨by first | rfl | (simp [errW_none, errW_some] <;> rfl) | (simp [*, errW_none, errW_some] <;> rfl), blA HB.out⟩
end Go.Proofs.Ythiiodgpdoljoaa.PLc
namespace Go.Proofs.Ythiiodgpdoljoaa.PLc
open Go.RowKit Go.Proofs.YthiiodgpdoljoaaW.PrintWords Go.Proofs.YthiiodgpdoljoaaW.PrintLast Go.Proofs.YthiiodgpdoljoaaW.PrintMore
attribute [local go_sem] max2_int min2_int max_two min_two max_three min_three max_four min_four   -- for this text's walks alone
set_option linter.unusedVariables false
set_option linter.unusedSimpArgs false
attribute [local go_sem high] eqA74
/-! ### expr_step: function 100 -/
mutual
def expr_step.j0 : Nat → Int → Int → List Int → Bool → Int → Int → Int → Int → Int → Int → Int → Option (Int × Int)
 | 0, _, _, _, _, _, _, _, _, _, _, _ => none
 | k + 1, x0, x1, x3, x12, x601000, x601001, x601002, x601003, x601004, x602000, x602001 => if x12 = true then ((octet_Of.f x0 x601003 x601004).bind fun t602 => (if t602 = true then (some (0, 0)) else (some (0, 5)))) else (if x601000 = 2 then (if x601002 = 0 then (expr_step.j1 k x1 x3 (x601003 == x602000 && (x601004 == x602001)) x601000 x601001 x601002 x601003 x601004 x602000 x602001) else (expr_step.j1 k x1 x3 false x601000 x601001 x601002 x601003 x601004 x602000 x602001)) else (expr_step.j1 k x1 x3 false x601000 x601001 x601002 x601003 x601004 x602000 x602001))
def expr_step.j1 : Nat → Int → List Int → Bool → Int → Int → Int → Int → Int → Int → Int → Option (Int × Int)
 | 0, _, _, _, _, _, _, _, _, _, _ => none
 | k + 1, x1, x3, x31, x601000, x601001, x601002, x601003, x601004, x602000, x602001 => if x31 = true then (if x601001 < 0 then (some (0, 4)) else (if x601001 ≥ x1 then (some (0, 4)) else (some (1, 0)))) else (if x601000 = 3 then (if (x601003 == x602000 && (x601004 == x602001)) = true then ((expr_ahead.f x601000 x601001 x601002 x601003 x601004 (x3.length : Int)).bind fun t603 => (expr_step.j2 k x3 t603 x601000 x601001 x601002 x601003 x601004 x602000 x602001)) else (expr_step.j2 k x3 false x601000 x601001 x601002 x601003 x601004 x602000 x602001)) else (expr_step.j2 k x3 false x601000 x601001 x601002 x601003 x601004 x602000 x602001))
def expr_step.j2 : Nat → List Int → Bool → Int → Int → Int → Int → Int → Int → Int → Option (Int × Int)
 | 0, _, _, _, _, _, _, _, _, _ => none
 | k + 1, x3, x55, x601000, x601001, x601002, x601003, x601004, x602000, x602001 => if x55 = true then (if 0 ≤ x601001 then (if x601001 < (x3.length : Int) then (if 0 ≤ x601002 then (if x601002 < (x3.length : Int) then (some (mx (rd x3 x601001) (rd x3 x601002), 0)) else (none)) else (none)) else (none)) else (none)) else (if x601000 = 4 then (if (x601003 == x602000 && (x601004 == x602001)) = true then ((expr_ahead.f x601000 x601001 x601002 x601003 x601004 (x3.length : Int)).bind fun t606 => (if t606 = true then (if 0 ≤ x601001 then (if x601001 < (x3.length : Int) then (if 0 ≤ x601002 then (if x601002 < (x3.length : Int) then (some (wrap64 ((rd x3 x601001) + (rd x3 x601002)), 0)) else (none)) else (none)) else (none)) else (none)) else (some (0, 3)))) else (some (0, 3))) else (some (0, 3)))
end
def expr_step.f (k : Nat) (a0 : Int) (a1 : Int) (a2_0 : Int) (a2_1 : Int) (a2_2 : Int) (a2_3 : Int) (a2_4 : Int) (l3 : List Int) : Option (Int × Int) := if a2_0 = 1 then (if a2_1 = 0 then (expr_step.j0 k a0 a1 l3 (a2_2 == 0) a2_0 a2_1 a2_2 a2_3 a2_4 0 0) else (expr_step.j0 k a0 a1 l3 false a2_0 a2_1 a2_2 a2_3 a2_4 0 0)) else (expr_step.j0 k a0 a1 l3 false a2_0 a2_1 a2_2 a2_3 a2_4 0 0)
theorem expr_step.mono_l : ∀ k, (∀ y0 y1 y2 y3 y4 y5 y6 y7 y8 y9 y10, LeO (expr_step.j0 k y0 y1 y2 y3 y4 y5 y6 y7 y8 y9 y10) (expr_step.j0 (k + 1) y0 y1 y2 y3 y4 y5 y6 y7 y8 y9 y10)) ∧ (∀ y0 y1 y2 y3 y4 y5 y6 y7 y8 y9, LeO (expr_step.j1 k y0 y1 y2 y3 y4 y5 y6 y7 y8 y9) (expr_step.j1 (k + 1) y0 y1 y2 y3 y4 y5 y6 y7 y8 y9)) ∧ (∀ y0 y1 y2 y3 y4 y5 y6 y7 y8, LeO (expr_step.j2 k y0 y1 y2 y3 y4 y5 y6 y7 y8) (expr_step.j2 (k + 1) y0 y1 y2 y3 y4 y5 y6 y7 y8))
 | 0 => ⟨fun _ _ _ _ _ _ _ _ _ _ _ r h => by simp [expr_step.j0] at h, fun _ _ _ _ _ _ _ _ _ _ r h => by simp [expr_step.j1] at h, fun _ _ _ _ _ _ _ _ _ r h => by simp [expr_step.j2] at h⟩
 | k + 1 => by
  obtain ⟨ih0, ih1, ih2⟩ := expr_step.mono_l k
  refine ⟨?_, ?_, ?_⟩
  ·intro y0 y1 y2 y3 y4 y5 y6 y7 y8 y9 y10
   unfold expr_step.j0
   repeat' first
   | (with_reducible exact ih0 _ _ _ _ _ _ _ _ _ _ _)
   | (with_reducible exact ih1 _ _ _ _ _ _ _ _ _ _)
   | (with_reducible exact ih2 _ _ _ _ _ _ _ _ _)
   | (with_reducible exact LeO.refl _)
   | (with_reducible exact LeO.none _)
   | (with_reducible refine LeO.ite ?_ ?_)
   | (with_reducible refine LeO.bind ?_ (fun _ => ?_))
   | exact ih0 _ _ _ _ _ _ _ _ _ _ _
   | exact ih1 _ _ _ _ _ _ _ _ _ _
   | exact ih2 _ _ _ _ _ _ _ _ _
   | exact LeO.none _
   | refine LeO.ite ?_ ?_
   | refine LeO.bind ?_ (fun _ => ?_)
  ·intro y0 y1 y2 y3 y4 y5 y6 y7 y8 y9
   unfold expr_step.j1
   repeat' first
   | (with_reducible exact ih0 _ _ _ _ _ _ _ _ _ _ _)
   | (with_reducible exact ih1 _ _ _ _ _ _ _ _ _ _)
   | (with_reducible exact ih2 _ _ _ _ _ _ _ _ _)
   | (with_reducible exact LeO.refl _)
   | (with_reducible exact LeO.none _)
   | (with_reducible refine LeO.ite ?_ ?_)
   | (with_reducible refine LeO.bind ?_ (fun _ => ?_))
   | exact ih0 _ _ _ _ _ _ _ _ _ _ _
   | exact ih1 _ _ _ _ _ _ _ _ _ _
   | exact ih2 _ _ _ _ _ _ _ _ _
   | exact LeO.none _
   | refine LeO.ite ?_ ?_
   | refine LeO.bind ?_ (fun _ => ?_)
  ·intro y0 y1 y2 y3 y4 y5 y6 y7 y8
   unfold expr_step.j2
   repeat' first
   | (with_reducible exact ih0 _ _ _ _ _ _ _ _ _ _ _)
   | (with_reducible exact ih1 _ _ _ _ _ _ _ _ _ _)
   | (with_reducible exact ih2 _ _ _ _ _ _ _ _ _)
   | (with_reducible exact LeO.refl _)
   | (with_reducible exact LeO.none _)
   | (with_reducible refine LeO.ite ?_ ?_)
   | (with_reducible refine LeO.bind ?_ (fun _ => ?_))
   | exact ih0 _ _ _ _ _ _ _ _ _ _ _
   | exact ih1 _ _ _ _ _ _ _ _ _ _
   | exact ih2 _ _ _ _ _ _ _ _ _
   | exact LeO.none _
   | refine LeO.ite ?_ ?_
   | refine LeO.bind ?_ (fun _ => ?_)
theorem expr_step.mono : ∀ a0 a1 a2 a3 a4 a5 a6 a7 k, LeO (expr_step.f k a0 a1 a2 a3 a4 a5 a6 a7) (expr_step.f (k + 1) a0 a1 a2 a3 a4 a5 a6 a7) := by
 intro a0 a1 a2 a3 a4 a5 a6 a7 k
 obtain ⟨ih0, ih1, ih2⟩ := expr_step.mono_l k
 unfold expr_step.f
 repeat' first
   | (with_reducible exact ih0 _ _ _ _ _ _ _ _ _ _ _)
   | (with_reducible exact ih1 _ _ _ _ _ _ _ _ _ _)
   | (with_reducible exact ih2 _ _ _ _ _ _ _ _ _)
   | (with_reducible exact LeO.refl _)
   | (with_reducible exact LeO.none _)
   | (with_reducible refine LeO.ite ?_ ?_)
   | (with_reducible refine LeO.bind ?_ (fun _ => ?_))
   | exact ih0 _ _ _ _ _ _ _ _ _ _ _
   | exact ih1 _ _ _ _ _ _ _ _ _ _
   | exact ih2 _ _ _ _ _ _ _ _ _
   | exact LeO.none _
   | refine LeO.ite ?_ ?_
   | refine LeO.bind ?_ (fun _ => ?_)
set_option maxHeartbeats 8000000 in
set_option maxRecDepth 100000 in
theorem expr_step.calls (k : Nat) (a0 : Int) (a1 : Int) (a2_0 : Int) (a2_1 : Int) (a2_2 : Int) (a2_3 : Int) (a2_4 : Int) (A3 : Option Addr) (c3 : Nat) (l3 : List Int) (r1 : Int) (r2 : Int) (w : World) (hr3 : Kd.C (Kd.int .i64) w A3 l3.length l3) (hc3 : l3.length ≤ c3) (h : expr_step.f k a0 a1 a2_0 a2_1 a2_2 a2_3 a2_4 l3 = some (r1, r2)) :
  Calls Try.prog 100 #[.int .i64 a0, .int .i64 a1, .agg #[.int .i64 a2_0, .int .i64 a2_1, .int .i64 a2_2, .int .u64 a2_3, .int .u64 a2_4], .slice A3 l3.length c3] w fun e w' => e = .returned (.tuple #[.int .i64 r1, .int .i64 r2]) ∧ Below w.heap.size w w' := by
 have hu118 := Try.underlying118; have hu74 := Try.underlying74; have HR3 := Aside0.mk hr3; have HC3 := Aside0.mk hc3; clear hr3 hc3; have HB := Aside0.mk (Below.refl w.heap.size w)
 have H : (if a2_0 = 1 then (if a2_1 = 0 then (expr_step.j0 k a0 a1 l3 (a2_2 == 0) a2_0 a2_1 a2_2 a2_3 a2_4 0 0) else (expr_step.j0 k a0 a1 l3 false a2_0 a2_1 a2_2 a2_3 a2_4 0 0)) else (expr_step.j0 k a0 a1 l3 false a2_0 a2_1 a2_2 a2_3 a2_4 0 0)) = some (r1, r2) := h
 clear h; have HC5 := Aside0.mk H; clear H
 go_enter Try.func100, Try.ntmps100
 go_upto_region 2 with (first | ((with_reducible refine gate_dst (N := 6) rfl ?_); (try (refine gate_guard (by rfl) ?_; dsimp only)); refine box_event ?hg (N := 6) ?hd (cs := #[.int .i64 a2_0, .int .i64 a2_1, .int .i64 a2_2, .int .u64 a2_3, .int .u64 a2_4]) (t := 118) ?hr ?_; (case hd => rfl); (case hg => rfl); (case hr => first | (go_simp; done) | (go_simp; rfl)); intro gb600 hg w6 hbox hb; have n0_ := Aside0.mk (below_step (blA HB.out) hb); have n1_ := Aside0.mk (hbox); have n2_ := Aside0.mk ((by rw [hg]; exact (below_size (blA HB.out)) : w.heap.size ≤ gb600)); have n3_ := Aside0.mk ((by rw [hg]; exact (below_size (blA HB.out)) : w.heap.size ≤ gb600)); clear HB; have HB := n0_; have BK600 := n1_; have GW600 := n2_; have GE600 := n3_; clear n0_ n1_ n2_ n3_; clear hb hbox hg) | ((with_reducible refine gate_dst (N := 10) rfl ?_); (try (refine gate_guard (by rfl) ?_; dsimp only)); refine box_event ?hg (N := 10) ?hd (cs := #[.int .u64 0, .int .u64 0]) (t := 74) ?hr ?_; (case hd => rfl); (case hg => rfl); (case hr => first | (go_simp; done) | (go_simp; rfl)); intro gb601 hg w7 hbox hb; have n0_ := Aside0.mk (blk_below (bkA BK600.out) hb); have n1_ := Aside0.mk (below_step (blA HB.out) hb); have n2_ := Aside0.mk (hbox); have n3_ := Aside0.mk ((by rw [hg]; exact (below_size (blA HB.out)) : w.heap.size ≤ gb601)); have n4_ := Aside0.mk ((by rw [hg]; exact (below_size (blA HB.out)) : w.heap.size ≤ gb601)); have n5_ := Aside0.mk ((by rw [hg]; exact Nat.ne_of_lt (blk_lt (bkA BK600.out)) : gb600 ≠ gb601)); have n6_ := Aside0.mk ((by rw [hg]; exact Nat.ne_of_gt (blk_lt (bkA BK600.out)) : gb601 ≠ gb600)); clear BK600; clear HB; have BK600 := n0_; have HB := n1_; have BK601 := n2_; have GW601 := n3_; have GE601 := n4_; have NB600_601 := n5_; have NB601_600 := n6_; clear n0_ n1_ n2_ n3_ n4_ n5_ n6_; clear hb hbox hg; have hnb8 := NB601_600.out; have hnc8 := NB600_601.out; have hcz9 := fun i => blk_cell BK601.out i; have hfz9 := fun i => blk_frozen BK601.out i; ))
 repeat (go_quiet (first | ((with_reducible refine gate_dst (N := 6) rfl ?_); (try (refine gate_guard (by rfl) ?_; dsimp only)); refine box_event ?hg (N := 6) ?hd (cs := #[.int .i64 a2_0, .int .i64 a2_1, .int .i64 a2_2, .int .u64 a2_3, .int .u64 a2_4]) (t := 118) ?hr ?_; (case hd => rfl); (case hg => rfl); (case hr => first | (go_simp; done) | (go_simp; rfl)); intro gb600 hg w6 hbox hb; have n0_ := Aside0.mk (below_step (blA HB.out) hb); have n1_ := Aside0.mk (hbox); have n2_ := Aside0.mk ((by rw [hg]; exact (below_size (blA HB.out)) : w.heap.size ≤ gb600)); have n3_ := Aside0.mk ((by rw [hg]; exact (below_size (blA HB.out)) : w.heap.size ≤ gb600)); clear HB; have HB := n0_; have BK600 := n1_; have GW600 := n2_; have GE600 := n3_; clear n0_ n1_ n2_ n3_; clear hb hbox hg) | ((with_reducible refine gate_dst (N := 10) rfl ?_); (try (refine gate_guard (by rfl) ?_; dsimp only)); refine box_event ?hg (N := 10) ?hd (cs := #[.int .u64 0, .int .u64 0]) (t := 74) ?hr ?_; (case hd => rfl); (case hg => rfl); (case hr => first | (go_simp; done) | (go_simp; rfl)); intro gb601 hg w7 hbox hb; have n0_ := Aside0.mk (blk_below (bkA BK600.out) hb); have n1_ := Aside0.mk (below_step (blA HB.out) hb); have n2_ := Aside0.mk (hbox); have n3_ := Aside0.mk ((by rw [hg]; exact (below_size (blA HB.out)) : w.heap.size ≤ gb601)); have n4_ := Aside0.mk ((by rw [hg]; exact (below_size (blA HB.out)) : w.heap.size ≤ gb601)); have n5_ := Aside0.mk ((by rw [hg]; exact Nat.ne_of_lt (blk_lt (bkA BK600.out)) : gb600 ≠ gb601)); have n6_ := Aside0.mk ((by rw [hg]; exact Nat.ne_of_gt (blk_lt (bkA BK600.out)) : gb601 ≠ gb600)); clear BK600; clear HB; have BK600 := n0_; have HB := n1_; have BK601 := n2_; have GW601 := n3_; have GE601 := n4_; have NB600_601 := n5_; have NB601_600 := n6_; clear n0_ n1_ n2_ n3_ n4_ n5_ n6_; clear hb hbox hg; have hnb8 := NB601_600.out; have hnc8 := NB600_601.out; have hcz9 := fun i => blk_cell BK601.out i; have hfz9 := fun i => blk_frozen BK601.out i; )); go_upto_region 2 with (first | ((with_reducible refine gate_dst (N := 6) rfl ?_); (try (refine gate_guard (by rfl) ?_; dsimp only)); refine box_event ?hg (N := 6) ?hd (cs := #[.int .i64 a2_0, .int .i64 a2_1, .int .i64 a2_2, .int .u64 a2_3, .int .u64 a2_4]) (t := 118) ?hr ?_; (case hd => rfl); (case hg => rfl); (case hr => first | (go_simp; done) | (go_simp; rfl)); intro gb600 hg w6 hbox hb; have n0_ := Aside0.mk (below_step (blA HB.out) hb); have n1_ := Aside0.mk (hbox); have n2_ := Aside0.mk ((by rw [hg]; exact (below_size (blA HB.out)) : w.heap.size ≤ gb600)); have n3_ := Aside0.mk ((by rw [hg]; exact (below_size (blA HB.out)) : w.heap.size ≤ gb600)); clear HB; have HB := n0_; have BK600 := n1_; have GW600 := n2_; have GE600 := n3_; clear n0_ n1_ n2_ n3_; clear hb hbox hg) | ((with_reducible refine gate_dst (N := 10) rfl ?_); (try (refine gate_guard (by rfl) ?_; dsimp only)); refine box_event ?hg (N := 10) ?hd (cs := #[.int .u64 0, .int .u64 0]) (t := 74) ?hr ?_; (case hd => rfl); (case hg => rfl); (case hr => first | (go_simp; done) | (go_simp; rfl)); intro gb601 hg w7 hbox hb; have n0_ := Aside0.mk (blk_below (bkA BK600.out) hb); have n1_ := Aside0.mk (below_step (blA HB.out) hb); have n2_ := Aside0.mk (hbox); have n3_ := Aside0.mk ((by rw [hg]; exact (below_size (blA HB.out)) : w.heap.size ≤ gb601)); have n4_ := Aside0.mk ((by rw [hg]; exact (below_size (blA HB.out)) : w.heap.size ≤ gb601)); have n5_ := Aside0.mk ((by rw [hg]; exact Nat.ne_of_lt (blk_lt (bkA BK600.out)) : gb600 ≠ gb601)); have n6_ := Aside0.mk ((by rw [hg]; exact Nat.ne_of_gt (blk_lt (bkA BK600.out)) : gb601 ≠ gb600)); clear BK600; clear HB; have BK600 := n0_; have HB := n1_; have BK601 := n2_; have GW601 := n3_; have GE601 := n4_; have NB600_601 := n5_; have NB601_600 := n6_; clear n0_ n1_ n2_ n3_ n4_ n5_ n6_; clear hb hbox hg; have hnb8 := NB601_600.out; have hnc8 := NB600_601.out; have hcz9 := fun i => blk_cell BK601.out i; have hfz9 := fun i => blk_frozen BK601.out i; )))
 (try simp only [Act.put, List.setIfInBounds_toArray, List.set_cons_zero, List.set_cons_succ])
 go_cut [12] (fun v12 wc => ∃ (kq : Nat) (x12_4 : Bool), v12 = .bool x12_4 ∧ Aside0 (expr_step.j0 kq a0 a1 l3 x12_4 a2_0 a2_1 a2_2 a2_3 a2_4 0 0 = some (r1, r2)) ∧ Aside0 (kq ≤ k) ∧ Aside0 (wc.heap[gb600]? = some (.cells #[.int .i64 a2_0, .int .i64 a2_1, .int .i64 a2_2, .int .u64 a2_3, .int .u64 a2_4] 118 (0, 0))) ∧ Aside0 (wc.heap[gb601]? = some (.cells #[.int .u64 0, .int .u64 0] 74 (0, 0))) ∧ Aside0 (Below w.heap.size w wc))
 case first =>
  have H := HC5.out; clear HC5
  by_cases c10 : a2_0 = 1
  ·rw [if_pos c10] at H
   have c10b0 : (a2_0 == 1) = true := beq_iff_eq.mpr c10; have c10b1 : (a2_0 != 1) = false := bne_eq_false_iff_eq.mpr c10; clear c10
   (first | rw [c10b0] | (simp only [i64_w, i32_w]; rw [c10b0]) | skip)
   by_cases c11 : a2_1 = 0
   ·rw [if_pos c11] at H
    have c11b0 : (a2_1 == 0) = true := beq_iff_eq.mpr c11; have c11b1 : (a2_1 != 0) = false := bne_eq_false_iff_eq.mpr c11; clear c11; have H' := Aside0.mk H; clear H; have hnb12 := NB600_601.out; have hnc12 := NB601_600.out
    have hcz13 := fun i => blk_cell BK600.out i
    have hfz13 := fun i => blk_frozen BK600.out i
    go_wp2
    repeat (go_quiet (fail); try go_wp2)
    go_meet
    case rel => exact ⟨_, ((a2_2 == 0)), eqA, H', ⟨omA⟩, ⟨by refine bkA ?_; refine blk_far ?_ NB600_601.out _; refine bkA ?_; refine blk_far ?_ NB600_601.out _; refine bkA ?_; exact BK600.out⟩, ⟨by refine bkA ?_; refine blk_put (cs := #[.int .u64 0, .int .u64 0]) ?_ 1 _ rfl; refine bkA ?_; refine blk_put (cs := #[.int .u64 0, .int .u64 0]) ?_ 0 _ rfl; refine bkA ?_; exact BK601.out⟩, ⟨blA HB.out⟩⟩
   ·rw [if_neg c11] at H
    have c11b0 : (a2_1 == 0) = false := beq_eq_false_iff_ne.mpr c11; have c11b1 : (a2_1 != 0) = true := bne_iff_ne.mpr c11; have H' := Aside0.mk H; clear H; have hnb14 := NB600_601.out; have hnc14 := NB601_600.out
    have hcz15 := fun i => blk_cell BK600.out i
    have hfz15 := fun i => blk_frozen BK600.out i
    go_wp2
    repeat (go_quiet (fail); try go_wp2)
    go_meet
    case rel => exact ⟨_, (false), eqA, H', ⟨omA⟩, ⟨by refine bkA ?_; refine blk_far ?_ NB600_601.out _; refine bkA ?_; refine blk_far ?_ NB600_601.out _; refine bkA ?_; exact BK600.out⟩, ⟨by refine bkA ?_; refine blk_put (cs := #[.int .u64 0, .int .u64 0]) ?_ 1 _ rfl; refine bkA ?_; refine blk_put (cs := #[.int .u64 0, .int .u64 0]) ?_ 0 _ rfl; refine bkA ?_; exact BK601.out⟩, ⟨blA HB.out⟩⟩
  ·rw [if_neg c10] at H
   have c10b0 : (a2_0 == 1) = false := beq_eq_false_iff_ne.mpr c10; have c10b1 : (a2_0 != 1) = true := bne_iff_ne.mpr c10
   (first | rw [c10b0] | (simp only [i64_w, i32_w]; rw [c10b0]) | skip)
   have H' := Aside0.mk H; clear H; have hnb16 := NB600_601.out; have hnc16 := NB601_600.out
   have hcz17 := fun i => blk_cell BK600.out i
   have hfz17 := fun i => blk_frozen BK600.out i
   go_wp2
   repeat (go_quiet (fail); try go_wp2)
   go_meet
   case rel => exact ⟨_, (false), eqA, H', ⟨omA⟩, ⟨by refine bkA ?_; refine blk_far ?_ NB600_601.out _; refine bkA ?_; refine blk_far ?_ NB600_601.out _; refine bkA ?_; exact BK600.out⟩, ⟨by refine bkA ?_; refine blk_put (cs := #[.int .u64 0, .int .u64 0]) ?_ 1 _ rfl; refine bkA ?_; refine blk_put (cs := #[.int .u64 0, .int .u64 0]) ?_ 0 _ rfl; refine bkA ?_; exact BK601.out⟩, ⟨blA HB.out⟩⟩
 case rest =>
  clear HC5; (try clear c1); (try clear p2); (try clear c3); (try clear c8); (try clear c10); (try clear c10b0); (try clear c10b1); (try clear c11); (try clear c11b0); (try clear c11b1); (try clear c12); (try clear c14); (try clear c16); (try clear hcz13); (try clear hcz15); (try clear hcz17); (try clear hcz9); (try clear hfz13); (try clear hfz15); (try clear hfz17); (try clear hfz9); obtain ⟨kq, x12_4, rfl, HA, HJ4, BK600, BK601, HB⟩ := hcut
  cases kq with
  | zero => exact absurd HA.out (by simp [expr_step.j0])
  | succ kj4 =>
   have H := HA.out; clear HA
   simp only [expr_step.j0] at H
   by_cases c18 : x12_4 = true
   ·subst c18
    have H1 : ((octet_Of.f a0 a2_3 a2_4).bind fun t602 => (if t602 = true then (some (0, 0)) else (some (0, 5)))) = some (r1, r2) := by rw [if_pos rfl] at H; exact H
    clear H; have H := H1; clear H1; replace H := Option.bind_eq_some_iff.mp H; obtain ⟨t602, A190, H⟩ := H
    replace H : (if t602 = true then (some (0, 0)) else (some (0, 5))) = some (r1, r2) := H
    have A19 := Aside0.mk A190; clear A190
    by_cases c20 : t602 = true
    ·subst c20
     have H1 : (some (0, 0)) = some (r1, r2) := by rw [if_pos rfl] at H; exact H
     clear H; have H := H1; clear H1
     simp only [Option.some.injEq, Prod.mk.injEq] at H
     obtain ⟨rfl, rfl⟩ := H; have hnb21 := NB600_601.out; have hnc21 := NB601_600.out
     have hcz22 := fun i => blk_cell BK600.out i
     have hfz22 := fun i => blk_frozen BK600.out i
     go_wp2_with (first | (go_at_call 110; (with_reducible refine (octet_Of.calls a0 a2_3 a2_4 true _ A19.out).mono ?_); rintro e w23 ⟨rfl, hb⟩; have n0_ := Aside0.mk (blk_below (bkA BK600.out) hb); have n1_ := Aside0.mk (blk_below (bkA BK601.out) hb); have n2_ := Aside0.mk (below_step (blA HB.out) hb); clear BK600; clear BK601; clear HB; have BK600 := n0_; have BK601 := n1_; have HB := n2_; clear n0_ n1_ n2_; (try clear hb)))
     repeat (go_quiet (first | (go_at_call 110; (with_reducible refine (octet_Of.calls a0 a2_3 a2_4 true _ A19.out).mono ?_); rintro e w23 ⟨rfl, hb⟩; have n0_ := Aside0.mk (blk_below (bkA BK600.out) hb); have n1_ := Aside0.mk (blk_below (bkA BK601.out) hb); have n2_ := Aside0.mk (below_step (blA HB.out) hb); clear BK600; clear BK601; clear HB; have BK600 := n0_; have BK601 := n1_; have HB := n2_; clear n0_ n1_ n2_; (try clear hb))); try go_wp2_with (first | (go_at_call 110; (with_reducible refine (octet_Of.calls a0 a2_3 a2_4 true _ A19.out).mono ?_); rintro e w23 ⟨rfl, hb⟩; have n0_ := Aside0.mk (blk_below (bkA BK600.out) hb); have n1_ := Aside0.mk (blk_below (bkA BK601.out) hb); have n2_ := Aside0.mk (below_step (blA HB.out) hb); clear BK600; clear BK601; clear HB; have BK600 := n0_; have BK601 := n1_; have HB := n2_; clear n0_ n1_ n2_; (try clear hb))))
     go_ret2
     exact ⟨by first | rfl | (simp [errW_none, errW_some] <;> rfl) | (simp [*, errW_none, errW_some] <;> rfl), blA HB.out⟩
    ·replace c20 := Bool.eq_false_iff.mpr c20; subst c20
     have H1 : (some (0, 5)) = some (r1, r2) := by rw [if_neg (show ¬ (false = true) by decide)] at H; exact H
     clear H; have H := H1; clear H1
     simp only [Option.some.injEq, Prod.mk.injEq] at H
     obtain ⟨rfl, rfl⟩ := H; have hnb24 := NB600_601.out; have hnc24 := NB601_600.out
     have hcz25 := fun i => blk_cell BK600.out i
     have hfz25 := fun i => blk_frozen BK600.out i
     go_wp2_with (first | (go_at_call 110; (with_reducible refine (octet_Of.calls a0 a2_3 a2_4 false _ A19.out).mono ?_); rintro e w26 ⟨rfl, hb⟩; have n0_ := Aside0.mk (blk_below (bkA BK600.out) hb); have n1_ := Aside0.mk (blk_below (bkA BK601.out) hb); have n2_ := Aside0.mk (below_step (blA HB.out) hb); clear BK600; clear BK601; clear HB; have BK600 := n0_; have BK601 := n1_; have HB := n2_; clear n0_ n1_ n2_; (try clear hb)))
     repeat (go_quiet (first | (go_at_call 110; (with_reducible refine (octet_Of.calls a0 a2_3 a2_4 false _ A19.out).mono ?_); rintro e w26 ⟨rfl, hb⟩; have n0_ := Aside0.mk (blk_below (bkA BK600.out) hb); have n1_ := Aside0.mk (blk_below (bkA BK601.out) hb); have n2_ := Aside0.mk (below_step (blA HB.out) hb); clear BK600; clear BK601; clear HB; have BK600 := n0_; have BK601 := n1_; have HB := n2_; clear n0_ n1_ n2_; (try clear hb))); try go_wp2_with (first | (go_at_call 110; (with_reducible refine (octet_Of.calls a0 a2_3 a2_4 false _ A19.out).mono ?_); rintro e w26 ⟨rfl, hb⟩; have n0_ := Aside0.mk (blk_below (bkA BK600.out) hb); have n1_ := Aside0.mk (blk_below (bkA BK601.out) hb); have n2_ := Aside0.mk (below_step (blA HB.out) hb); clear BK600; clear BK601; clear HB; have BK600 := n0_; have BK601 := n1_; have HB := n2_; clear n0_ n1_ n2_; (try clear hb))))
     go_ret2
     exact ⟨by first | rfl | (simp [errW_none, errW_some] <;> rfl) | (simp [*, errW_none, errW_some] <;> rfl), blA HB.out⟩
   ·replace c18 := Bool.eq_false_iff.mpr c18; subst c18
    have H1 : (if a2_0 = 2 then (if a2_2 = 0 then (expr_step.j1 kj4 a1 l3 (a2_3 == 0 && (a2_4 == 0)) a2_0 a2_1 a2_2 a2_3 a2_4 0 0) else (expr_step.j1 kj4 a1 l3 false a2_0 a2_1 a2_2 a2_3 a2_4 0 0)) else (expr_step.j1 kj4 a1 l3 false a2_0 a2_1 a2_2 a2_3 a2_4 0 0)) = some (r1, r2) := by rw [if_neg (show ¬ (false = true) by decide)] at H; exact H
    clear H; have H := H1; clear H1; have HC27 := Aside0.mk H; clear H
    go_upto_region 6 with (fail)
    repeat (go_quiet (fail); go_upto_region 6 with (fail))
    go_cut [31] (fun v31 wc => ∃ (kq : Nat) (x31_26 : Bool), v31 = .bool x31_26 ∧ Aside0 (expr_step.j1 kq a1 l3 x31_26 a2_0 a2_1 a2_2 a2_3 a2_4 0 0 = some (r1, r2)) ∧ Aside0 (kq ≤ kj4) ∧ Aside0 (wc.heap[gb600]? = some (.cells #[.int .i64 a2_0, .int .i64 a2_1, .int .i64 a2_2, .int .u64 a2_3, .int .u64 a2_4] 118 (0, 0))) ∧ Aside0 (wc.heap[gb601]? = some (.cells #[.int .u64 0, .int .u64 0] 74 (0, 0))) ∧ Aside0 (Below w.heap.size w wc))
    case first =>
     have H := HC27.out; clear HC27
     by_cases c28 : a2_0 = 2
     ·rw [if_pos c28] at H
      have c28b0 : (a2_0 == 2) = true := beq_iff_eq.mpr c28; have c28b1 : (a2_0 != 2) = false := bne_eq_false_iff_eq.mpr c28; clear c28
      (first | rw [c28b0] | (simp only [i64_w, i32_w]; rw [c28b0]) | skip)
      by_cases c29 : a2_2 = 0
      ·rw [if_pos c29] at H
       have c29b0 : (a2_2 == 0) = true := beq_iff_eq.mpr c29; have c29b1 : (a2_2 != 0) = false := bne_eq_false_iff_eq.mpr c29; clear c29; have H' := Aside0.mk H; clear H; have hnb30 := NB600_601.out; have hnc30 := NB601_600.out
       have hcz31 := fun i => blk_cell BK600.out i
       have hfz31 := fun i => blk_frozen BK600.out i
       have hcz32 := fun i => blk_cell BK601.out i
       have hfz32 := fun i => blk_frozen BK601.out i
       go_wp2
       repeat (go_quiet (fail); try go_wp2)
       go_meet
       case rel => exact ⟨_, ((a2_3 == 0 && (a2_4 == 0))), eqA, H', ⟨by have := HJ4.out; first | omega | exact Nat.le_refl _⟩, ⟨bkA BK600.out⟩, ⟨bkA BK601.out⟩, ⟨blA HB.out⟩⟩
      ·rw [if_neg c29] at H
       have c29b0 : (a2_2 == 0) = false := beq_eq_false_iff_ne.mpr c29; have c29b1 : (a2_2 != 0) = true := bne_iff_ne.mpr c29; have H' := Aside0.mk H; clear H; have hnb33 := NB600_601.out; have hnc33 := NB601_600.out
       have hcz34 := fun i => blk_cell BK600.out i
       have hfz34 := fun i => blk_frozen BK600.out i
       go_wp2
       repeat (go_quiet (fail); try go_wp2)
       go_meet
       case rel => exact ⟨_, (false), eqA, H', ⟨by have := HJ4.out; first | omega | exact Nat.le_refl _⟩, ⟨bkA BK600.out⟩, ⟨bkA BK601.out⟩, ⟨blA HB.out⟩⟩
     ·rw [if_neg c28] at H
      have c28b0 : (a2_0 == 2) = false := beq_eq_false_iff_ne.mpr c28; have c28b1 : (a2_0 != 2) = true := bne_iff_ne.mpr c28
      (first | rw [c28b0] | (simp only [i64_w, i32_w]; rw [c28b0]) | skip)
      have H' := Aside0.mk H; clear H; have hnb35 := NB600_601.out; have hnc35 := NB601_600.out
      have hcz36 := fun i => blk_cell BK600.out i
      have hfz36 := fun i => blk_frozen BK600.out i
      go_wp2
      repeat (go_quiet (fail); try go_wp2)
      go_meet
      case rel => exact ⟨_, (false), eqA, H', ⟨by have := HJ4.out; first | omega | exact Nat.le_refl _⟩, ⟨bkA BK600.out⟩, ⟨bkA BK601.out⟩, ⟨blA HB.out⟩⟩
    case rest =>
     clear HC27; (try clear c1); (try clear c2); (try clear p2); (try clear c3); (try clear c8); (try clear c10); (try clear c10b0); (try clear c10b1); (try clear c11); (try clear c11b0); (try clear c11b1); (try clear c12); (try clear c14); (try clear c16); (try clear c18); (try clear c20); (try clear c21); (try clear c24); (try clear c28); (try clear c28b0); (try clear c28b1); (try clear c29); (try clear c29b0); (try clear c29b1); (try clear c30); (try clear c33); (try clear c35); (try clear hcz13); (try clear hcz15); (try clear hcz17); (try clear hcz22); (try clear hcz25); (try clear hcz31); (try clear hcz32); (try clear hcz34); (try clear hcz36); (try clear hcz9); (try clear hfz13); (try clear hfz15); (try clear hfz17); (try clear hfz22); (try clear hfz25); (try clear hfz31); (try clear hfz32); (try clear hfz34); (try clear hfz36); (try clear hfz9); (try clear p2); obtain ⟨kq, x31_26, rfl, HA, HJ26, BK600, BK601, HB⟩ := hcut
     cases kq with
     | zero => exact absurd HA.out (by simp [expr_step.j1])
     | succ kj26 =>
      have H := HA.out; clear HA
      simp only [expr_step.j1] at H
      by_cases c37 : x31_26 = true
      ·subst c37
       have H1 : (if a2_1 < 0 then (some (0, 4)) else (if a2_1 ≥ a1 then (some (0, 4)) else (some (1, 0)))) = some (r1, r2) := by rw [if_pos rfl] at H; exact H
       clear H; have H := H1; clear H1
       by_cases c38 : a2_1 < 0
       ·rw [if_pos c38] at H
        have c38b0 : decide (a2_1 < 0) = true := decide_eq_true c38; clear c38
        simp only [Option.some.injEq, Prod.mk.injEq] at H
        obtain ⟨rfl, rfl⟩ := H; have hnb39 := NB600_601.out; have hnc39 := NB601_600.out
        have hcz40 := fun i => blk_cell BK600.out i
        have hfz40 := fun i => blk_frozen BK600.out i
        go_wp2
        repeat (go_quiet (fail); try go_wp2)
        go_ret2
        exact ⟨by first | rfl | (simp [errW_none, errW_some] <;> rfl) | (simp [*, errW_none, errW_some] <;> rfl), blA HB.out⟩
       ·rw [if_neg c38] at H
        have c38b0 : decide (a2_1 < 0) = false := decide_eq_false c38; clear c38
        by_cases c41 : a2_1 ≥ a1
        ·rw [if_pos c41] at H
         have c41b0 : decide (a1 ≤ a2_1) = true := decide_eq_true c41; clear c41
         simp only [Option.some.injEq, Prod.mk.injEq] at H
         obtain ⟨rfl, rfl⟩ := H; have hnb42 := NB600_601.out; have hnc42 := NB601_600.out
         have hcz43 := fun i => blk_cell BK600.out i
         have hfz43 := fun i => blk_frozen BK600.out i
         go_wp2
         repeat (go_quiet (fail); try go_wp2)
         go_ret2
         exact ⟨by first | rfl | (simp [errW_none, errW_some] <;> rfl) | (simp [*, errW_none, errW_some] <;> rfl), blA HB.out⟩
        ·rw [if_neg c41] at H
         have c41b0 : decide (a1 ≤ a2_1) = false := decide_eq_false c41; clear c41
         simp only [Option.some.injEq, Prod.mk.injEq] at H
         obtain ⟨rfl, rfl⟩ := H; have hnb44 := NB600_601.out; have hnc44 := NB601_600.out
         have hcz45 := fun i => blk_cell BK600.out i
         have hfz45 := fun i => blk_frozen BK600.out i
         go_wp2
         repeat (go_quiet (fail); try go_wp2)
         go_ret2
         exact ⟨by first | rfl | (simp [errW_none, errW_some] <;> rfl) | (simp [*, errW_none, errW_some] <;> rfl), blA HB.out⟩
      ·replace c37 := Bool.eq_false_iff.mpr c37; subst c37
       have H1 : (if a2_0 = 3 then (if (a2_3 == 0 && (a2_4 == 0)) = true then ((expr_ahead.f a2_0 a2_1 a2_2 a2_3 a2_4 (l3.length : Int)).bind fun t603 => (expr_step.j2 kj26 l3 t603 a2_0 a2_1 a2_2 a2_3 a2_4 0 0)) else (expr_step.j2 kj26 l3 false a2_0 a2_1 a2_2 a2_3 a2_4 0 0)) else (expr_step.j2 kj26 l3 false a2_0 a2_1 a2_2 a2_3 a2_4 0 0)) = some (r1, r2) := by rw [if_neg (show ¬ (false = true) by decide)] at H; exact H
       clear H; have H := H1; clear H1; have HC46 := Aside0.mk H; clear H
       go_upto_region 10 with (fail)
       repeat (go_quiet (fail); go_upto_region 10 with (fail))
       go_cut [55] (fun v55 wc => ∃ (kq : Nat) (x55_45 : Bool), v55 = .bool x55_45 ∧ Aside0 (expr_step.j2 kq l3 x55_45 a2_0 a2_1 a2_2 a2_3 a2_4 0 0 = some (r1, r2)) ∧ Aside0 (kq ≤ kj26) ∧ Aside0 (wc.heap[gb600]? = some (.cells #[.int .i64 a2_0, .int .i64 a2_1, .int .i64 a2_2, .int .u64 a2_3, .int .u64 a2_4] 118 (0, 0))) ∧ Aside0 (wc.heap[gb601]? = some (.cells #[.int .u64 0, .int .u64 0] 74 (0, 0))) ∧ Aside0 (Below w.heap.size w wc))
       case first =>
        have H := HC46.out; clear HC46
        by_cases c47 : a2_0 = 3
        ·rw [if_pos c47] at H
         have c47b0 : (a2_0 == 3) = true := beq_iff_eq.mpr c47; have c47b1 : (a2_0 != 3) = false := bne_eq_false_iff_eq.mpr c47; clear c47
         (first | rw [c47b0] | (simp only [i64_w, i32_w]; rw [c47b0]) | skip)
         by_cases c48 : (a2_3 == 0 && (a2_4 == 0)) = true
         ·rw [if_pos c48] at H
          have c48b0 : (a2_3 == 0 && (a2_4 == 0)) = true := c48
          (try (have c48b1 : decide (a2_3 = 0 && (a2_4 == 0)) = true := by simpa using c48))
          (try (have c48b2 : (a2_3 == 0 && (a2_4 == 0)) = true := by simpa using c48))
          clear c48; replace H := Option.bind_eq_some_iff.mp H; obtain ⟨t603, A490, H⟩ := H; replace H : (expr_step.j2 kj26 l3 t603 a2_0 a2_1 a2_2 a2_3 a2_4 0 0) = some (r1, r2) := H; have A49 := Aside0.mk A490; clear A490; have H' := Aside0.mk H; clear H; have hnb50 := NB600_601.out; have hnc50 := NB601_600.out
          have hcz51 := fun i => blk_cell BK600.out i
          have hfz51 := fun i => blk_frozen BK600.out i
          have hcz52 := fun i => blk_cell BK601.out i
          have hfz52 := fun i => blk_frozen BK601.out i
          go_wp2_with (first | (go_at_call 123; (with_reducible refine (expr_ahead.calls a2_0 a2_1 a2_2 a2_3 a2_4 (l3.length : Int) t603 _ A49.out).mono ?_); rintro e w53 ⟨rfl, hb⟩; have n0_ := Aside0.mk (blk_below (bkA BK600.out) hb); have n1_ := Aside0.mk (blk_below (bkA BK601.out) hb); have n2_ := Aside0.mk (below_step (blA HB.out) hb); clear BK600; clear BK601; clear HB; have BK600 := n0_; have BK601 := n1_; have HB := n2_; clear n0_ n1_ n2_; (try clear hb)))
          repeat (go_quiet (first | (go_at_call 123; (with_reducible refine (expr_ahead.calls a2_0 a2_1 a2_2 a2_3 a2_4 (l3.length : Int) t603 _ A49.out).mono ?_); rintro e w53 ⟨rfl, hb⟩; have n0_ := Aside0.mk (blk_below (bkA BK600.out) hb); have n1_ := Aside0.mk (blk_below (bkA BK601.out) hb); have n2_ := Aside0.mk (below_step (blA HB.out) hb); clear BK600; clear BK601; clear HB; have BK600 := n0_; have BK601 := n1_; have HB := n2_; clear n0_ n1_ n2_; (try clear hb))); try go_wp2_with (first | (go_at_call 123; (with_reducible refine (expr_ahead.calls a2_0 a2_1 a2_2 a2_3 a2_4 (l3.length : Int) t603 _ A49.out).mono ?_); rintro e w53 ⟨rfl, hb⟩; have n0_ := Aside0.mk (blk_below (bkA BK600.out) hb); have n1_ := Aside0.mk (blk_below (bkA BK601.out) hb); have n2_ := Aside0.mk (below_step (blA HB.out) hb); clear BK600; clear BK601; clear HB; have BK600 := n0_; have BK601 := n1_; have HB := n2_; clear n0_ n1_ n2_; (try clear hb))))
          go_meet
          case rel => exact ⟨_, (t603), eqA, H', ⟨by have := HJ4.out; have := HJ26.out; first | omega | exact Nat.le_refl _⟩, ⟨bkA BK600.out⟩, ⟨bkA BK601.out⟩, ⟨blA HB.out⟩⟩
         ·rw [if_neg c48] at H
          have c48b0 : (a2_3 == 0 && (a2_4 == 0)) = false := by simpa using c48
          (try (have c48b1 : decide (a2_3 = 0 && (a2_4 == 0)) = false := by simpa using c48))
          (try (have c48b2 : (a2_3 == 0 && (a2_4 == 0)) = false := by simpa using c48))
          (try (have c48b3 : ¬ (a2_3 = 0 && (a2_4 == 0)) := by simpa using c48))
          clear c48; have H' := Aside0.mk H; clear H; have hnb54 := NB600_601.out; have hnc54 := NB601_600.out
          have hcz55 := fun i => blk_cell BK600.out i
          have hfz55 := fun i => blk_frozen BK600.out i
          have hcz56 := fun i => blk_cell BK601.out i
          have hfz56 := fun i => blk_frozen BK601.out i
          go_wp2
          repeat (go_quiet (fail); try go_wp2)
          go_meet
          case rel => exact ⟨_, (false), eqA, H', ⟨by have := HJ4.out; have := HJ26.out; first | omega | exact Nat.le_refl _⟩, ⟨bkA BK600.out⟩, ⟨bkA BK601.out⟩, ⟨blA HB.out⟩⟩
        ·rw [if_neg c47] at H
         have c47b0 : (a2_0 == 3) = false := beq_eq_false_iff_ne.mpr c47; have c47b1 : (a2_0 != 3) = true := bne_iff_ne.mpr c47
         (first | rw [c47b0] | (simp only [i64_w, i32_w]; rw [c47b0]) | skip)
         have H' := Aside0.mk H; clear H; have hnb57 := NB600_601.out; have hnc57 := NB601_600.out
         have hcz58 := fun i => blk_cell BK600.out i
         have hfz58 := fun i => blk_frozen BK600.out i
         go_wp2
         repeat (go_quiet (fail); try go_wp2)
         go_meet
         case rel => exact ⟨_, (false), eqA, H', ⟨by have := HJ4.out; have := HJ26.out; first | omega | exact Nat.le_refl _⟩, ⟨bkA BK600.out⟩, ⟨bkA BK601.out⟩, ⟨blA HB.out⟩⟩
       case rest =>
        clear HC46; (try clear c1); (try clear c2); (try clear p2); (try clear c3); (try clear c4); (try clear c5); (try clear c8); (try clear c10); (try clear c10b0); (try clear c10b1); (try clear c11); (try clear c11b0); (try clear c11b1); (try clear c12); (try clear c14); (try clear c16); (try clear c18); (try clear c20); (try clear c21); (try clear c24); (try clear c28); (try clear c28b0); (try clear c28b1); (try clear c29); (try clear c29b0); (try clear c29b1); (try clear c30); (try clear c33); (try clear c35); (try clear c37); (try clear c38); (try clear c38b0); (try clear c39); (try clear c41); (try clear c41b0); (try clear c42); (try clear c44); (try clear c47); (try clear c47b0); (try clear c47b1); (try clear c48); (try clear c48b0); (try clear c48b1); (try clear c48b2); (try clear c50); (try clear c54); (try clear c57); (try clear hcz13); (try clear hcz15); (try clear hcz17); (try clear hcz22); (try clear hcz25); (try clear hcz31); (try clear hcz32); (try clear hcz34); (try clear hcz36); (try clear hcz40); (try clear hcz43); (try clear hcz45); (try clear hcz51); (try clear hcz52); (try clear hcz55); (try clear hcz56); (try clear hcz58); (try clear hcz9); (try clear hfz13); (try clear hfz15); (try clear hfz17); (try clear hfz22); (try clear hfz25); (try clear hfz31); (try clear hfz32); (try clear hfz34); (try clear hfz36); (try clear hfz40); (try clear hfz43); (try clear hfz45); (try clear hfz51); (try clear hfz52); (try clear hfz55); (try clear hfz56); (try clear hfz58); (try clear hfz9); (try clear p2); obtain ⟨kq, x55_45, rfl, HA, HJ45, BK600, BK601, HB⟩ := hcut
        cases kq with
        | zero => exact absurd HA.out (by simp [expr_step.j2])
        | succ kj45 =>
         have H := HA.out; clear HA
         simp only [expr_step.j2] at H
         by_cases c59 : x55_45 = true
         ·subst c59
          have H1 : (if 0 ≤ a2_1 then (if a2_1 < (l3.length : Int) then (if 0 ≤ a2_2 then (if a2_2 < (l3.length : Int) then (some (mx (rd l3 a2_1) (rd l3 a2_2), 0)) else (none)) else (none)) else (none)) else (none)) = some (r1, r2) := by rw [if_pos rfl] at H; exact H
          clear H; have H := H1; clear H1
          by_cases c60 : 0 ≤ a2_1
          ·rw [if_pos c60] at H
           have c60b0 : decide (0 ≤ a2_1) = true := decide_eq_true c60; clear c60
           by_cases c61 : a2_1 < (l3.length : Int)
           ·rw [if_pos c61] at H
            have c61b0 : decide (a2_1 < (l3.length : Int)) = true := decide_eq_true c61; clear c61
            by_cases c62 : 0 ≤ a2_2
            ·rw [if_pos c62] at H
             have c62b0 : decide (0 ≤ a2_2) = true := decide_eq_true c62; clear c62
             by_cases c63 : a2_2 < (l3.length : Int)
             ·rw [if_pos c63] at H
              have c63b0 : decide (a2_2 < (l3.length : Int)) = true := decide_eq_true c63; clear c63
              obtain ⟨ji64, hji64⟩ : ∃ j_ : Int, (mx (rd l3 a2_1) (rd l3 a2_2)) = j_ := ⟨_, rfl⟩
              replace H : (some (ji64, 0)) = some (r1, r2) := by first | (rw [hji64] at H; exact H) | (simp only [hji64] at H ⊢; exact H)
              have hji64_ : (if (rd l3 a2_1) < (rd l3 a2_2) then (rd l3 a2_2) else (rd l3 a2_1)) = ji64 := hji64
              simp only [Option.some.injEq, Prod.mk.injEq] at H
              obtain ⟨rfl, rfl⟩ := H; have hnb65 := NB600_601.out; have hnc65 := NB601_600.out
              have hcz66 := fun i => blk_cell BK600.out i
              have hfz66 := fun i => blk_frozen BK600.out i
              have p604 : 0 ≤ (a2_1 : Int) := of_decide_eq_true (by first | (with_reducible assumption) | assumption)
              have q604 : a2_1 < (l3.length : Int) := of_decide_eq_true (by first | (with_reducible assumption) | assumption)
              obtain ⟨ad604, e604, hx604_0⟩ := Kd.at_int HR3.out a2_1 p604 q604
              cases e604
              replace hx604_0 := (HB.out.cell (World.block_lt_of_cell? w _ hx604_0)).trans hx604_0; replace p604 := eq_true p604; replace q604 := eq_true q604
              have p605 : 0 ≤ (a2_2 : Int) := of_decide_eq_true (by first | (with_reducible assumption) | assumption)
              have q605 : a2_2 < (l3.length : Int) := of_decide_eq_true (by first | (with_reducible assumption) | assumption)
              obtain ⟨ad605, e605, hx605_0⟩ := Kd.at_int HR3.out a2_2 p605 q605
              obtain rfl : ad604 = ad605 := (by injection e605)
              replace hx605_0 := (HB.out.cell (World.block_lt_of_cell? w _ hx605_0)).trans hx605_0; replace p605 := eq_true p605; replace q605 := eq_true q605
              go_wp2
              repeat (go_quiet (fail); try go_wp2)
              go_ret2
              exact ⟨by first | rfl | (simp [errW_none, errW_some] <;> rfl) | (simp only [← hji64]; first | rfl | (simp [errW_none, errW_some] <;> rfl)) | (simp [*, errW_none, errW_some] <;> rfl), blA HB.out⟩
             ·rw [if_neg c63] at H
              exact absurd H (by simp)
            ·rw [if_neg c62] at H
             exact absurd H (by simp)
           ·rw [if_neg c61] at H
            exact absurd H (by simp)
          ·rw [if_neg c60] at H
           exact absurd H (by simp)
         ·replace c59 := Bool.eq_false_iff.mpr c59; subst c59
          have H1 : (if a2_0 = 4 then (if (a2_3 == 0 && (a2_4 == 0)) = true then ((expr_ahead.f a2_0 a2_1 a2_2 a2_3 a2_4 (l3.length : Int)).bind fun t606 => (if t606 = true then (if 0 ≤ a2_1 then (if a2_1 < (l3.length : Int) then (if 0 ≤ a2_2 then (if a2_2 < (l3.length : Int) then (some (wrap64 ((rd l3 a2_1) + (rd l3 a2_2)), 0)) else (none)) else (none)) else (none)) else (none)) else (some (0, 3)))) else (some (0, 3))) else (some (0, 3))) = some (r1, r2) := by rw [if_neg (show ¬ (false = true) by decide)] at H; exact H
          clear H; have H := H1; clear H1
          by_cases c67 : a2_0 = 4
          ·rw [if_pos c67] at H
           have c67b0 : (a2_0 == 4) = true := beq_iff_eq.mpr c67; have c67b1 : (a2_0 != 4) = false := bne_eq_false_iff_eq.mpr c67; clear c67
           by_cases c68 : (a2_3 == 0 && (a2_4 == 0)) = true
           ·rw [if_pos c68] at H
            have c68b0 : (a2_3 == 0 && (a2_4 == 0)) = true := c68
            (try (have c68b1 : decide (a2_3 = 0 && (a2_4 == 0)) = true := by simpa using c68))
            (try (have c68b2 : (a2_3 == 0 && (a2_4 == 0)) = true := by simpa using c68))
            clear c68; replace H := Option.bind_eq_some_iff.mp H; obtain ⟨t606, A690, H⟩ := H
            replace H : (if t606 = true then (if 0 ≤ a2_1 then (if a2_1 < (l3.length : Int) then (if 0 ≤ a2_2 then (if a2_2 < (l3.length : Int) then (some (wrap64 ((rd l3 a2_1) + (rd l3 a2_2)), 0)) else (none)) else (none)) else (none)) else (none)) else (some (0, 3))) = some (r1, r2) := H
            have A69 := Aside0.mk A690; clear A690
            by_cases c70 : t606 = true
            ·subst c70
             have H1 : (if 0 ≤ a2_1 then (if a2_1 < (l3.length : Int) then (if 0 ≤ a2_2 then (if a2_2 < (l3.length : Int) then (some (wrap64 ((rd l3 a2_1) + (rd l3 a2_2)), 0)) else (none)) else (none)) else (none)) else (none)) = some (r1, r2) := by rw [if_pos rfl] at H; exact H
             clear H; have H := H1; clear H1
             by_cases c71 : 0 ≤ a2_1
             ·rw [if_pos c71] at H
              have c71b0 : decide (0 ≤ a2_1) = true := decide_eq_true c71; clear c71
              by_cases c72 : a2_1 < (l3.length : Int)
              ·rw [if_pos c72] at H
               have c72b0 : decide (a2_1 < (l3.length : Int)) = true := decide_eq_true c72; clear c72
               by_cases c73 : 0 ≤ a2_2
               ·rw [if_pos c73] at H
                have c73b0 : decide (0 ≤ a2_2) = true := decide_eq_true c73; clear c73
                by_cases c74 : a2_2 < (l3.length : Int)
                ·rw [if_pos c74] at H
                 have c74b0 : decide (a2_2 < (l3.length : Int)) = true := decide_eq_true c74; clear c74
                 simp only [Option.some.injEq, Prod.mk.injEq] at H
                 obtain ⟨rfl, rfl⟩ := H; have hnb75 := NB600_601.out; have hnc75 := NB601_600.out
                 have hcz76 := fun i => blk_cell BK600.out i
                 have hfz76 := fun i => blk_frozen BK600.out i
                 have hcz77 := fun i => blk_cell BK601.out i
                 have hfz77 := fun i => blk_frozen BK601.out i
                 go_wp2_with (first | (go_at_call 123; (with_reducible refine (expr_ahead.calls a2_0 a2_1 a2_2 a2_3 a2_4 (l3.length : Int) true _ A69.out).mono ?_); rintro e w78 ⟨rfl, hb⟩; have n0_ := Aside0.mk (blk_below (bkA BK600.out) hb); have n1_ := Aside0.mk (blk_below (bkA BK601.out) hb); have n2_ := Aside0.mk (below_step (blA HB.out) hb); clear BK600; clear BK601; clear HB; have BK600 := n0_; have BK601 := n1_; have HB := n2_; clear n0_ n1_ n2_; (try clear hb); have hcz79 := fun i => blk_cell BK600.out i; have hfz79 := fun i => blk_frozen BK600.out i; have p607 : 0 ≤ (a2_1 : Int) := of_decide_eq_true (by first | (with_reducible assumption) | assumption); have q607 : a2_1 < (l3.length : Int) := of_decide_eq_true (by first | (with_reducible assumption) | assumption); obtain ⟨ad607, e607, hx607_0⟩ := Kd.at_int HR3.out a2_1 p607 q607; cases e607; replace hx607_0 := (HB.out.cell (World.block_lt_of_cell? w _ hx607_0)).trans hx607_0; replace p607 := eq_true p607; replace q607 := eq_true q607; have p608 : 0 ≤ (a2_2 : Int) := of_decide_eq_true (by first | (with_reducible assumption) | assumption); have q608 : a2_2 < (l3.length : Int) := of_decide_eq_true (by first | (with_reducible assumption) | assumption); obtain ⟨ad608, e608, hx608_0⟩ := Kd.at_int HR3.out a2_2 p608 q608; obtain rfl : ad607 = ad608 := (by injection e608); replace hx608_0 := (HB.out.cell (World.block_lt_of_cell? w _ hx608_0)).trans hx608_0; replace p608 := eq_true p608; replace q608 := eq_true q608))
                 repeat (go_quiet (first | (go_at_call 123; (with_reducible refine (expr_ahead.calls a2_0 a2_1 a2_2 a2_3 a2_4 (l3.length : Int) true _ A69.out).mono ?_); rintro e w78 ⟨rfl, hb⟩; have n0_ := Aside0.mk (blk_below (bkA BK600.out) hb); have n1_ := Aside0.mk (blk_below (bkA BK601.out) hb); have n2_ := Aside0.mk (below_step (blA HB.out) hb); clear BK600; clear BK601; clear HB; have BK600 := n0_; have BK601 := n1_; have HB := n2_; clear n0_ n1_ n2_; (try clear hb); have hcz79 := fun i => blk_cell BK600.out i; have hfz79 := fun i => blk_frozen BK600.out i; have p607 : 0 ≤ (a2_1 : Int) := of_decide_eq_true (by first | (with_reducible assumption) | assumption); have q607 : a2_1 < (l3.length : Int) := of_decide_eq_true (by first | (with_reducible assumption) | assumption); obtain ⟨ad607, e607, hx607_0⟩ := Kd.at_int HR3.out a2_1 p607 q607; cases e607; replace hx607_0 := (HB.out.cell (World.block_lt_of_cell? w _ hx607_0)).trans hx607_0; replace p607 := eq_true p607; replace q607 := eq_true q607; have p608 : 0 ≤ (a2_2 : Int) := of_decide_eq_true (by first | (with_reducible assumption) | assumption); have q608 : a2_2 < (l3.length : Int) := of_decide_eq_true (by first | (with_reducible assumption) | assumption); obtain ⟨ad608, e608, hx608_0⟩ := Kd.at_int HR3.out a2_2 p608 q608; obtain rfl : ad607 = ad608 := (by injection e608); replace hx608_0 := (HB.out.cell (World.block_lt_of_cell? w _ hx608_0)).trans hx608_0; replace p608 := eq_true p608; replace q608 := eq_true q608)); try go_wp2_with (first | (go_at_call 123; (with_reducible refine (expr_ahead.calls a2_0 a2_1 a2_2 a2_3 a2_4 (l3.length : Int) true _ A69.out).mono ?_); rintro e w78 ⟨rfl, hb⟩; have n0_ := Aside0.mk (blk_below (bkA BK600.out) hb); have n1_ := Aside0.mk (blk_below (bkA BK601.out) hb); have n2_ := Aside0.mk (below_step (blA HB.out) hb); clear BK600; clear BK601; clear HB; have BK600 := n0_; have BK601 := n1_; have HB := n2_; clear n0_ n1_ n2_; (try clear hb); have hcz79 := fun i => blk_cell BK600.out i; have hfz79 := fun i => blk_frozen BK600.out i; have p607 : 0 ≤ (a2_1 : Int) := of_decide_eq_true (by first | (with_reducible assumption) | assumption); have q607 : a2_1 < (l3.length : Int) := of_decide_eq_true (by first | (with_reducible assumption) | assumption); obtain ⟨ad607, e607, hx607_0⟩ := Kd.at_int HR3.out a2_1 p607 q607; cases e607; replace hx607_0 := (HB.out.cell (World.block_lt_of_cell? w _ hx607_0)).trans hx607_0; replace p607 := eq_true p607; replace q607 := eq_true q607; have p608 : 0 ≤ (a2_2 : Int) := of_decide_eq_true (by first | (with_reducible assumption) | assumption); have q608 : a2_2 < (l3.length : Int) := of_decide_eq_true (by first | (with_reducible assumption) | assumption); obtain ⟨ad608, e608, hx608_0⟩ := Kd.at_int HR3.out a2_2 p608 q608; obtain rfl : ad607 = ad608 := (by injection e608); replace hx608_0 := (HB.out.cell (World.block_lt_of_cell? w _ hx608_0)).trans hx608_0; replace p608 := eq_true p608; replace q608 := eq_true q608)))
                 go_ret2
                 exact ⟨by first | rfl | (simp [errW_none, errW_some] <;> rfl) | (simp [*, errW_none, errW_some] <;> rfl), blA HB.out⟩
                ·rw [if_neg c74] at H
                 exact absurd H (by simp)
               ·rw [if_neg c73] at H
                exact absurd H (by simp)
              ·rw [if_neg c72] at H
               exact absurd H (by simp)
             ·rw [if_neg c71] at H
              exact absurd H (by simp)
            ·replace c70 := Bool.eq_false_iff.mpr c70; subst c70
             have H1 : (some (0, 3)) = some (r1, r2) := by rw [if_neg (show ¬ (false = true) by decide)] at H; exact H
             clear H; have H := H1; clear H1
             simp only [Option.some.injEq, Prod.mk.injEq] at H
             obtain ⟨rfl, rfl⟩ := H; have hnb80 := NB600_601.out; have hnc80 := NB601_600.out
             have hcz81 := fun i => blk_cell BK600.out i
             have hfz81 := fun i => blk_frozen BK600.out i
             have hcz82 := fun i => blk_cell BK601.out i
             have hfz82 := fun i => blk_frozen BK601.out i
             go_wp2_with (first | (go_at_call 123; (with_reducible refine (expr_ahead.calls a2_0 a2_1 a2_2 a2_3 a2_4 (l3.length : Int) false _ A69.out).mono ?_); rintro e w83 ⟨rfl, hb⟩; have n0_ := Aside0.mk (blk_below (bkA BK600.out) hb); have n1_ := Aside0.mk (blk_below (bkA BK601.out) hb); have n2_ := Aside0.mk (below_step (blA HB.out) hb); clear BK600; clear BK601; clear HB; have BK600 := n0_; have BK601 := n1_; have HB := n2_; clear n0_ n1_ n2_; (try clear hb)))
             repeat (go_quiet (first | (go_at_call 123; (with_reducible refine (expr_ahead.calls a2_0 a2_1 a2_2 a2_3 a2_4 (l3.length : Int) false _ A69.out).mono ?_); rintro e w83 ⟨rfl, hb⟩; have n0_ := Aside0.mk (blk_below (bkA BK600.out) hb); have n1_ := Aside0.mk (blk_below (bkA BK601.out) hb); have n2_ := Aside0.mk (below_step (blA HB.out) hb); clear BK600; clear BK601; clear HB; have BK600 := n0_; have BK601 := n1_; have HB := n2_; clear n0_ n1_ n2_; (try clear hb))); try go_wp2_with (first | (go_at_call 123; (with_reducible refine (expr_ahead.calls a2_0 a2_1 a2_2 a2_3 a2_4 (l3.length : Int) false _ A69.out).mono ?_); rintro e w83 ⟨rfl, hb⟩; have n0_ := Aside0.mk (blk_below (bkA BK600.out) hb); have n1_ := Aside0.mk (blk_below (bkA BK601.out) hb); have n2_ := Aside0.mk (below_step (blA HB.out) hb); clear BK600; clear BK601; clear HB; have BK600 := n0_; have BK601 := n1_; have HB := n2_; clear n0_ n1_ n2_; (try clear hb))))
             go_ret2
             exact ⟨by first | rfl | (simp [errW_none, errW_some] <;> rfl) | (simp [*, errW_none, errW_some] <;> rfl), blA HB.out⟩
           ·rw [if_neg c68] at H
            have c68b0 : (a2_3 == 0 && (a2_4 == 0)) = false := by simpa using c68
            (try (have c68b1 : decide (a2_3 = 0 && (a2_4 == 0)) = false := by simpa using c68))
            (try (have c68b2 : (a2_3 == 0 && (a2_4 == 0)) = false := by simpa using c68))
            (try (have c68b3 : ¬ (a2_3 = 0 && (a2_4 == 0)) := by simpa using c68))
            clear c68
            simp only [Option.some.injEq, Prod.mk.injEq] at H
            obtain ⟨rfl, rfl⟩ := H; have hnb84 := NB600_601.out; have hnc84 := NB601_600.out
            have hcz85 := fun i => blk_cell BK600.out i
            have hfz85 := fun i => blk_frozen BK600.out i
            have hcz86 := fun i => blk_cell BK601.out i
            have hfz86 := fun i => blk_frozen BK601.out i
            go_wp2
            repeat (go_quiet (fail); try go_wp2)
            go_ret2
            exact ⟨by first | rfl | (simp [errW_none, errW_some] <;> rfl) | (simp [*, errW_none, errW_some] <;> rfl), blA HB.out⟩
          ·rw [if_neg c67] at H
           have c67b0 : (a2_0 == 4) = false := beq_eq_false_iff_ne.mpr c67; have c67b1 : (a2_0 != 4) = true := bne_iff_ne.mpr c67
           simp only [Option.some.injEq, Prod.mk.injEq] at H
           obtain ⟨rfl, rfl⟩ := H; have hnb87 := NB600_601.out; have hnc87 := NB601_600.out
           have hcz88 := fun i => blk_cell BK600.out i
           have hfz88 := fun i => blk_frozen BK600.out i
           go_wp2
           repeat (go_quiet (fail); try go_wp2)
           go_ret2
           exact ⟨by first | rfl | (simp [errW_none, errW_some] <;> rfl) | (simp [*, errW_none, errW_some] <;> rfl), blA HB.out⟩
end Go.Proofs.Ythiiodgpdoljoaa.PLc
namespace Go.Proofs.Ythiiodgpdoljoaa.PLc
open Go.RowKit Go.Proofs.YthiiodgpdoljoaaW.PrintWords Go.Proofs.YthiiodgpdoljoaaW.PrintLast Go.Proofs.YthiiodgpdoljoaaW.PrintMore
attribute [local go_sem] max2_int min2_int max_two min_two max_three min_three max_four min_four   -- for this text's walks alone
set_option linter.unusedVariables false
set_option linter.unusedSimpArgs false
/-! ### expr_degrees: function 74 -/
mutual
def expr_degrees.j0 : Nat → Int → Int → List (S118) → Bool → Option (List Int × Int)
 | 0, _, _, _, _ => none
 | k + 1, x0, x1, x2, x13 => if x13 = true then (some (([] : List Int), 1)) else (if (x2.length : Int) = 0 then (some (([] : List Int), 3)) else (if (x2.length : Int) > 200 then (some (([] : List Int), 2)) else (expr_degrees.l0 k x0 x1 ([] : List Int) x2 (x2.length : Int) 0)))
def expr_degrees.l0 : Nat → Int → Int → List Int → List (S118) → Int → Int → Option (List Int × Int)
 | 0, _, _, _, _, _, _ => none
 | k + 1, x0, x1, x8, x29, x30, x31 => if x31 < x30 then (if 0 ≤ x31 then (if x31 < (x29.length : Int) then ((expr_step.f k x0 x1 ((rd_T118 x29 x31).f0) ((rd_T118 x29 x31).f1) ((rd_T118 x29 x31).f2) ((rd_T118 x29 x31).f3.f0) ((rd_T118 x29 x31).f3.f1) x8).bind fun bt612 => (if bt612.2 = 0 then (expr_degrees.j2 k x0 x1 x8 bt612.1 bt612.2 x29 x30 x31 (decide (bt612.1 > 8))) else (expr_degrees.j2 k x0 x1 x8 bt612.1 bt612.2 x29 x30 x31 false))) else (none)) else (none)) else (some (x8, 0))
def expr_degrees.j2 : Nat → Int → Int → List Int → Int → Int → List (S118) → Int → Int → Bool → Option (List Int × Int)
 | 0, _, _, _, _, _, _, _, _, _ => none
 | k + 1, x0, x1, x8, x11, x12, x29, x30, x31, x48 => if x48 = true then (if 7 = 0 then (if x8.length < 17592186044416 then (expr_degrees.l0 k x0 x1 (x8 ++ [x11]) x29 x30 (wrap64 (x31 + 1))) else (none)) else (some (([] : List Int), 7))) else (if x12 = 0 then (if x8.length < 17592186044416 then (expr_degrees.l0 k x0 x1 (x8 ++ [x11]) x29 x30 (wrap64 (x31 + 1))) else (none)) else (some (([] : List Int), x12)))
end
def expr_degrees.f (k : Nat) (a0 : Int) (a1 : Int) (l2 : List (S118)) : Option (List Int × Int) := (octet_Wide.f k a0).bind fun t609 => (if t609 = 0 then (expr_degrees.j0 k a0 a1 l2 true) else (expr_degrees.j0 k a0 a1 l2 (decide (a1 < 0))))
theorem expr_degrees.mono_l : ∀ k, (∀ y0 y1 y2 y3, LeO (expr_degrees.j0 k y0 y1 y2 y3) (expr_degrees.j0 (k + 1) y0 y1 y2 y3)) ∧ (∀ y0 y1 y2 y3 y4 y5, LeO (expr_degrees.l0 k y0 y1 y2 y3 y4 y5) (expr_degrees.l0 (k + 1) y0 y1 y2 y3 y4 y5)) ∧ (∀ y0 y1 y2 y3 y4 y5 y6 y7 y8, LeO (expr_degrees.j2 k y0 y1 y2 y3 y4 y5 y6 y7 y8) (expr_degrees.j2 (k + 1) y0 y1 y2 y3 y4 y5 y6 y7 y8))
 | 0 => ⟨fun _ _ _ _ r h => by simp [expr_degrees.j0] at h, fun _ _ _ _ _ _ r h => by simp [expr_degrees.l0] at h, fun _ _ _ _ _ _ _ _ _ r h => by simp [expr_degrees.j2] at h⟩
 | k + 1 => by
  obtain ⟨ih0, ih1, ih2⟩ := expr_degrees.mono_l k
  refine ⟨?_, ?_, ?_⟩
  ·intro y0 y1 y2 y3
   unfold expr_degrees.j0
   repeat' first
   | (with_reducible exact ih0 _ _ _ _)
   | (with_reducible exact ih1 _ _ _ _ _ _)
   | (with_reducible exact ih2 _ _ _ _ _ _ _ _ _)
   | (with_reducible exact expr_step.mono _ _ _ _ _ _ _ _ _)
   | (with_reducible exact octet_Wide.mono _ _)
   | (with_reducible exact LeO.refl _)
   | (with_reducible exact LeO.none _)
   | (with_reducible refine LeO.ite ?_ ?_)
   | (with_reducible refine LeO.bind ?_ (fun _ => ?_))
   | exact ih0 _ _ _ _
   | exact ih1 _ _ _ _ _ _
   | exact ih2 _ _ _ _ _ _ _ _ _
   | exact expr_step.mono _ _ _ _ _ _ _ _ _
   | exact octet_Wide.mono _ _
   | exact LeO.none _
   | refine LeO.ite ?_ ?_
   | refine LeO.bind ?_ (fun _ => ?_)
  ·intro y0 y1 y2 y3 y4 y5
   unfold expr_degrees.l0
   repeat' first
   | (with_reducible exact ih0 _ _ _ _)
   | (with_reducible exact ih1 _ _ _ _ _ _)
   | (with_reducible exact ih2 _ _ _ _ _ _ _ _ _)
   | (with_reducible exact expr_step.mono _ _ _ _ _ _ _ _ _)
   | (with_reducible exact octet_Wide.mono _ _)
   | (with_reducible exact LeO.refl _)
   | (with_reducible exact LeO.none _)
   | (with_reducible refine LeO.ite ?_ ?_)
   | (with_reducible refine LeO.bind ?_ (fun _ => ?_))
   | exact ih0 _ _ _ _
   | exact ih1 _ _ _ _ _ _
   | exact ih2 _ _ _ _ _ _ _ _ _
   | exact expr_step.mono _ _ _ _ _ _ _ _ _
   | exact octet_Wide.mono _ _
   | exact LeO.none _
   | refine LeO.ite ?_ ?_
   | refine LeO.bind ?_ (fun _ => ?_)
  ·intro y0 y1 y2 y3 y4 y5 y6 y7 y8
   unfold expr_degrees.j2
   repeat' first
   | (with_reducible exact ih0 _ _ _ _)
   | (with_reducible exact ih1 _ _ _ _ _ _)
   | (with_reducible exact ih2 _ _ _ _ _ _ _ _ _)
   | (with_reducible exact expr_step.mono _ _ _ _ _ _ _ _ _)
   | (with_reducible exact octet_Wide.mono _ _)
   | (with_reducible exact LeO.refl _)
   | (with_reducible exact LeO.none _)
   | (with_reducible refine LeO.ite ?_ ?_)
   | (with_reducible refine LeO.bind ?_ (fun _ => ?_))
   | exact ih0 _ _ _ _
   | exact ih1 _ _ _ _ _ _
   | exact ih2 _ _ _ _ _ _ _ _ _
   | exact expr_step.mono _ _ _ _ _ _ _ _ _
   | exact octet_Wide.mono _ _
   | exact LeO.none _
   | refine LeO.ite ?_ ?_
   | refine LeO.bind ?_ (fun _ => ?_)
theorem expr_degrees.mono : ∀ a0 a1 a2 k, LeO (expr_degrees.f k a0 a1 a2) (expr_degrees.f (k + 1) a0 a1 a2) := by
 intro a0 a1 a2 k
 obtain ⟨ih0, ih1, ih2⟩ := expr_degrees.mono_l k
 unfold expr_degrees.f
 repeat' first
   | (with_reducible exact ih0 _ _ _ _)
   | (with_reducible exact ih1 _ _ _ _ _ _)
   | (with_reducible exact ih2 _ _ _ _ _ _ _ _ _)
   | (with_reducible exact expr_step.mono _ _ _ _ _ _ _ _ _)
   | (with_reducible exact octet_Wide.mono _ _)
   | (with_reducible exact LeO.refl _)
   | (with_reducible exact LeO.none _)
   | (with_reducible refine LeO.ite ?_ ?_)
   | (with_reducible refine LeO.bind ?_ (fun _ => ?_))
   | exact ih0 _ _ _ _
   | exact ih1 _ _ _ _ _ _
   | exact ih2 _ _ _ _ _ _ _ _ _
   | exact expr_step.mono _ _ _ _ _ _ _ _ _
   | exact octet_Wide.mono _ _
   | exact LeO.none _
   | refine LeO.ite ?_ ?_
   | refine LeO.bind ?_ (fun _ => ?_)
set_option maxHeartbeats 8000000 in
set_option maxRecDepth 100000 in
theorem expr_degrees.calls (k : Nat) (a0 : Int) (a1 : Int) (A2 : Option Addr) (c2 : Nat) (l2 : List (S118)) (r1 : List Int) (r2 : Int) (w : World) (hr2 : Kd.C k118 w A2 l2.length l2) (hc2 : l2.length ≤ c2) (h : expr_degrees.f k a0 a1 l2 = some (r1, r2)) :
  Calls Try.prog 74 #[.int .i64 a0, .int .i64 a1, .slice A2 l2.length c2] w fun e w' => ∃ v0_ : Value, e = .returned (.tuple #[v0_, .int .i64 r2]) ∧ Kd.R (Kd.int .i64) 3 w' w.heap.size (fun _ => True) v0_ r1 ∧ Below w.heap.size w w' := by
 have hu118 := Try.underlying118; have HR2 := Aside0.mk hr2; have HC2 := Aside0.mk hc2; clear hr2 hc2; have HB := Aside0.mk (Below.refl w.heap.size w)
 have H : ((octet_Wide.f k a0).bind fun t609 => (if t609 = 0 then (expr_degrees.j0 k a0 a1 l2 true) else (expr_degrees.j0 k a0 a1 l2 (decide (a1 < 0))))) = some (r1, r2) := h
 clear h; have HC4 := Aside0.mk H; clear H
 go_enter Try.func74, Try.ntmps74
 go_upto_region 1 with (fail)
 go_cut [13] (fun v13 wc => ∃ (kq : Nat) (x13_3 : Bool), v13 = .bool x13_3 ∧ Aside0 (expr_degrees.j0 kq a0 a1 l2 x13_3 = some (r1, r2)) ∧ Aside0 (kq ≤ k) ∧ Aside0 (Below w.heap.size w wc))
 case first =>
  have H := HC4.out; clear HC4; replace H := Option.bind_eq_some_iff.mp H; obtain ⟨t609, A50, H⟩ := H
  replace H : (if t609 = 0 then (expr_degrees.j0 k a0 a1 l2 true) else (expr_degrees.j0 k a0 a1 l2 (decide (a1 < 0)))) = some (r1, r2) := H
  have A5 := Aside0.mk A50; clear A50
  by_cases c6 : t609 = 0
  ·rw [if_pos c6] at H
   have c6b0 : (t609 == 0) = true := beq_iff_eq.mpr c6; have c6b1 : (t609 != 0) = false := bne_eq_false_iff_eq.mpr c6; clear c6
   (first | rw [c6b0] | (simp only [i64_w, i32_w]; rw [c6b0]) | skip)
   have H' := Aside0.mk H; clear H
   go_wp2_with (first | ((with_reducible refine gate_callee (f := 99) rfl ?_); refine goesL_ (some 15) rfl rfl Try.func99 (by kernel_rfl) rfl #[.int .i64 a0] rfl gsA ?_; (with_reducible refine (octet_Wide.calls k a0 t609 _ A5.out).mono ?_); rintro e w' ⟨rfl, ⟨nd, rfl⟩⟩; refine ⟨_, rfl, ?_⟩))
   go_meet
   case rel => exact ⟨_, (true), eqA, H', ⟨omA⟩, ⟨blA HB.out⟩⟩
  ·rw [if_neg c6] at H
   have c6b0 : (t609 == 0) = false := beq_eq_false_iff_ne.mpr c6; have c6b1 : (t609 != 0) = true := bne_iff_ne.mpr c6
   (first | rw [c6b0] | (simp only [i64_w, i32_w]; rw [c6b0]) | skip)
   have H' := Aside0.mk H; clear H
   go_wp2_with (first | ((with_reducible refine gate_callee (f := 99) rfl ?_); refine goesL_ (some 15) rfl rfl Try.func99 (by kernel_rfl) rfl #[.int .i64 a0] rfl gsA ?_; (with_reducible refine (octet_Wide.calls k a0 t609 _ A5.out).mono ?_); rintro e w' ⟨rfl, ⟨nd, rfl⟩⟩; refine ⟨_, rfl, ?_⟩))
   go_meet
   case rel => exact ⟨_, (decide (a1 < 0)), eqA, H', ⟨omA⟩, ⟨blA HB.out⟩⟩
 case rest =>
  clear HC4; (try clear c2); (try clear p2); (try clear c6); (try clear c6b0); (try clear c6b1); obtain ⟨kq, x13_3, rfl, HA, HJ3, HB⟩ := hcut
  cases kq with
  | zero => exact absurd HA.out (by simp [expr_degrees.j0])
  | succ kj3 =>
   have H := HA.out; clear HA
   simp only [expr_degrees.j0] at H
   by_cases c7 : x13_3 = true
   ·subst c7
    have H1 : (some (([] : List Int), 1)) = some (r1, r2) := by rw [if_pos rfl] at H; exact H
    clear H; have H := H1; clear H1
    simp only [Option.some.injEq, Prod.mk.injEq] at H
    obtain ⟨rfl, rfl⟩ := H
    go_wp2
    go_ret2
    exact ⟨_, by first | rfl | (simp [errW_none, errW_some] <;> rfl) | (simp [*, errW_none, errW_some] <;> rfl), by first | exact Kd.R_nil _ _ _ _ _ | exact Kd.N_nil _ _ _ _ _ | exact Kd.V_nil _ _ _ _ _ | exact Kd.Q_nil _ _ _ _ _ | exact Kd.S_nil _ _ _ _ _, blA HB.out⟩
   ·replace c7 := Bool.eq_false_iff.mpr c7; subst c7
    have H1 : (if (l2.length : Int) = 0 then (some (([] : List Int), 3)) else (if (l2.length : Int) > 200 then (some (([] : List Int), 2)) else (expr_degrees.l0 kj3 a0 a1 ([] : List Int) l2 (l2.length : Int) 0))) = some (r1, r2) := by rw [if_neg (show ¬ (false = true) by decide)] at H; exact H
    clear H; have H := H1; clear H1
    by_cases c8 : (l2.length : Int) = 0
    ·rw [if_pos c8] at H
     have c8b0 : ((l2.length : Int) == 0) = true := beq_iff_eq.mpr c8; have c8b1 : ((l2.length : Int) != 0) = false := bne_eq_false_iff_eq.mpr c8; clear c8
     simp only [Option.some.injEq, Prod.mk.injEq] at H
     obtain ⟨rfl, rfl⟩ := H
     go_wp2
     go_ret2
     exact ⟨_, by first | rfl | (simp [errW_none, errW_some] <;> rfl) | (simp [*, errW_none, errW_some] <;> rfl), by first | exact Kd.R_nil _ _ _ _ _ | exact Kd.N_nil _ _ _ _ _ | exact Kd.V_nil _ _ _ _ _ | exact Kd.Q_nil _ _ _ _ _ | exact Kd.S_nil _ _ _ _ _, blA HB.out⟩
    ·rw [if_neg c8] at H
     have c8b0 : ((l2.length : Int) == 0) = false := beq_eq_false_iff_ne.mpr c8; have c8b1 : ((l2.length : Int) != 0) = true := bne_iff_ne.mpr c8
     have c8b2 : ¬ (l2 = []) := fun h_ => c8 (by rw [h_]; rfl)
     by_cases c9 : (l2.length : Int) > 200
     ·rw [if_pos c9] at H
      have c9b0 : decide (200 < (l2.length : Int)) = true := decide_eq_true c9
      have c9b1 : decide (200 < l2.length) = true := decide_eq_true (by omega)
      clear c9
      simp only [Option.some.injEq, Prod.mk.injEq] at H
      obtain ⟨rfl, rfl⟩ := H
      go_wp2
      go_ret2
      exact ⟨_, by first | rfl | (simp [errW_none, errW_some] <;> rfl) | (simp [*, errW_none, errW_some] <;> rfl), by first | exact Kd.R_nil _ _ _ _ _ | exact Kd.N_nil _ _ _ _ _ | exact Kd.V_nil _ _ _ _ _ | exact Kd.Q_nil _ _ _ _ _ | exact Kd.S_nil _ _ _ _ _, blA HB.out⟩
     ·rw [if_neg c9] at H
      have c9b0 : decide (200 < (l2.length : Int)) = false := decide_eq_false c9
      have c9b1 : decide (200 < l2.length) = false := decide_eq_false (by omega)
      clear c9; have H' := Aside0.mk H; clear H
      go_wp2
      go_loopg [8, 31] kj3 (fun kq v8 v31 w' => ∃ (x8_2 : List Int) (x31_2 : Int), v31 = .int .i64 x31_2 ∧ Aside0 (expr_degrees.l0 kq a0 a1 x8_2 l2 (l2.length : Int) x31_2 = some (r1, r2)) ∧ Aside0 (kq ≤ kj3) ∧ Aside0 (Kd.R (Kd.int .i64) 3 w' w.heap.size (fun _ => True) v8 x8_2) ∧ Aside0 (Below w.heap.size w w'))
      case atStart => exact ⟨(([] : List Int)), (0), eqA, H', ⟨Nat.le_refl _⟩, ⟨by first | exact Kd.R_nil _ _ _ _ _ | exact Kd.N_nil _ _ _ _ _ | exact Kd.V_nil _ _ _ _ _ | exact Kd.Q_nil _ _ _ _ _ | exact Kd.S_nil _ _ _ _ _⟩, ⟨blA HB.out⟩⟩
      case round =>
       clear H'; (try clear c2); (try clear p2); (try clear c6); (try clear c6b0); (try clear c6b1); (try clear c7); (try clear c8); (try clear c8b0); (try clear c8b1); (try clear c8b2); (try clear c9); (try clear c9b0); (try clear c9b1); (try clear p2); obtain ⟨x8_2, x31_2, rfl, HA, HK2, HO_8, HB⟩ := hrel
       cases gk with
       | zero => exact absurd HA.out (by simp [expr_degrees.l0])
       | succ k2 =>
        have H := HA.out; clear HA
        simp only [expr_degrees.l0] at H
        by_cases c10 : x31_2 < (l2.length : Int)
        ·rw [if_pos c10] at H
         have c10b0 : decide (x31_2 < (l2.length : Int)) = true := decide_eq_true c10; clear c10
         by_cases c11 : 0 ≤ x31_2
         ·rw [if_pos c11] at H
          have c11b0 : decide (0 ≤ x31_2) = true := decide_eq_true c11; clear c11
          by_cases c12 : x31_2 < (l2.length : Int)
          ·rw [if_pos c12] at H
           have c12b0 : decide (x31_2 < (l2.length : Int)) = true := decide_eq_true c12; clear c12; replace H := Option.bind_eq_some_iff.mp H
           obtain ⟨⟨t612, t613⟩, A130, H⟩ := H
           replace H : (if t613 = 0 then (expr_degrees.j2 k2 a0 a1 x8_2 t612 t613 l2 (l2.length : Int) x31_2 (decide (t612 > 8))) else (expr_degrees.j2 k2 a0 a1 x8_2 t612 t613 l2 (l2.length : Int) x31_2 false)) = some (r1, r2) := H
           have A13 := Aside0.mk A130; clear A130; have HC14 := Aside0.mk H; clear H
           have p610 : 0 ≤ (x31_2 : Int) := of_decide_eq_true (by first | (with_reducible assumption) | assumption)
           have q610 : x31_2 < (l2.length : Int) := of_decide_eq_true (by first | (with_reducible assumption) | assumption)
           obtain ⟨ad610, e610, hx610_0, hx610_1, hx610_2, hx610_3, hx610_4⟩ := at_T118 HR2.out x31_2 p610 q610
           cases e610
           replace hx610_0 := (HB.out.cell (World.block_lt_of_cell? w _ hx610_0)).trans hx610_0; replace hx610_1 := (HB.out.cell (World.block_lt_of_cell? w _ hx610_1)).trans hx610_1; replace hx610_2 := (HB.out.cell (World.block_lt_of_cell? w _ hx610_2)).trans hx610_2; replace hx610_3 := (HB.out.cell (World.block_lt_of_cell? w _ hx610_3)).trans hx610_3; replace hx610_4 := (HB.out.cell (World.block_lt_of_cell? w _ hx610_4)).trans hx610_4; replace p610 := eq_true p610; replace q610 := eq_true q610
           go_upto_region 12 with (first | ((with_reducible refine gate_dst (N := 10) rfl ?_); refine box_event ?hg (N := 10) ?hd (cs := #[.int .i64 0, .int .i64 0, .int .i64 0, .int .u64 0, .int .u64 0]) (t := 118) ?hr ?_; (case hd => rfl); (case hg => rfl); (case hr => first | (go_simp; done) | (go_simp; rfl)); intro gb611 hg w15 hbox hb; have n0_ := Aside0.mk (Kd.R_below (raA HO_8.out) hb); have n1_ := Aside0.mk (below_step (blA HB.out) hb); have n2_ := Aside0.mk (hbox); have n3_ := Aside0.mk ((by rw [hg]; exact (below_size (blA HB.out)) : w.heap.size ≤ gb611)); have n4_ := Aside0.mk ((by rw [hg]; exact (below_size (blA HB.out)) : w.heap.size ≤ gb611)); clear HO_8; clear HB; have HO_8 := n0_; have HB := n1_; have BK611 := n2_; have GW611 := n3_; have GE611 := n4_; clear n0_ n1_ n2_ n3_ n4_; clear hb hbox hg; have hcz16 := fun i => blk_cell BK611.out i; have hfz16 := fun i => blk_frozen BK611.out i; obtain ⟨Ao17, co17, eo17⟩ := Kd.R_slice HO_8.out; subst eo17) | ((with_reducible refine gate_callee (f := 100) rfl ?_); refine goesL_ (some 40) rfl rfl Try.func100 (by kernel_rfl) rfl #[.int .i64 a0, .int .i64 a1, .agg #[.int .i64 ((rd_T118 l2 x31_2).f0), .int .i64 ((rd_T118 l2 x31_2).f1), .int .i64 ((rd_T118 l2 x31_2).f2), .int .u64 ((rd_T118 l2 x31_2).f3.f0), .int .u64 ((rd_T118 l2 x31_2).f3.f1)], .slice Ao17 x8_2.length co17] rfl gsA ?_; (with_reducible refine (expr_step.calls k2 a0 a1 ((rd_T118 l2 x31_2).f0) ((rd_T118 l2 x31_2).f1) ((rd_T118 l2 x31_2).f2) ((rd_T118 l2 x31_2).f3.f0) ((rd_T118 l2 x31_2).f3.f1) _ _ x8_2 t612 t613 _ ?side1 ?side2 A13.out).mono ?_); (case side1 => refine (Kd.R_reads' (e := 3) (base := w.heap.size) (ok := fun k_ => True) (n := x8_2.length) (c := co17) ?_).2.2; exact (by (with_reducible repeat (first | apply Kd.R_alloc | apply Kd.R_drewN | apply Kd.R_drew)); exact (Kd.R_mono (Kd.R_far (p := ⟨gb611, 4, none⟩) (Kd.R_far (p := ⟨gb611, 3, none⟩) (Kd.R_far (p := ⟨gb611, 2, none⟩) (Kd.R_far (p := ⟨gb611, 1, none⟩) (Kd.R_far (p := ⟨gb611, 0, none⟩) (Kd.R_types HO_8.out BK611.out (by decide)) (fun _ hk => hk.2) (.int .i64 ((rd_T118 l2 x31_2).f0))) (fun _ hk => hk.2) (.int .i64 ((rd_T118 l2 x31_2).f1))) (fun _ hk => hk.2) (.int .i64 ((rd_T118 l2 x31_2).f2))) (fun _ hk => hk.2) (.int .u64 ((rd_T118 l2 x31_2).f3.f0))) (fun _ hk => hk.2) (.int .u64 ((rd_T118 l2 x31_2).f3.f1))) (fun _ h_ => h_.1)))); (case side2 => exact (Kd.R_reads' HO_8.out).2.1); rintro e w18 ⟨rfl, hb⟩; refine ⟨_, rfl, ?_⟩; have n0_ := Aside0.mk (Kd.R_below (by (with_reducible repeat (first | apply Kd.R_alloc | apply Kd.R_drewN | apply Kd.R_drew)); exact (Kd.R_mono (Kd.R_far (p := ⟨gb611, 4, none⟩) (Kd.R_far (p := ⟨gb611, 3, none⟩) (Kd.R_far (p := ⟨gb611, 2, none⟩) (Kd.R_far (p := ⟨gb611, 1, none⟩) (Kd.R_far (p := ⟨gb611, 0, none⟩) (Kd.R_types HO_8.out BK611.out (by decide)) (fun _ hk => hk.2) (.int .i64 ((rd_T118 l2 x31_2).f0))) (fun _ hk => hk.2) (.int .i64 ((rd_T118 l2 x31_2).f1))) (fun _ hk => hk.2) (.int .i64 ((rd_T118 l2 x31_2).f2))) (fun _ hk => hk.2) (.int .u64 ((rd_T118 l2 x31_2).f3.f0))) (fun _ hk => hk.2) (.int .u64 ((rd_T118 l2 x31_2).f3.f1))) (fun _ h_ => h_.1))) hb); have n1_ := Aside0.mk (blk_below (g := gb611) (o := .cells #[.int .i64 ((rd_T118 l2 x31_2).f0), .int .i64 ((rd_T118 l2 x31_2).f1), .int .i64 ((rd_T118 l2 x31_2).f2), .int .u64 ((rd_T118 l2 x31_2).f3.f0), .int .u64 ((rd_T118 l2 x31_2).f3.f1)] 118 (0, 0)) (by refine bkA ?_; refine blk_put (cs := #[.int .i64 ((rd_T118 l2 x31_2).f0), .int .i64 ((rd_T118 l2 x31_2).f1), .int .i64 ((rd_T118 l2 x31_2).f2), .int .u64 ((rd_T118 l2 x31_2).f3.f0), .int .u64 0]) ?_ 4 _ rfl; refine bkA ?_; refine blk_put (cs := #[.int .i64 ((rd_T118 l2 x31_2).f0), .int .i64 ((rd_T118 l2 x31_2).f1), .int .i64 ((rd_T118 l2 x31_2).f2), .int .u64 0, .int .u64 0]) ?_ 3 _ rfl; refine bkA ?_; refine blk_put (cs := #[.int .i64 ((rd_T118 l2 x31_2).f0), .int .i64 ((rd_T118 l2 x31_2).f1), .int .i64 0, .int .u64 0, .int .u64 0]) ?_ 2 _ rfl; refine bkA ?_; refine blk_put (cs := #[.int .i64 ((rd_T118 l2 x31_2).f0), .int .i64 0, .int .i64 0, .int .u64 0, .int .u64 0]) ?_ 1 _ rfl; refine bkA ?_; refine blk_put (cs := #[.int .i64 0, .int .i64 0, .int .i64 0, .int .u64 0, .int .u64 0]) ?_ 0 _ rfl; refine bkA ?_; exact BK611.out) hb); have n2_ := Aside0.mk (below_step (blA HB.out) hb); clear HO_8; clear BK611; clear HB; have HO_8 := n0_; have BK611 := n1_; have HB := n2_; clear n0_ n1_ n2_; (try clear hb)))
           (try simp only [Act.put, List.setIfInBounds_toArray, List.set_cons_zero, List.set_cons_succ])
           go_cut [48] (fun v48 wc => ∃ (kq : Nat) (x48_13 : Bool), v48 = .bool x48_13 ∧ Aside0 (expr_degrees.j2 kq a0 a1 x8_2 t612 t613 l2 (l2.length : Int) x31_2 x48_13 = some (r1, r2)) ∧ Aside0 (kq ≤ k2) ∧ Aside0 (Kd.R (Kd.int .i64) 3 wc w.heap.size (fun _ => True) (.slice Ao17 x8_2.length co17) x8_2) ∧ Aside0 (wc.heap[gb611]? = some (.cells #[.int .i64 ((rd_T118 l2 x31_2).f0), .int .i64 ((rd_T118 l2 x31_2).f1), .int .i64 ((rd_T118 l2 x31_2).f2), .int .u64 ((rd_T118 l2 x31_2).f3.f0), .int .u64 ((rd_T118 l2 x31_2).f3.f1)] 118 (0, 0))) ∧ Aside0 (Below w.heap.size w wc))
           case first =>
            have H := HC14.out; clear HC14
            by_cases c19 : t613 = 0
            ·rw [if_pos c19] at H
             have c19b0 : (t613 == 0) = true := beq_iff_eq.mpr c19; have c19b1 : (t613 != 0) = false := bne_eq_false_iff_eq.mpr c19; clear c19
             (first | rw [c19b0] | (simp only [i64_w, i32_w]; rw [c19b0]) | skip)
             have H' := Aside0.mk H; clear H
             go_wp2
             go_meet
             case rel => exact ⟨_, (decide (t612 > 8)), eqA, H', ⟨by have := HJ3.out; have := HK2.out; first | omega | exact Nat.le_refl _⟩, ⟨raA HO_8.out⟩, ⟨bkA BK611.out⟩, ⟨blA HB.out⟩⟩
            ·rw [if_neg c19] at H
             have c19b0 : (t613 == 0) = false := beq_eq_false_iff_ne.mpr c19; have c19b1 : (t613 != 0) = true := bne_iff_ne.mpr c19
             (first | rw [c19b0] | (simp only [i64_w, i32_w]; rw [c19b0]) | skip)
             have H' := Aside0.mk H; clear H
             go_wp2
             go_meet
             case rel => exact ⟨_, (false), eqA, H', ⟨by have := HJ3.out; have := HK2.out; first | omega | exact Nat.le_refl _⟩, ⟨raA HO_8.out⟩, ⟨bkA BK611.out⟩, ⟨blA HB.out⟩⟩
           case rest =>
            clear HC14; (try clear c1); (try clear c2); (try clear p2); (try clear c6); (try clear c6b0); (try clear c6b1); (try clear p6); (try clear q6); (try clear hx6); (try clear c7); (try clear c8); (try clear c8b0); (try clear c8b1); (try clear c8b2); (try clear c9); (try clear c9b0); (try clear c9b1); (try clear c10); (try clear c10b0); (try clear c11); (try clear c11b0); (try clear c12); (try clear c12b0); (try clear c19); (try clear c19b0); (try clear c19b1); (try clear hcz16); (try clear hfz16); (try clear hx610_0); (try clear hx610_1); (try clear hx610_2); (try clear hx610_3); (try clear hx610_4); (try clear p2); (try clear p610); (try clear q610); obtain ⟨kq, x48_13, rfl, HA, HJ13, HO_8, BK611, HB⟩ := hcut
            cases kq with
            | zero => exact absurd HA.out (by simp [expr_degrees.j2])
            | succ kj13 =>
             have H := HA.out; clear HA
             simp only [expr_degrees.j2] at H
             by_cases c20 : x48_13 = true
             ·subst c20
              have H1 : (if 7 = 0 then (if x8_2.length < 17592186044416 then (expr_degrees.l0 kj13 a0 a1 (x8_2 ++ [t612]) l2 (l2.length : Int) (wrap64 (x31_2 + 1))) else (none)) else (some (([] : List Int), 7))) = some (r1, r2) := by rw [if_pos rfl] at H; exact H
              clear H; have H := H1; clear H1
              by_cases c21 : 7 = 0
              ·exact absurd c21 (by decide)
              ·rw [if_neg c21] at H
               have c21b0 : (7 == 0) = false := beq_eq_false_iff_ne.mpr c21; have c21b1 : (7 != 0) = true := bne_iff_ne.mpr c21
               simp only [Option.some.injEq, Prod.mk.injEq] at H
               obtain ⟨rfl, rfl⟩ := H
               go_wp2
               go_ret2
               exact ⟨_, by first | rfl | (simp [errW_none, errW_some] <;> rfl) | (simp [*, errW_none, errW_some] <;> rfl), by first | exact Kd.R_nil _ _ _ _ _ | exact Kd.N_nil _ _ _ _ _ | exact Kd.V_nil _ _ _ _ _ | exact Kd.Q_nil _ _ _ _ _ | exact Kd.S_nil _ _ _ _ _, blA HB.out⟩
             ·replace c20 := Bool.eq_false_iff.mpr c20; subst c20
              have H1 : (if t613 = 0 then (if x8_2.length < 17592186044416 then (expr_degrees.l0 kj13 a0 a1 (x8_2 ++ [t612]) l2 (l2.length : Int) (wrap64 (x31_2 + 1))) else (none)) else (some (([] : List Int), t613))) = some (r1, r2) := by rw [if_neg (show ¬ (false = true) by decide)] at H; exact H
              clear H; have H := H1; clear H1
              by_cases c24 : t613 = 0
              ·rw [if_pos c24] at H
               have c24b0 : (t613 == 0) = true := beq_iff_eq.mpr c24; have c24b1 : (t613 != 0) = false := bne_eq_false_iff_eq.mpr c24; clear c24
               by_cases c25 : x8_2.length < 17592186044416
               ·rw [if_pos c25] at H
                have LMc25 := Aside0.mk c25; clear c25
                obtain ⟨y617, hy617⟩ : ∃ y_ : List Int, y_ = (x8_2 ++ [t612]) := ⟨_, rfl⟩
                replace H : (expr_degrees.l0 kj13 a0 a1 y617 l2 (l2.length : Int) (wrap64 (x31_2 + 1))) = some (r1, r2) := by first | (rw [hy617]; with_reducible exact H) | (have H2_ := (Option.bind_some _ _).symm.trans H; rw [hy617]; with_reducible exact H2_) | (have H2_ := (Option.bind_some _ _).symm.trans H; with_reducible exact H2_) | with_reducible exact H | (rw [hy617]; exact H) | exact H
                have Ny617 := Aside0.mk hy617; clear hy617; have H' := Aside0.mk H; clear H
                go_wp2_with (first | ((with_reducible refine gate_builtin (b := .append) (xs := #[.tmp 52, .tmp 54]) rfl ?_); at_builtin; refine Kd.R_append (Kd.int .i64) (w0 := w) w.heap.size rfl (.tmp 52) (.tmp 54) 115 3 (.int .i64 0) 8 rfl Try.underlying115 info3 rfl (by decide) (by omega) (.slice Ao17 x8_2.length co17) x8_2 t612 [.int .i64 t612] (fun _ => True) (fun _ => False) rfl rfl ?aP (fun _ hk => hk.elim) ?aF ?aO ?aB ?aS ?aL ?_; (case aP => exact rfl); (case aB => exact (blA HB.out)); (case aF => exact (fun _ _ => trivial)); (case aO => exact (raA HO_8.out)); (case aS => exact (below_size (blA HB.out))); (case aL => have := LMc25.out; omega); intro v618 w26 ho hb hg hat; rw [← Ny617.out] at ho; have n0_ := Aside0.mk (blk_grown (bkA BK611.out) hg (Kd.R_ne HO_8.out BK611.out (by decide))); have n1_ := Aside0.mk (hb); have n2_ := Aside0.mk (ho); clear BK611; clear HB; clear HO_8; have BK611 := n0_; have HB := n1_; have HO619 := n2_; clear n0_ n1_ n2_; clear ho hb hg hat))
                go_roundg kj13
                case measure => have := HJ3.out; have := HK2.out; have := HJ13.out; omega
                case rel => exact ⟨(y617), (wrap64 (x31_2 + 1)), eqA, H', ⟨by have := HJ3.out; have := HK2.out; have := HJ13.out; omega⟩, ⟨raA HO619.out⟩, ⟨blA HB.out⟩⟩
               ·rw [if_neg c25] at H
                exact absurd H (by simp)
              ·rw [if_neg c24] at H
               have c24b0 : (t613 == 0) = false := beq_eq_false_iff_ne.mpr c24; have c24b1 : (t613 != 0) = true := bne_iff_ne.mpr c24
               simp only [Option.some.injEq, Prod.mk.injEq] at H
               obtain ⟨rfl, rfl⟩ := H
               go_wp2
               go_ret2
               exact ⟨_, by first | rfl | (simp [errW_none, errW_some] <;> rfl) | (simp [*, errW_none, errW_some] <;> rfl), by first | exact Kd.R_nil _ _ _ _ _ | exact Kd.N_nil _ _ _ _ _ | exact Kd.V_nil _ _ _ _ _ | exact Kd.Q_nil _ _ _ _ _ | exact Kd.S_nil _ _ _ _ _, blA HB.out⟩
          ·rw [if_neg c12] at H
           exact absurd H (by simp)
         ·rw [if_neg c11] at H
          exact absurd H (by simp)
        ·rw [if_neg c10] at H
         have c10b0 : decide (x31_2 < (l2.length : Int)) = false := decide_eq_false c10; clear c10
         simp only [Option.some.injEq, Prod.mk.injEq] at H
         obtain ⟨rfl, rfl⟩ := H
         go_wp2
         go_ret2
         exact ⟨_, by first | rfl | (simp [errW_none, errW_some] <;> rfl) | (simp [*, errW_none, errW_some] <;> rfl), raA HO_8.out, blA HB.out⟩
end Go.Proofs.Ythiiodgpdoljoaa.PLc
namespace Go.Proofs.Ythiiodgpdoljoaa.PLc
open Go.RowKit Go.Proofs.YthiiodgpdoljoaaW.PrintWords Go.Proofs.YthiiodgpdoljoaaW.PrintLast Go.Proofs.YthiiodgpdoljoaaW.PrintMore
attribute [local go_sem] max2_int min2_int max_two min_two max_three min_three max_four min_four   -- for this text's walks alone
set_option linter.unusedVariables false
set_option linter.unusedSimpArgs false
/-! ### expr_Check: function 33 -/
def expr_Check.f (k : Nat) (a0 : Int) (a1 : Int) (l2 : List (S118)) : Option (Int) := (expr_degrees.f k a0 a1 l2).bind fun bt620 => (some bt620.2)
theorem expr_Check.mono : ∀ a0 a1 a2 k, LeO (expr_Check.f k a0 a1 a2) (expr_Check.f (k + 1) a0 a1 a2) := by
 intro a0 a1 a2 k
 unfold expr_Check.f
 repeat' first
   | (with_reducible exact expr_degrees.mono _ _ _ _)
   | (with_reducible exact LeO.refl _)
   | (with_reducible exact LeO.none _)
   | (with_reducible refine LeO.ite ?_ ?_)
   | (with_reducible refine LeO.bind ?_ (fun _ => ?_))
   | exact expr_degrees.mono _ _ _ _
   | exact LeO.none _
   | refine LeO.ite ?_ ?_
   | refine LeO.bind ?_ (fun _ => ?_)
set_option maxHeartbeats 8000000 in
set_option maxRecDepth 100000 in
theorem expr_Check.calls (k : Nat) (a0 : Int) (a1 : Int) (A2 : Option Addr) (c2 : Nat) (l2 : List (S118)) (r : Int) (w : World) (hr2 : Kd.C k118 w A2 l2.length l2) (hc2 : l2.length ≤ c2) (h : expr_Check.f k a0 a1 l2 = some r) :
  Calls Try.prog 33 #[.int .i64 a0, .int .i64 a1, .slice A2 l2.length c2] w fun e w' => e = .returned (.int .i64 r) ∧ Below w.heap.size w w' := by
 have HR2 := Aside0.mk hr2; have HC2 := Aside0.mk hc2; clear hr2 hc2; have HB := Aside0.mk (Below.refl w.heap.size w)
 have H : ((expr_degrees.f k a0 a1 l2).bind fun bt620 => (some bt620.2)) = some r := h
 clear h; replace H := Option.bind_eq_some_iff.mp H
 obtain ⟨⟨t620, t621⟩, A40, H⟩ := H
 (try dsimp only at H); have A4 := Aside0.mk A40; clear A40; obtain rfl := Option.some.inj H
 go_enter Try.func33, Try.ntmps33
 go_wp2_with (first | ((with_reducible refine gate_callee (f := 74) rfl ?_); refine goesL_ (some 13) rfl rfl Try.func74 (by kernel_rfl) rfl #[.int .i64 a0, .int .i64 a1, .slice A2 l2.length c2] rfl gsA ?_; (with_reducible refine (expr_degrees.calls k a0 a1 _ _ l2 t620 t621 _ ?side1 ?side2 A4.out).mono ?_); (case side1 => repeat (first | exact HR2.out | (with_reducible refine Kd.C_alloc ?_ _) | (with_reducible refine Kd.C_drewN ?_ _) | (with_reducible refine Kd.C_drew ?_))); (case side2 => exact HC2.out); rintro e w5 ⟨v622, rfl, ho0, hb⟩; refine ⟨_, rfl, ?_⟩; have n0_ := Aside0.mk (Kd.R_lower ho0 (below_size (blA HB.out))); have n1_ := Aside0.mk (below_step (blA HB.out) hb); clear HB; have HO623 := n0_; have HB := n1_; clear n0_ n1_; (try clear hb); (try clear ho0)))
 go_ret
 exact ⟨by first | rfl | (simp [errW_none, errW_some] <;> rfl) | (simp [*, errW_none, errW_some] <;> rfl), blA HB.out⟩
/-! ### expr_Degree: function 34 -/
def expr_Degree.f (k : Nat) (l0 : List (S118)) : Option (Int) := (expr_degrees.f k 7 9223372036854775807 l0).bind fun bt624 => (if bt624.2 = 0 then (if 0 ≤ (wrap64 ((bt624.1.length : Int) - 1)) then (if (wrap64 ((bt624.1.length : Int) - 1)) < (bt624.1.length : Int) then (some (rd bt624.1 (wrap64 ((bt624.1.length : Int) - 1)))) else (none)) else (none)) else (some (-1)))
theorem expr_Degree.mono : ∀ a0 k, LeO (expr_Degree.f k a0) (expr_Degree.f (k + 1) a0) := by
 intro a0 k
 unfold expr_Degree.f
 repeat' first
   | (with_reducible exact expr_degrees.mono _ _ _ _)
   | (with_reducible exact LeO.refl _)
   | (with_reducible exact LeO.none _)
   | (with_reducible refine LeO.ite ?_ ?_)
   | (with_reducible refine LeO.bind ?_ (fun _ => ?_))
   | exact expr_degrees.mono _ _ _ _
   | exact LeO.none _
   | refine LeO.ite ?_ ?_
   | refine LeO.bind ?_ (fun _ => ?_)
set_option maxHeartbeats 8000000 in
set_option maxRecDepth 100000 in
theorem expr_Degree.calls (k : Nat) (A0 : Option Addr) (c0 : Nat) (l0 : List (S118)) (r : Int) (w : World) (hr0 : Kd.C k118 w A0 l0.length l0) (hc0 : l0.length ≤ c0) (h : expr_Degree.f k l0 = some r) :
  Calls Try.prog 34 #[.slice A0 l0.length c0] w fun e w' => e = .returned (.int .i64 r) ∧ Below w.heap.size w w' := by
 have HR0 := Aside0.mk hr0; have HC0 := Aside0.mk hc0; clear hr0 hc0; have HB := Aside0.mk (Below.refl w.heap.size w)
 have H : ((expr_degrees.f k 7 9223372036854775807 l0).bind fun bt624 => (if bt624.2 = 0 then (if 0 ≤ (wrap64 ((bt624.1.length : Int) - 1)) then (if (wrap64 ((bt624.1.length : Int) - 1)) < (bt624.1.length : Int) then (some (rd bt624.1 (wrap64 ((bt624.1.length : Int) - 1)))) else (none)) else (none)) else (some (-1)))) = some r := h
 clear h; replace H := Option.bind_eq_some_iff.mp H
 obtain ⟨⟨t624, t625⟩, A20, H⟩ := H
 (try dsimp only at H)
 have A2 := Aside0.mk A20; clear A20
 by_cases c3 : t625 = 0
 ·rw [if_pos c3] at H
  have c3b0 : (t625 == 0) = true := beq_iff_eq.mpr c3; have c3b1 : (t625 != 0) = false := bne_eq_false_iff_eq.mpr c3; clear c3
  obtain ⟨ji4, hji4⟩ : ∃ j_ : Int, (wrap64 ((t624.length : Int) - 1)) = j_ := ⟨_, rfl⟩
  replace H : (if 0 ≤ (ji4) then (if (ji4) < (t624.length : Int) then (some (rd t624 (ji4))) else (none)) else (none)) = some r := by first | (rw [hji4] at H; exact H) | (simp only [hji4] at H ⊢; exact H)
  (try rw [hji4] at A2)
  have hji4w : (IntKind.i64.wrap ((t624.length : Int) - 1)) = ji4 := (i64_w _).trans hji4
  by_cases c5 : 0 ≤ (ji4)
  ·rw [if_pos c5] at H
   have c5b0 : decide (0 ≤ (ji4)) = true := decide_eq_true c5; clear c5
   by_cases c6 : (ji4) < (t624.length : Int)
   ·rw [if_pos c6] at H
    have c6b0 : decide ((ji4) < (t624.length : Int)) = true := decide_eq_true c6; clear c6; obtain rfl := Option.some.inj H
    go_enter Try.func34, Try.ntmps34
    go_wp2_with (first | ((with_reducible refine gate_callee (f := 74) rfl ?_); refine goesL_ (some 7) rfl rfl Try.func74 (by kernel_rfl) rfl #[.int .i64 7, .int .i64 9223372036854775807, .slice A0 l0.length c0] rfl gsA ?_; (with_reducible refine (expr_degrees.calls k 7 9223372036854775807 _ _ l0 t624 t625 _ ?side1 ?side2 A2.out).mono ?_); (case side1 => repeat (first | exact HR0.out | (with_reducible refine Kd.C_alloc ?_ _) | (with_reducible refine Kd.C_drewN ?_ _) | (with_reducible refine Kd.C_drew ?_))); (case side2 => exact HC0.out); rintro e w7 ⟨v626, rfl, ho0, hb⟩; refine ⟨_, rfl, ?_⟩; have n0_ := Aside0.mk (Kd.R_lower ho0 (below_size (blA HB.out))); have n1_ := Aside0.mk (below_step (blA HB.out) hb); clear HB; have HO627 := n0_; have HB := n1_; clear n0_ n1_; (try clear hb); (try clear ho0); obtain ⟨Ao8, co8, eo8⟩ := Kd.R_slice HO627.out; subst eo8; have p628 : 0 ≤ ((ji4) : Int) := of_decide_eq_true (by first | (with_reducible assumption) | assumption); have q628 : (ji4) < (t624.length : Int) := of_decide_eq_true (by first | (with_reducible assumption) | assumption); obtain ⟨ad628, e628, hx628_0⟩ := Kd.at_int (Kd.R_reads' HO627.out).2.2 (ji4) p628 q628; cases e628; replace p628 := eq_true p628; replace q628 := eq_true q628))
    go_ret
    exact ⟨by first | rfl | (simp [errW_none, errW_some] <;> rfl) | (simp only [← hji4]; first | rfl | (simp [errW_none, errW_some] <;> rfl)) | (simp [*, errW_none, errW_some] <;> rfl), blA HB.out⟩
   ·rw [if_neg c6] at H
    exact absurd H (by simp)
  ·rw [if_neg c5] at H
   exact absurd H (by simp)
 ·rw [if_neg c3] at H
  have c3b0 : (t625 == 0) = false := beq_eq_false_iff_ne.mpr c3; have c3b1 : (t625 != 0) = true := bne_iff_ne.mpr c3; obtain rfl := Option.some.inj H
  go_enter Try.func34, Try.ntmps34
  go_wp2_with (first | ((with_reducible refine gate_callee (f := 74) rfl ?_); refine goesL_ (some 7) rfl rfl Try.func74 (by kernel_rfl) rfl #[.int .i64 7, .int .i64 9223372036854775807, .slice A0 l0.length c0] rfl gsA ?_; (with_reducible refine (expr_degrees.calls k 7 9223372036854775807 _ _ l0 t624 t625 _ ?side1 ?side2 A2.out).mono ?_); (case side1 => repeat (first | exact HR0.out | (with_reducible refine Kd.C_alloc ?_ _) | (with_reducible refine Kd.C_drewN ?_ _) | (with_reducible refine Kd.C_drew ?_))); (case side2 => exact HC0.out); rintro e w9 ⟨v626, rfl, ho0, hb⟩; refine ⟨_, rfl, ?_⟩; have n0_ := Aside0.mk (Kd.R_lower ho0 (below_size (blA HB.out))); have n1_ := Aside0.mk (below_step (blA HB.out) hb); clear HB; have HO627 := n0_; have HB := n1_; clear n0_ n1_; (try clear hb); (try clear ho0)))
  go_ret
  exact ⟨by first | rfl | (simp [errW_none, errW_some] <;> rfl) | (simp [*, errW_none, errW_some] <;> rfl), blA HB.out⟩
end Go.Proofs.Ythiiodgpdoljoaa.PLc
namespace Go.Proofs.Ythiiodgpdoljoaa.PLc
open Go.RowKit Go.Proofs.YthiiodgpdoljoaaW.PrintWords Go.Proofs.YthiiodgpdoljoaaW.PrintLast Go.Proofs.YthiiodgpdoljoaaW.PrintMore
attribute [local go_sem] max2_int min2_int max_two min_two max_three min_three max_four min_four   -- for this text's walks alone
set_option linter.unusedVariables false
set_option linter.unusedSimpArgs false
/-! ### claim_Check: function 35 -/
mutual
def claim_Check.j0 : Nat → Int → Int → List (S76) → Bool → Option (Int)
 | 0, _, _, _, _ => none
 | k + 1, x0, x1, x2, x9 => if x9 = true then (some 1) else (if (x2.length : Int) > 200 then (some 2) else (claim_Check.l0 k x0 x1 x2 (x2.length : Int) 0))
def claim_Check.l0 : Nat → Int → Int → List (S76) → Int → Int → Option (Int)
 | 0, _, _, _, _, _ => none
 | k + 1, x0, x1, x28, x29, x30 => if x30 < x29 then (if 0 ≤ x30 then (if x30 < (x28.length : Int) then (if ((rd_T76 x28 x30).f0) < 0 then (claim_Check.j2 k x0 x1 x28 x29 x30 true ((rd_T76 x28 x30).f0) ((rd_T76 x28 x30).f1) ((rd_T76 x28 x30).f2) ((rd_T76 x28 x30).f3.f0) ((rd_T76 x28 x30).f3.f1)) else (if 0 ≤ x0 then (claim_Check.j2 k x0 x1 x28 x29 x30 (decide (((rd_T76 x28 x30).f0) ≥ (shl .i64 1 x0))) ((rd_T76 x28 x30).f0) ((rd_T76 x28 x30).f1) ((rd_T76 x28 x30).f2) ((rd_T76 x28 x30).f3.f0) ((rd_T76 x28 x30).f3.f1)) else (none))) else (none)) else (none)) else (some 0)
def claim_Check.j2 : Nat → Int → Int → List (S76) → Int → Int → Bool → Int → Int → Int → Int → Int → Option (Int)
 | 0, _, _, _, _, _, _, _, _, _, _, _ => none
 | k + 1, x0, x1, x28, x29, x30, x34, x631000, x631001, x631002, x631003, x631004 => if x34 = true then (some 4) else ((turn_Fits.f x631001 x1 x631002).bind fun t631 => (if t631 = true then (claim_Check.l0 k x0 x1 x28 x29 (wrap64 (x30 + 1))) else (some 1)))
end
def claim_Check.f (k : Nat) (a0 : Int) (a1 : Int) (l2 : List (S76)) : Option (Int) := if a0 < 0 then (claim_Check.j0 k a0 a1 l2 true) else (if a0 > 6 then (claim_Check.j0 k a0 a1 l2 true) else (if a1 < 0 then (claim_Check.j0 k a0 a1 l2 true) else (claim_Check.j0 k a0 a1 l2 (decide (a1 > 6)))))
theorem claim_Check.mono_l : ∀ k, (∀ y0 y1 y2 y3, LeO (claim_Check.j0 k y0 y1 y2 y3) (claim_Check.j0 (k + 1) y0 y1 y2 y3)) ∧ (∀ y0 y1 y2 y3 y4, LeO (claim_Check.l0 k y0 y1 y2 y3 y4) (claim_Check.l0 (k + 1) y0 y1 y2 y3 y4)) ∧ (∀ y0 y1 y2 y3 y4 y5 y6 y7 y8 y9 y10, LeO (claim_Check.j2 k y0 y1 y2 y3 y4 y5 y6 y7 y8 y9 y10) (claim_Check.j2 (k + 1) y0 y1 y2 y3 y4 y5 y6 y7 y8 y9 y10))
 | 0 => ⟨fun _ _ _ _ r h => by simp [claim_Check.j0] at h, fun _ _ _ _ _ r h => by simp [claim_Check.l0] at h, fun _ _ _ _ _ _ _ _ _ _ _ r h => by simp [claim_Check.j2] at h⟩
 | k + 1 => by
  obtain ⟨ih0, ih1, ih2⟩ := claim_Check.mono_l k
  refine ⟨?_, ?_, ?_⟩
  ·intro y0 y1 y2 y3
   unfold claim_Check.j0
   repeat' first
   | (with_reducible exact ih0 _ _ _ _)
   | (with_reducible exact ih1 _ _ _ _ _)
   | (with_reducible exact ih2 _ _ _ _ _ _ _ _ _ _ _)
   | (with_reducible exact LeO.refl _)
   | (with_reducible exact LeO.none _)
   | (with_reducible refine LeO.ite ?_ ?_)
   | (with_reducible refine LeO.bind ?_ (fun _ => ?_))
   | exact ih0 _ _ _ _
   | exact ih1 _ _ _ _ _
   | exact ih2 _ _ _ _ _ _ _ _ _ _ _
   | exact LeO.none _
   | refine LeO.ite ?_ ?_
   | refine LeO.bind ?_ (fun _ => ?_)
  ·intro y0 y1 y2 y3 y4
   unfold claim_Check.l0
   repeat' first
   | (with_reducible exact ih0 _ _ _ _)
   | (with_reducible exact ih1 _ _ _ _ _)
   | (with_reducible exact ih2 _ _ _ _ _ _ _ _ _ _ _)
   | (with_reducible exact LeO.refl _)
   | (with_reducible exact LeO.none _)
   | (with_reducible refine LeO.ite ?_ ?_)
   | (with_reducible refine LeO.bind ?_ (fun _ => ?_))
   | exact ih0 _ _ _ _
   | exact ih1 _ _ _ _ _
   | exact ih2 _ _ _ _ _ _ _ _ _ _ _
   | exact LeO.none _
   | refine LeO.ite ?_ ?_
   | refine LeO.bind ?_ (fun _ => ?_)
  ·intro y0 y1 y2 y3 y4 y5 y6 y7 y8 y9 y10
   unfold claim_Check.j2
   repeat' first
   | (with_reducible exact ih0 _ _ _ _)
   | (with_reducible exact ih1 _ _ _ _ _)
   | (with_reducible exact ih2 _ _ _ _ _ _ _ _ _ _ _)
   | (with_reducible exact LeO.refl _)
   | (with_reducible exact LeO.none _)
   | (with_reducible refine LeO.ite ?_ ?_)
   | (with_reducible refine LeO.bind ?_ (fun _ => ?_))
   | exact ih0 _ _ _ _
   | exact ih1 _ _ _ _ _
   | exact ih2 _ _ _ _ _ _ _ _ _ _ _
   | exact LeO.none _
   | refine LeO.ite ?_ ?_
   | refine LeO.bind ?_ (fun _ => ?_)
theorem claim_Check.mono : ∀ a0 a1 a2 k, LeO (claim_Check.f k a0 a1 a2) (claim_Check.f (k + 1) a0 a1 a2) := by
 intro a0 a1 a2 k
 obtain ⟨ih0, ih1, ih2⟩ := claim_Check.mono_l k
 unfold claim_Check.f
 repeat' first
   | (with_reducible exact ih0 _ _ _ _)
   | (with_reducible exact ih1 _ _ _ _ _)
   | (with_reducible exact ih2 _ _ _ _ _ _ _ _ _ _ _)
   | (with_reducible exact LeO.refl _)
   | (with_reducible exact LeO.none _)
   | (with_reducible refine LeO.ite ?_ ?_)
   | (with_reducible refine LeO.bind ?_ (fun _ => ?_))
   | exact ih0 _ _ _ _
   | exact ih1 _ _ _ _ _
   | exact ih2 _ _ _ _ _ _ _ _ _ _ _
   | exact LeO.none _
   | refine LeO.ite ?_ ?_
   | refine LeO.bind ?_ (fun _ => ?_)
set_option maxHeartbeats 8000000 in
set_option maxRecDepth 100000 in
theorem claim_Check.calls (k : Nat) (a0 : Int) (a1 : Int) (A2 : Option Addr) (c2 : Nat) (l2 : List (S76)) (r : Int) (w : World) (hr2 : Kd.C k76 w A2 l2.length l2) (hc2 : l2.length ≤ c2) (h : claim_Check.f k a0 a1 l2 = some r) :
  Calls Try.prog 35 #[.int .i64 a0, .int .i64 a1, .slice A2 l2.length c2] w fun e w' => e = .returned (.int .i64 r) ∧ Below w.heap.size w w' := by
 have hu76 := Try.underlying76; have HR2 := Aside0.mk hr2; have HC2 := Aside0.mk hc2; clear hr2 hc2; have HB := Aside0.mk (Below.refl w.heap.size w)
 have H : (if a0 < 0 then (claim_Check.j0 k a0 a1 l2 true) else (if a0 > 6 then (claim_Check.j0 k a0 a1 l2 true) else (if a1 < 0 then (claim_Check.j0 k a0 a1 l2 true) else (claim_Check.j0 k a0 a1 l2 (decide (a1 > 6)))))) = some r := h
 clear h; have HC4 := Aside0.mk H; clear H
 go_enter Try.func35, Try.ntmps35
 go_upto_region 1 with (fail)
 repeat (go_quiet (fail); go_upto_region 1 with (fail))
 go_cut [9] (fun v9 wc => ∃ (kq : Nat) (x9_3 : Bool), v9 = .bool x9_3 ∧ Aside0 (claim_Check.j0 kq a0 a1 l2 x9_3 = some r) ∧ Aside0 (kq ≤ k) ∧ Aside0 (Below w.heap.size w wc))
 case first =>
  have H := HC4.out; clear HC4
  by_cases c5 : a0 < 0
  ·rw [if_pos c5] at H
   have c5b0 : decide (a0 < 0) = true := decide_eq_true c5; clear c5
   (first | rw [c5b0] | (simp only [i64_w, i32_w]; rw [c5b0]) | skip)
   have H' := Aside0.mk H; clear H
   go_wp2
   repeat (go_quiet (fail); try go_wp2)
   go_meet
   case rel => exact ⟨_, (true), eqA, H', ⟨omA⟩, ⟨blA HB.out⟩⟩
  ·rw [if_neg c5] at H
   have c5b0 : decide (a0 < 0) = false := decide_eq_false c5; clear c5
   (first | rw [c5b0] | (simp only [i64_w, i32_w]; rw [c5b0]) | skip)
   by_cases c6 : a0 > 6
   ·rw [if_pos c6] at H
    have c6b0 : decide (6 < a0) = true := decide_eq_true c6; clear c6; have H' := Aside0.mk H; clear H
    go_wp2
    repeat (go_quiet (fail); try go_wp2)
    go_meet
    case rel => exact ⟨_, (true), eqA, H', ⟨omA⟩, ⟨blA HB.out⟩⟩
   ·rw [if_neg c6] at H
    have c6b0 : decide (6 < a0) = false := decide_eq_false c6; clear c6
    by_cases c7 : a1 < 0
    ·rw [if_pos c7] at H
     have c7b0 : decide (a1 < 0) = true := decide_eq_true c7; clear c7; have H' := Aside0.mk H; clear H
     go_wp2
     repeat (go_quiet (fail); try go_wp2)
     go_meet
     case rel => exact ⟨_, (true), eqA, H', ⟨omA⟩, ⟨blA HB.out⟩⟩
    ·rw [if_neg c7] at H
     have c7b0 : decide (a1 < 0) = false := decide_eq_false c7; clear c7; have H' := Aside0.mk H; clear H
     go_wp2
     repeat (go_quiet (fail); try go_wp2)
     go_meet
     case rel => exact ⟨_, (decide (a1 > 6)), eqA, H', ⟨omA⟩, ⟨blA HB.out⟩⟩
 case rest =>
  clear HC4; (try clear c2); (try clear p2); (try clear c3); (try clear c5); (try clear c5b0); (try clear c6); (try clear c6b0); (try clear c7); (try clear c7b0); obtain ⟨kq, x9_3, rfl, HA, HJ3, HB⟩ := hcut
  cases kq with
  | zero => exact absurd HA.out (by simp [claim_Check.j0])
  | succ kj3 =>
   have H := HA.out; clear HA
   simp only [claim_Check.j0] at H
   by_cases c8 : x9_3 = true
   ·subst c8
    have H1 : (some 1) = some r := by rw [if_pos rfl] at H; exact H
    clear H; have H := H1; clear H1; obtain rfl := Option.some.inj H
    go_wp2
    repeat (go_quiet (fail); try go_wp2)
    go_ret
    exact ⟨by first | rfl | (simp [errW_none, errW_some] <;> rfl) | (simp [*, errW_none, errW_some] <;> rfl), blA HB.out⟩
   ·replace c8 := Bool.eq_false_iff.mpr c8; subst c8
    have H1 : (if (l2.length : Int) > 200 then (some 2) else (claim_Check.l0 kj3 a0 a1 l2 (l2.length : Int) 0)) = some r := by rw [if_neg (show ¬ (false = true) by decide)] at H; exact H
    clear H; have H := H1; clear H1
    by_cases c9 : (l2.length : Int) > 200
    ·rw [if_pos c9] at H
     have c9b0 : decide (200 < (l2.length : Int)) = true := decide_eq_true c9
     have c9b1 : decide (200 < l2.length) = true := decide_eq_true (by omega)
     clear c9; obtain rfl := Option.some.inj H
     go_wp2
     repeat (go_quiet (fail); try go_wp2)
     go_ret
     exact ⟨by first | rfl | (simp [errW_none, errW_some] <;> rfl) | (simp [*, errW_none, errW_some] <;> rfl), blA HB.out⟩
    ·rw [if_neg c9] at H
     have c9b0 : decide (200 < (l2.length : Int)) = false := decide_eq_false c9
     have c9b1 : decide (200 < l2.length) = false := decide_eq_false (by omega)
     clear c9; have H' := Aside0.mk H; clear H
     go_wp2
     repeat (go_quiet (fail); try go_wp2)
     go_loopg [30] kj3 (fun kq v30 w' => ∃ (x30_2 : Int), v30 = .int .i64 x30_2 ∧ Aside0 (claim_Check.l0 kq a0 a1 l2 (l2.length : Int) x30_2 = some r) ∧ Aside0 (kq ≤ kj3) ∧ Aside0 (Below w.heap.size w w'))
     case atStart => exact ⟨(0), eqA, H', ⟨Nat.le_refl _⟩, ⟨blA HB.out⟩⟩
     case round =>
      clear H'; (try clear c2); (try clear p2); (try clear c3); (try clear c5); (try clear c5b0); (try clear c6); (try clear c6b0); (try clear c7); (try clear c7b0); (try clear c8); (try clear c9); (try clear c9b0); (try clear c9b1); (try clear p2); obtain ⟨x30_2, rfl, HA, HK2, HB⟩ := hrel
      cases gk with
      | zero => exact absurd HA.out (by simp [claim_Check.l0])
      | succ k2 =>
       have H := HA.out; clear HA
       simp only [claim_Check.l0] at H
       by_cases c10 : x30_2 < (l2.length : Int)
       ·rw [if_pos c10] at H
        have c10b0 : decide (x30_2 < (l2.length : Int)) = true := decide_eq_true c10; clear c10
        by_cases c11 : 0 ≤ x30_2
        ·rw [if_pos c11] at H
         have c11b0 : decide (0 ≤ x30_2) = true := decide_eq_true c11; clear c11
         by_cases c12 : x30_2 < (l2.length : Int)
         ·rw [if_pos c12] at H
          have c12b0 : decide (x30_2 < (l2.length : Int)) = true := decide_eq_true c12; clear c12; have HC13 := Aside0.mk H; clear H
          have p629 : 0 ≤ (x30_2 : Int) := of_decide_eq_true (by first | (with_reducible assumption) | assumption)
          have q629 : x30_2 < (l2.length : Int) := of_decide_eq_true (by first | (with_reducible assumption) | assumption)
          obtain ⟨ad629, e629, hx629_0, hx629_1, hx629_2, hx629_3, hx629_4⟩ := at_T76 HR2.out x30_2 p629 q629
          cases e629
          replace hx629_0 := (HB.out.cell (World.block_lt_of_cell? w _ hx629_0)).trans hx629_0; replace hx629_1 := (HB.out.cell (World.block_lt_of_cell? w _ hx629_1)).trans hx629_1; replace hx629_2 := (HB.out.cell (World.block_lt_of_cell? w _ hx629_2)).trans hx629_2; replace hx629_3 := (HB.out.cell (World.block_lt_of_cell? w _ hx629_3)).trans hx629_3; replace hx629_4 := (HB.out.cell (World.block_lt_of_cell? w _ hx629_4)).trans hx629_4; replace p629 := eq_true p629; replace q629 := eq_true q629
          go_upto_region 8 with (first | ((with_reducible refine gate_dst (N := 8) rfl ?_); refine box_event ?hg (N := 8) ?hd (cs := #[.int .i64 0, .int .i64 0, .int .i64 0, .int .u64 0, .int .u64 0]) (t := 76) ?hr ?_; (case hd => rfl); (case hg => rfl); (case hr => first | (go_simp; done) | (go_simp; rfl)); intro gb630 hg w14 hbox hb; have n0_ := Aside0.mk (below_step (blA HB.out) hb); have n1_ := Aside0.mk (hbox); have n2_ := Aside0.mk ((by rw [hg]; exact (below_size (blA HB.out)) : w.heap.size ≤ gb630)); have n3_ := Aside0.mk ((by rw [hg]; exact (below_size (blA HB.out)) : w.heap.size ≤ gb630)); clear HB; have HB := n0_; have BK630 := n1_; have GW630 := n2_; have GE630 := n3_; clear n0_ n1_ n2_ n3_; clear hb hbox hg; have hcz15 := fun i => blk_cell BK630.out i; have hfz15 := fun i => blk_frozen BK630.out i; ))
          repeat (go_quiet (first | ((with_reducible refine gate_dst (N := 8) rfl ?_); refine box_event ?hg (N := 8) ?hd (cs := #[.int .i64 0, .int .i64 0, .int .i64 0, .int .u64 0, .int .u64 0]) (t := 76) ?hr ?_; (case hd => rfl); (case hg => rfl); (case hr => first | (go_simp; done) | (go_simp; rfl)); intro gb630 hg w14 hbox hb; have n0_ := Aside0.mk (below_step (blA HB.out) hb); have n1_ := Aside0.mk (hbox); have n2_ := Aside0.mk ((by rw [hg]; exact (below_size (blA HB.out)) : w.heap.size ≤ gb630)); have n3_ := Aside0.mk ((by rw [hg]; exact (below_size (blA HB.out)) : w.heap.size ≤ gb630)); clear HB; have HB := n0_; have BK630 := n1_; have GW630 := n2_; have GE630 := n3_; clear n0_ n1_ n2_ n3_; clear hb hbox hg; have hcz15 := fun i => blk_cell BK630.out i; have hfz15 := fun i => blk_frozen BK630.out i; )); go_upto_region 8 with (first | ((with_reducible refine gate_dst (N := 8) rfl ?_); refine box_event ?hg (N := 8) ?hd (cs := #[.int .i64 0, .int .i64 0, .int .i64 0, .int .u64 0, .int .u64 0]) (t := 76) ?hr ?_; (case hd => rfl); (case hg => rfl); (case hr => first | (go_simp; done) | (go_simp; rfl)); intro gb630 hg w14 hbox hb; have n0_ := Aside0.mk (below_step (blA HB.out) hb); have n1_ := Aside0.mk (hbox); have n2_ := Aside0.mk ((by rw [hg]; exact (below_size (blA HB.out)) : w.heap.size ≤ gb630)); have n3_ := Aside0.mk ((by rw [hg]; exact (below_size (blA HB.out)) : w.heap.size ≤ gb630)); clear HB; have HB := n0_; have BK630 := n1_; have GW630 := n2_; have GE630 := n3_; clear n0_ n1_ n2_ n3_; clear hb hbox hg; have hcz15 := fun i => blk_cell BK630.out i; have hfz15 := fun i => blk_frozen BK630.out i; )))
          (try simp only [Act.put, List.setIfInBounds_toArray, List.set_cons_zero, List.set_cons_succ])
          go_cut [34] (fun v34 wc => ∃ (kq : Nat) (x34_12 : Bool), v34 = .bool x34_12 ∧ Aside0 (claim_Check.j2 kq a0 a1 l2 (l2.length : Int) x30_2 x34_12 ((rd_T76 l2 x30_2).f0) ((rd_T76 l2 x30_2).f1) ((rd_T76 l2 x30_2).f2) ((rd_T76 l2 x30_2).f3.f0) ((rd_T76 l2 x30_2).f3.f1) = some r) ∧ Aside0 (kq ≤ k2) ∧ Aside0 (wc.heap[gb630]? = some (.cells #[.int .i64 ((rd_T76 l2 x30_2).f0), .int .i64 ((rd_T76 l2 x30_2).f1), .int .i64 ((rd_T76 l2 x30_2).f2), .int .u64 ((rd_T76 l2 x30_2).f3.f0), .int .u64 ((rd_T76 l2 x30_2).f3.f1)] 76 (0, 0))) ∧ Aside0 (Below w.heap.size w wc))
          case first =>
           have H := HC13.out; clear HC13
           by_cases c16 : ((rd_T76 l2 x30_2).f0) < 0
           ·rw [if_pos c16] at H
            have c16b0 : decide (((rd_T76 l2 x30_2).f0) < 0) = true := decide_eq_true c16; clear c16
            (first | rw [c16b0] | (simp only [i64_w, i32_w]; rw [c16b0]) | skip)
            have H' := Aside0.mk H; clear H
            have hcz17 := fun i => blk_cell BK630.out i
            have hfz17 := fun i => blk_frozen BK630.out i
            go_wp2
            repeat (go_quiet (fail); try go_wp2)
            go_meet
            case rel => exact ⟨_, (true), eqA, H', ⟨by have := HJ3.out; have := HK2.out; first | omega | exact Nat.le_refl _⟩, ⟨by refine bkA ?_; refine blk_put (cs := #[.int .i64 ((rd_T76 l2 x30_2).f0), .int .i64 ((rd_T76 l2 x30_2).f1), .int .i64 ((rd_T76 l2 x30_2).f2), .int .u64 ((rd_T76 l2 x30_2).f3.f0), .int .u64 0]) ?_ 4 _ rfl; refine bkA ?_; refine blk_put (cs := #[.int .i64 ((rd_T76 l2 x30_2).f0), .int .i64 ((rd_T76 l2 x30_2).f1), .int .i64 ((rd_T76 l2 x30_2).f2), .int .u64 0, .int .u64 0]) ?_ 3 _ rfl; refine bkA ?_; refine blk_put (cs := #[.int .i64 ((rd_T76 l2 x30_2).f0), .int .i64 ((rd_T76 l2 x30_2).f1), .int .i64 0, .int .u64 0, .int .u64 0]) ?_ 2 _ rfl; refine bkA ?_; refine blk_put (cs := #[.int .i64 ((rd_T76 l2 x30_2).f0), .int .i64 0, .int .i64 0, .int .u64 0, .int .u64 0]) ?_ 1 _ rfl; refine bkA ?_; refine blk_put (cs := #[.int .i64 0, .int .i64 0, .int .i64 0, .int .u64 0, .int .u64 0]) ?_ 0 _ rfl; refine bkA ?_; exact BK630.out⟩, ⟨blA HB.out⟩⟩
           ·rw [if_neg c16] at H
            have c16b0 : decide (((rd_T76 l2 x30_2).f0) < 0) = false := decide_eq_false c16; clear c16
            (first | rw [c16b0] | (simp only [i64_w, i32_w]; rw [c16b0]) | skip)
            by_cases c18 : 0 ≤ a0
            ·rw [if_pos c18] at H
             have c18b0 := eq_true c18; have c18b1 : decide (0 ≤ a0) = true := decide_eq_true c18; clear c18
             obtain ⟨ji19, hji19⟩ : ∃ j_ : Int, (shl .i64 1 a0) = j_ := ⟨_, rfl⟩
             replace H : (claim_Check.j2 k2 a0 a1 l2 (l2.length : Int) x30_2 (decide (((rd_T76 l2 x30_2).f0) ≥ (ji19))) ((rd_T76 l2 x30_2).f0) ((rd_T76 l2 x30_2).f1) ((rd_T76 l2 x30_2).f2) ((rd_T76 l2 x30_2).f3.f0) ((rd_T76 l2 x30_2).f3.f1)) = some r := by first | (rw [hji19] at H; exact H) | (simp only [hji19] at H ⊢; exact H)
             have hji19_ : (IntKind.i64.wrap (1 * 2 ^ min a0.toNat 64)) = ji19 := hji19; have hji19z : a0 ≤ 64 → (IntKind.i64.wrap (1 * 2 ^ a0.toNat)) = ji19 := shl_small hji19
             have hji19u : (IntKind.i64.wrap (2 ^ min a0.toNat 64)) = ji19 := by have h_ := hji19_; rw [Int.one_mul] at h_; exact h_
             have hji19v : a0 ≤ 64 → (IntKind.i64.wrap (2 ^ a0.toNat)) = ji19 := fun hle_ => by have h_ := hji19z hle_; rw [Int.one_mul] at h_; exact h_
             have hji19y : (wrap64 (1 * 2 ^ min a0.toNat 64)) = ji19 := (i64_w _).symm.trans hji19_
             have hji19x : a0 ≤ 64 → (wrap64 (1 * 2 ^ a0.toNat)) = ji19 := fun h_ => (i64_w _).symm.trans (hji19z h_)
             have H' := Aside0.mk H; clear H
             have hcz20 := fun i => blk_cell BK630.out i
             have hfz20 := fun i => blk_frozen BK630.out i
             go_wp2
             repeat (go_quiet (fail); try go_wp2)
             go_meet
             case rel => exact ⟨_, (decide (((rd_T76 l2 x30_2).f0) ≥ (ji19))), (by first | rfl | (simp; done) | (simp only [← hji19] <;> (first | rfl | simp)) | (simp [*]; done)), H', ⟨by have := HJ3.out; have := HK2.out; first | omega | exact Nat.le_refl _⟩, ⟨by refine bkA ?_; refine blk_put (cs := #[.int .i64 ((rd_T76 l2 x30_2).f0), .int .i64 ((rd_T76 l2 x30_2).f1), .int .i64 ((rd_T76 l2 x30_2).f2), .int .u64 ((rd_T76 l2 x30_2).f3.f0), .int .u64 0]) ?_ 4 _ rfl; refine bkA ?_; refine blk_put (cs := #[.int .i64 ((rd_T76 l2 x30_2).f0), .int .i64 ((rd_T76 l2 x30_2).f1), .int .i64 ((rd_T76 l2 x30_2).f2), .int .u64 0, .int .u64 0]) ?_ 3 _ rfl; refine bkA ?_; refine blk_put (cs := #[.int .i64 ((rd_T76 l2 x30_2).f0), .int .i64 ((rd_T76 l2 x30_2).f1), .int .i64 0, .int .u64 0, .int .u64 0]) ?_ 2 _ rfl; refine bkA ?_; refine blk_put (cs := #[.int .i64 ((rd_T76 l2 x30_2).f0), .int .i64 0, .int .i64 0, .int .u64 0, .int .u64 0]) ?_ 1 _ rfl; refine bkA ?_; refine blk_put (cs := #[.int .i64 0, .int .i64 0, .int .i64 0, .int .u64 0, .int .u64 0]) ?_ 0 _ rfl; refine bkA ?_; exact BK630.out⟩, ⟨blA HB.out⟩⟩
            ·rw [if_neg c18] at H
             exact absurd H (by simp)
          case rest =>
           clear HC13; (try clear c1); (try clear c2); (try clear p2); (try clear c3); (try clear c5); (try clear c5b0); (try clear c6); (try clear c6b0); (try clear p6); (try clear q6); (try clear hx6); (try clear c7); (try clear c7b0); (try clear c8); (try clear c9); (try clear c9b0); (try clear c9b1); (try clear c10); (try clear c10b0); (try clear c11); (try clear c11b0); (try clear c12); (try clear c12b0); (try clear c16); (try clear c16b0); (try clear c18); (try clear c18b0); (try clear c18b1); (try clear hcz15); (try clear hcz17); (try clear hcz20); (try clear hfz15); (try clear hfz17); (try clear hfz20); (try clear hx629_0); (try clear hx629_1); (try clear hx629_2); (try clear hx629_3); (try clear hx629_4); (try clear p2); (try clear p629); (try clear q629); obtain ⟨kq, x34_12, rfl, HA, HJ12, BK630, HB⟩ := hcut
           cases kq with
           | zero => exact absurd HA.out (by simp [claim_Check.j2])
           | succ kj12 =>
            have H := HA.out; clear HA
            simp only [claim_Check.j2] at H
            by_cases c21 : x34_12 = true
            ·subst c21
             have H1 : (some 4) = some r := by rw [if_pos rfl] at H; exact H
             clear H; have H := H1; clear H1; obtain rfl := Option.some.inj H
             go_wp2
             repeat (go_quiet (fail); try go_wp2)
             go_ret
             exact ⟨by first | rfl | (simp [errW_none, errW_some] <;> rfl) | (simp [*, errW_none, errW_some] <;> rfl), blA HB.out⟩
            ·replace c21 := Bool.eq_false_iff.mpr c21; subst c21
             have H1 : ((turn_Fits.f ((rd_T76 l2 x30_2).f1) a1 ((rd_T76 l2 x30_2).f2)).bind fun t631 => (if t631 = true then (claim_Check.l0 kj12 a0 a1 l2 (l2.length : Int) (wrap64 (x30_2 + 1))) else (some 1))) = some r := by rw [if_neg (show ¬ (false = true) by decide)] at H; exact H
             clear H; have H := H1; clear H1; replace H := Option.bind_eq_some_iff.mp H; obtain ⟨t631, A220, H⟩ := H
             (try dsimp only at H)
             have A22 := Aside0.mk A220; clear A220
             by_cases c23 : t631 = true
             ·subst c23
              have H1 : (claim_Check.l0 kj12 a0 a1 l2 (l2.length : Int) (wrap64 (x30_2 + 1))) = some r := by rw [if_pos rfl] at H; exact H
              clear H; have H := H1; clear H1; have H' := Aside0.mk H; clear H
              have hcz24 := fun i => blk_cell BK630.out i
              have hfz24 := fun i => blk_frozen BK630.out i
              go_wp2_with (first | (go_at_call 75; (with_reducible refine (turn_Fits.calls ((rd_T76 l2 x30_2).f1) a1 ((rd_T76 l2 x30_2).f2) true _ A22.out).mono ?_); rintro e w' ⟨rfl, ⟨nd, rfl⟩⟩; (try first | exact ⟨rfl, _, World.drewN_drewN _ _ _⟩ | exact ⟨rfl, _, Eq.trans (World.drewN_drewN _ _ _) (congrArg (World.drewN _) (Nat.add_assoc _ _ _))⟩)))
              repeat (go_quiet (first | (go_at_call 75; (with_reducible refine (turn_Fits.calls ((rd_T76 l2 x30_2).f1) a1 ((rd_T76 l2 x30_2).f2) true _ A22.out).mono ?_); rintro e w' ⟨rfl, ⟨nd, rfl⟩⟩; (try first | exact ⟨rfl, _, World.drewN_drewN _ _ _⟩ | exact ⟨rfl, _, Eq.trans (World.drewN_drewN _ _ _) (congrArg (World.drewN _) (Nat.add_assoc _ _ _))⟩))); try go_wp2_with (first | (go_at_call 75; (with_reducible refine (turn_Fits.calls ((rd_T76 l2 x30_2).f1) a1 ((rd_T76 l2 x30_2).f2) true _ A22.out).mono ?_); rintro e w' ⟨rfl, ⟨nd, rfl⟩⟩; (try first | exact ⟨rfl, _, World.drewN_drewN _ _ _⟩ | exact ⟨rfl, _, Eq.trans (World.drewN_drewN _ _ _) (congrArg (World.drewN _) (Nat.add_assoc _ _ _))⟩))))
              go_roundg kj12
              case measure => have := HJ3.out; have := HK2.out; have := HJ12.out; omega
              case rel => exact ⟨(wrap64 (x30_2 + 1)), eqA, H', ⟨by have := HJ3.out; have := HK2.out; have := HJ12.out; omega⟩, ⟨blA HB.out⟩⟩
             ·replace c23 := Bool.eq_false_iff.mpr c23; subst c23
              have H1 : (some 1) = some r := by rw [if_neg (show ¬ (false = true) by decide)] at H; exact H
              clear H; have H := H1; clear H1; obtain rfl := Option.some.inj H
              have hcz25 := fun i => blk_cell BK630.out i
              have hfz25 := fun i => blk_frozen BK630.out i
              go_wp2_with (first | (go_at_call 75; (with_reducible refine (turn_Fits.calls ((rd_T76 l2 x30_2).f1) a1 ((rd_T76 l2 x30_2).f2) false _ A22.out).mono ?_); rintro e w' ⟨rfl, ⟨nd, rfl⟩⟩; (try first | exact ⟨rfl, _, World.drewN_drewN _ _ _⟩ | exact ⟨rfl, _, Eq.trans (World.drewN_drewN _ _ _) (congrArg (World.drewN _) (Nat.add_assoc _ _ _))⟩)))
              repeat (go_quiet (first | (go_at_call 75; (with_reducible refine (turn_Fits.calls ((rd_T76 l2 x30_2).f1) a1 ((rd_T76 l2 x30_2).f2) false _ A22.out).mono ?_); rintro e w' ⟨rfl, ⟨nd, rfl⟩⟩; (try first | exact ⟨rfl, _, World.drewN_drewN _ _ _⟩ | exact ⟨rfl, _, Eq.trans (World.drewN_drewN _ _ _) (congrArg (World.drewN _) (Nat.add_assoc _ _ _))⟩))); try go_wp2_with (first | (go_at_call 75; (with_reducible refine (turn_Fits.calls ((rd_T76 l2 x30_2).f1) a1 ((rd_T76 l2 x30_2).f2) false _ A22.out).mono ?_); rintro e w' ⟨rfl, ⟨nd, rfl⟩⟩; (try first | exact ⟨rfl, _, World.drewN_drewN _ _ _⟩ | exact ⟨rfl, _, Eq.trans (World.drewN_drewN _ _ _) (congrArg (World.drewN _) (Nat.add_assoc _ _ _))⟩))))
              go_ret
              exact ⟨by first | rfl | (simp [errW_none, errW_some] <;> rfl) | (simp [*, errW_none, errW_some] <;> rfl), blA HB.out⟩
         ·rw [if_neg c12] at H
          exact absurd H (by simp)
        ·rw [if_neg c11] at H
         exact absurd H (by simp)
       ·rw [if_neg c10] at H
        have c10b0 : decide (x30_2 < (l2.length : Int)) = false := decide_eq_false c10; clear c10; obtain rfl := Option.some.inj H
        go_wp2
        repeat (go_quiet (fail); try go_wp2)
        go_ret
        exact ⟨by first | rfl | (simp [errW_none, errW_some] <;> rfl) | (simp [*, errW_none, errW_some] <;> rfl), blA HB.out⟩
end Go.Proofs.Ythiiodgpdoljoaa.PLc
namespace Go.Proofs.Ythiiodgpdoljoaa.Pure
open Go.RowKit Go.Proofs.Ythiiodgpdoljoaa.PLc Go.Proofs.YthiiodgpdoljoaaW.PrintWords Go.Proofs.YthiiodgpdoljoaaW.PrintLast
set_option linter.unusedVariables false
set_option linter.unusedSimpArgs false
theorem stepDeg (k : Nat) (lv vars : Int) (o : S118) (out : List Int) (d : Int) (hlv : lv = 0 ∨ lv = 7) (h : deg vars o out = some d) :
    expr_step.f (k + 4) lv vars o.f0 o.f1 o.f2 o.f3.f0 o.f3.f1 out = some (d, 0) := by
  obtain ⟨f0, f1, f2, ⟨v0, v1⟩⟩ := o
  simp only [deg] at h
  by_cases hv : v0 = 0
  · rw [if_pos hv] at h
    subst hv
    by_cases h1 : f0 = 1 ∧ f1 = 0 ∧ f2 = 0 ∧ v1 = 1
    · rw [if_pos h1] at h
      obtain ⟨rfl, rfl, rfl, rfl⟩ := h1
      obtain rfl := Option.some.inj h
      rcases hlv with rfl | rfl <;> simp [expr_step.f, expr_step.j0, octet_Of.f, octetOf]
    · rw [if_neg h1] at h
      by_cases hv1 : v1 = 0
      · rw [if_pos hv1] at h
        subst hv1
        by_cases h2 : f0 = 2 ∧ f2 = 0 ∧ 0 ≤ f1 ∧ f1 < vars
        · rw [if_pos h2] at h
          obtain ⟨rfl, rfl, a1, a2⟩ := h2
          obtain rfl := Option.some.inj h
          have b1 : ¬ f1 < 0 := by omega
          have b2 : ¬ f1 ≥ vars := by omega
          simp [expr_step.f, expr_step.j0, expr_step.j1, b1, a2]
        · rw [if_neg h2] at h
          by_cases h3 : f0 = 3 ∧ 0 ≤ f1 ∧ f1 < out.length ∧ 0 ≤ f2 ∧ f2 < out.length
          · rw [if_pos h3] at h
            obtain ⟨rfl, a1, a2, a3, a4⟩ := h3
            obtain rfl := Option.some.inj h
            simp [expr_step.f, expr_step.j0, expr_step.j1, expr_step.j2, expr_ahead.f, a1, a2, a3, a4]
          · rw [if_neg h3] at h
            by_cases h4 : f0 = 4 ∧ 0 ≤ f1 ∧ f1 < out.length ∧ 0 ≤ f2 ∧ f2 < out.length
            · rw [if_pos h4] at h
              obtain ⟨rfl, a1, a2, a3, a4⟩ := h4
              obtain rfl := Option.some.inj h
              simp [expr_step.f, expr_step.j0, expr_step.j1, expr_step.j2, expr_ahead.f, a1, a2, a3, a4]
            · rw [if_neg h4] at h; cases h
      · rw [if_neg hv1] at h; cases h
  · rw [if_neg hv] at h; cases h
theorem degLoop (lv vars : Int) (hlv : lv = 0 ∨ lv = 7) (l : List S118) (hl : l.length ≤ 1000) (n : Nat) : ∀ (k i : Nat) (out r : List Int), l.length - i = n → i ≤ l.length → run vars (l.drop i) out = some r → out.length = i → 3 * n + 8 < k →
    expr_degrees.l0 k lv vars out l (l.length : Int) (i : Int) = some (r, 0) := by
  induction n with
  | zero =>
    intro k i out r hd hi hr ho hk
    obtain ⟨k, rfl⟩ : ∃ m, k = m + 1 := ⟨k - 1, by omega⟩
    rw [List.drop_of_length_le (by omega)] at hr
    obtain rfl := Option.some.inj hr
    simp only [expr_degrees.l0]
    rw [if_neg (by omega)]
  | succ n ih =>
    intro k i out r hd hi hr ho hk
    have hlt : i < l.length := by omega
    rw [List.drop_eq_getElem_cons hlt] at hr
    simp only [run] at hr
    obtain ⟨d, hdeg, hr⟩ := Option.bind_eq_some_iff.mp hr
    by_cases h8 : d ≤ 8
    · rw [if_pos h8] at hr
      obtain ⟨k, rfl⟩ : ∃ m, k = m + 1 + 1 := ⟨k - 2, by omega⟩
      have e : rd_T118 l (i : Int) = l[i] := by simp [rd_T118, List.getD_eq_getElem?_getD, hlt]
      have hs := stepDeg (k + 1 - 4) lv vars l[i] out d hlv hdeg
      rw [show k + 1 - 4 + 4 = k + 1 from by omega] at hs
      have hr' := ih k (i + 1) (out ++ [d]) r (by omega) (by omega) hr (by simp; omega) (by omega)
      simp only [expr_degrees.l0]
      rw [if_pos (by omega), if_pos (by omega), if_pos (by omega), e, hs]
      simp only [Option.bind_some, if_true, expr_degrees.j2]
      rw [decide_eq_false (show ¬ d > 8 by omega)]
      simp only [Bool.false_eq_true, if_false]
      rw [if_pos (by omega), w64 (by omega) (by omega)]
      exact hr'
    · rw [if_neg h8] at hr; cases hr
theorem exprDegrees (k : Nat) (lv vars : Int) (hlv : lv = 0 ∨ lv = 7) (hv : 0 ≤ vars) (c : List S118) (r : List Int) (h0 : 0 < c.length) (h20 : c.length ≤ 20) (hr : run vars c [] = some r) (hk : 100 < k) :
    expr_degrees.f k lv vars c = some (r, 0) := by
  have hw : ∃ x, octet_Wide.f k lv = some x ∧ x ≠ 0 := by
    obtain ⟨m, rfl⟩ : ∃ m, k = m + 1 := ⟨k - 1, by omega⟩
    rcases hlv with rfl | rfl
    · exact ⟨1, by simp [octet_Wide.f, octet_Wide.j0], by decide⟩
    · exact ⟨16, by simp [octet_Wide.f, octet_Wide.j0, wrap64, shl]; try decide, by decide⟩
  obtain ⟨x, hx, hx0⟩ := hw
  unfold expr_degrees.f
  rw [hx]
  simp only [Option.bind_some]
  rw [if_neg hx0, decide_eq_false (by omega)]
  obtain ⟨m, rfl⟩ : ∃ m, k = m + 1 := ⟨k - 1, by omega⟩
  simp only [expr_degrees.j0, Bool.false_eq_true, if_false]
  rw [if_neg (by omega), if_neg (by omega)]
  exact degLoop lv vars hlv c (by omega) c.length m 0 [] r (by omega) (by omega) (by simpa using hr) rfl (by omega)
theorem exprCheck (k : Nat) (n : Int) (hn : 0 ≤ n) (c : List S118) (h : condOk n c) (hk : 100 < k) : expr_Check.f k 0 n c = some 0 := by
  obtain ⟨h20, h0, r, hr, _⟩ := h
  unfold expr_Check.f
  rw [exprDegrees k 0 n (Or.inl rfl) hn c r h0 h20 hr hk]
  rfl
theorem exprDegree (k : Nat) (c : List S118) (h : condOk 9223372036854775807 c) (hk : 100 < k) : ∃ d, expr_Degree.f k c = some d ∧ d ≤ 2 := by
  obtain ⟨h20, h0, r, hr, hl, h2⟩ := h
  unfold expr_Degree.f
  rw [exprDegrees k 7 9223372036854775807 (Or.inr rfl) (by decide) c r h0 h20 hr hk]
  simp only [Option.bind_some, if_true]
  refine ⟨_, ?_, h2⟩
  rw [if_pos (by rw [w64 (by omega) (by omega)]; omega), if_pos (by rw [w64 (by omega) (by omega)]; omega)]
theorem claimLoop (cols wide n : Int) (hc : 0 ≤ cols) (hc6 : cols ≤ 6) (hn : n ≤ p2 cols) (W : List S76) (hW : W.length ≤ 200) (hz : ∀ x ∈ W, okW wide n x) (d : Nat) : ∀ (k i : Nat), W.length - i = d → i ≤ W.length → 3 * d + 8 < k →
    claim_Check.l0 k cols wide W (W.length : Int) (i : Int) = some 0 := by
  have hs := shl_p2 hc hc6
  induction d with
  | zero =>
    intro k i hd hi hk
    obtain ⟨k, rfl⟩ : ∃ m, k = m + 1 := ⟨k - 1, by omega⟩
    simp only [claim_Check.l0]
    rw [if_neg (by omega)]
  | succ d ih =>
    intro k i hd hi hk
    obtain ⟨k, rfl⟩ : ∃ m, k = m + 1 + 1 := ⟨k - 2, by omega⟩
    have hlt : i < W.length := by omega
    have e : rd_T76 W (i : Int) = W[i] := by simp [rd_T76, List.getD_eq_getElem?_getD, hlt]
    obtain ⟨a1, a2, a3⟩ := hz W[i] (List.getElem_mem hlt)
    have hr := ih k (i + 1) (by omega) (by omega) (by omega)
    simp only [claim_Check.l0]
    rw [if_pos (by omega), if_pos (by omega), if_pos (by omega), e, if_neg (by omega), if_pos hc, hs, decide_eq_false (by omega)]
    simp only [claim_Check.j2, Bool.false_eq_true, if_false, turnFits, a3, Option.bind_some, if_true]
    rw [w64 (by omega) (by omega)]
    exact hr
theorem claimCheck (k : Nat) (cols wide n : Int) (hc : 0 ≤ cols) (hc6 : cols ≤ 6) (hw : 0 ≤ wide) (hw6 : wide ≤ 6) (hn : n ≤ p2 cols) (W : List S76) (hW : W.length ≤ 200) (hz : ∀ x ∈ W, okW wide n x) (hk : 700 < k) :
    claim_Check.f k cols wide W = some 0 := by
  unfold claim_Check.f
  rw [if_neg (by omega), if_neg (by omega), if_neg (by omega), decide_eq_false (by omega)]
  obtain ⟨m, rfl⟩ : ∃ m, k = m + 1 := ⟨k - 1, by omega⟩
  simp only [claim_Check.j0, Bool.false_eq_true, if_false]
  rw [if_neg (by omega)]
  exact claimLoop cols wide n hc hc6 hn W hW hz W.length m 0 (by omega) (by omega) (by omega)
end Go.Proofs.Ythiiodgpdoljoaa.Pure
namespace Go.Proofs.Ythiiodgpdoljoaa.PLc
open Go.RowKit Go.Proofs.YthiiodgpdoljoaaW.PrintWords Go.Proofs.YthiiodgpdoljoaaW.PrintLast Go.Proofs.YthiiodgpdoljoaaW.PrintMore
attribute [local go_sem] max2_int min2_int max_two min_two max_three min_three max_four min_four   -- for this text's walks alone
set_option linter.unusedVariables false
set_option linter.unusedSimpArgs false
/-! ### circuit_lay: function 58 -/
/-- What lay answers: the error, or the board. -/
def layErr (w : Int) (l : List S105) (e : Int) : Int := if e ≠ 0 then e else if (gateAll w l).cs.length > 40 then 2 else 0
def layBd (w : Int) (l : List S105) (e : Int) : Bd := if layErr w l e = 0 then gateAll w l else ⟨[], [], []⟩
def LayPost (w : World) (b : Bd) (r : Int) (e : Ending) (w' : World) : Prop :=
 ∃ (vw vc : Value) (Al : Option Addr) (nl kl : Nat), e = .returned (.tuple #[.agg #[vw, vc, .slice Al nl kl], .int .i64 r]) ∧ Kd.R k76 76 w' w.heap.size (fun _ => True) vw b.ws ∧ Kd.R (Kd.slice 118 k118) 50 w' w.heap.size (fun _ => True) vc b.cs ∧ Below w.heap.size w w'
theorem ne_new {w : World} {g g' : Nat} {o : Obj} (h : w.heap[g]? = some o) (hg : g' = w.heap.size) : g ≠ g' := by have := blk_lt h; omega
set_option maxHeartbeats 4000000 in
set_option maxRecDepth 100000 in
theorem lay_err (k : Nat) (s0 s1 s2 s3 s4 : Int) (As : Option Addr) (cs : Nat) (gates : List S105) (e0 : Int) (w : World) (hr : Kd.C k105 w As gates.length gates) (hc : gates.length ≤ cs) (h : circuit_Check.f k s0 s1 s2 s3 s4 gates = some e0) (he : (e0 != 0) = true) :
  Calls Try.prog 58 #[.agg #[.int .i64 s0, .int .i64 s1, .int .i64 s2, .int .i64 s3, .int .i64 s4, .slice As gates.length cs]] w (LayPost w ⟨[], [], []⟩ e0) := by
 have HE := Aside0.mk he; clear he
 have HRD := Aside0.mk hr; have HC := Aside0.mk hc; have HCK := Aside0.mk h
 clear hr hc h; have hu24 := Try.underlying24; have hu108 := Try.underlying108; have hu105 := Try.underlying105
 go_enter Try.func58, Try.ntmps58
 have hne := HE.out
 go_wp2_with (first | ((with_reducible refine gate_dst (N := 1) rfl ?_); refine box_event rfl (N := 1) rfl (cs := #[.int .i64 s0, .int .i64 s1, .int .i64 s2, .int .i64 s3, .int .i64 s4, .slice As gates.length cs]) (t := 24) (by first | (go_simp; done) | (go_simp; rfl)) ?_; intro gs hgs wgs hbox hb; have BKgs := Aside0.mk hbox; have HBgs := Aside0.mk hb; clear hbox hb hgs; have hcs0 := (blk_cell BKgs.out 0).trans rfl; have hcs1 := (blk_cell BKgs.out 1).trans rfl; have hcs2 := (blk_cell BKgs.out 2).trans rfl; have hcs3 := (blk_cell BKgs.out 3).trans rfl; have hcs4 := (blk_cell BKgs.out 4).trans rfl; have hcs5 := (blk_cell BKgs.out 5).trans rfl; have HBW := Aside0.mk HBgs.out) | ((with_reducible refine gate_dst (N := 2) rfl ?_); refine box_event rfl (N := 2) rfl (cs := #[.slice none 0 0, .slice none 0 0, .slice none 0 0]) (t := 108) (by first | (go_simp; done) | (go_simp; rfl)) ?_; intro gr hgr wgr hbox hb; have GEr := Aside0.mk (by rw [hgr]; exact below_size HBW.out : w.heap.size ≤ gr); have NSR := Aside0.mk (ne_new BKgs.out hgr); have BKgr := Aside0.mk hbox; have HBgr := Aside0.mk hb; clear hbox hb hgr; replace BKgs := Aside0.mk (blk_below BKgs.out HBgr.out); replace HBW := Aside0.mk (below_step HBW.out HBgr.out); have hcs0 := (blk_cell BKgs.out 0).trans rfl; have hcs1 := (blk_cell BKgs.out 1).trans rfl; have hcs2 := (blk_cell BKgs.out 2).trans rfl; have hcs3 := (blk_cell BKgs.out 3).trans rfl; have hcs4 := (blk_cell BKgs.out 4).trans rfl; have hcs5 := (blk_cell BKgs.out 5).trans rfl) | ((with_reducible refine gate_dst (N := 4) rfl ?_); refine box_event rfl (N := 4) rfl (cs := #[.slice none 0 0, .slice none 0 0, .slice none 0 0]) (t := 108) (by first | (go_simp; done) | (go_simp; rfl)) ?_; intro gb hgb wgb hbox hb; have GEb := Aside0.mk (by rw [hgb]; exact below_size HBW.out : w.heap.size ≤ gb); have NER := Aside0.mk (ne_new BKgr.out hgb); have NES := Aside0.mk (ne_new BKgs.out hgb); have BKgb := Aside0.mk hbox; have HBgb := Aside0.mk hb; clear hbox hb hgb; replace BKgs := Aside0.mk (blk_below BKgs.out HBgb.out); replace BKgr := Aside0.mk (blk_below BKgr.out HBgb.out); replace HBW := Aside0.mk (below_step HBW.out HBgb.out); have hcs0 := (blk_cell BKgs.out 0).trans rfl; have hcs1 := (blk_cell BKgs.out 1).trans rfl; have hcs2 := (blk_cell BKgs.out 2).trans rfl; have hcs3 := (blk_cell BKgs.out 3).trans rfl; have hcs4 := (blk_cell BKgs.out 4).trans rfl; have hcs5 := (blk_cell BKgs.out 5).trans rfl) | (go_at_call 21; (with_reducible refine (circuit_Check.calls k s0 s1 s2 s3 s4 As cs gates e0 _ (Kd.C_below HRD.out HBW.out) HC.out HCK.out).mono ?_); rintro e w' ⟨rfl, hb⟩; replace BKgs := Aside0.mk (blk_below BKgs.out hb); replace BKgr := Aside0.mk (blk_below BKgr.out hb); replace BKgb := Aside0.mk (blk_below BKgb.out hb); replace HBW := Aside0.mk (below_step HBW.out hb); clear hb; have hcs0 := (blk_cell BKgs.out 0).trans rfl; have hcs1 := (blk_cell BKgs.out 1).trans rfl; have hcs2 := (blk_cell BKgs.out 2).trans rfl; have hcs3 := (blk_cell BKgs.out 3).trans rfl; have hcs4 := (blk_cell BKgs.out 4).trans rfl; have hcs5 := (blk_cell BKgs.out 5).trans rfl; have hcgb0 := (blk_cell BKgb.out 0).trans rfl; have hfgb0 := blk_frozen BKgb.out 0; have hcgb1 := (blk_cell BKgb.out 1).trans rfl; have hfgb1 := blk_frozen BKgb.out 1; have hcgb2 := (blk_cell BKgb.out 2).trans rfl; have hfgb2 := blk_frozen BKgb.out 2; have hcgr0 := (blk_cell BKgr.out 0).trans rfl; have hfgr0 := blk_frozen BKgr.out 0; have hcgr1 := (blk_cell BKgr.out 1).trans rfl; have hfgr1 := blk_frozen BKgr.out 1; have hcgr2 := (blk_cell BKgr.out 2).trans rfl; have hfgr2 := blk_frozen BKgr.out 2))
 refine bodyPost_ret (results_ct rfl _ _ gr 108 #[.slice none 0 0, .slice none 0 0, .slice none 0 0] (0, 0) _ rfl (blk_set (blk_set (blk_set BKgr.out 0 _) 1 _) 2 _) Try.underlying108 rfl (by kernel_rfl)) rfl ?_
 exact ⟨_, _, _, _, _, rfl, Kd.R_nil _ _ _ _ _, Kd.R_nil _ _ _ _ _, ((HBW.out.setCell GEr.out _).setCell GEr.out _).setCell GEr.out _⟩
theorem BrdS.setOther {base : Nat} {w0 w : World} {g n : Nat} {b : Bd} (h : BrdS base w0 w g b n) {k : Nat} {cells : Array Value} (hk : w.heap[k]? = some (.cells cells 105 (0, 0))) (hb : base ≤ k) (h0 : w0.heap.size ≤ k) (j : Nat) (v : Value) : BrdS base w0 (w.setCell ⟨k, j, none⟩ v) g b n := by
 obtain ⟨⟨vw, vc, vl, bg, hbg, rw, rc, rl⟩, hB, hS, hT⟩ := h
 refine ⟨⟨vw, vc, vl, blk_far bg (blk_ne bg hk (by decide)) v, hbg, Kd.R_set rw hk (by decide) j v, Kd.R_set rc hk (by decide) j v, Kd.R_set rl hk (by decide) j v⟩, hB.setCell hb _, hS, fun k' cells' t hk' a b' c d => blk_far (hT k' cells' t hk' a b' c d) (by have := blk_lt hk'; show k' ≠ k; omega) v⟩
theorem below_size0 {base : Nat} {w w' : World} (h : Below base w w') (hz : base ≤ w.heap.size) : w.heap.size ≤ w'.heap.size := h.size
set_option maxHeartbeats 4000000 in
set_option maxRecDepth 100000 in
theorem lay_ok (k : Nat) (s0 s1 s2 s3 s4 : Int) (As : Option Addr) (cs : Nat) (gates : List S105) (e0 : Int) (w : World) (hr : Kd.C k105 w As gates.length gates) (hc : gates.length ≤ cs) (h : circuit_Check.f k s0 s1 s2 s3 s4 gates = some e0) (he : e0 = 0) (hk : ∀ g ∈ gates, 1 ≤ g.f0 ∧ g.f0 ≤ 8) (hlen : gates.length ≤ 100) :
  Calls Try.prog 58 #[.agg #[.int .i64 s0, .int .i64 s1, .int .i64 s2, .int .i64 s3, .int .i64 s4, .slice As gates.length cs]] w (LayPost w (layBd s0 gates 0) (layErr s0 gates 0)) := by
 subst he
 have HKK := Aside0.mk hk; clear hk
 have HRD := Aside0.mk hr; have HC := Aside0.mk hc; have HCK := Aside0.mk h
 clear hr hc h; have hu24 := Try.underlying24; have hu108 := Try.underlying108; have hu105 := Try.underlying105
 go_enter Try.func58, Try.ntmps58
 go_wp2_with (first | ((with_reducible refine gate_dst (N := 1) rfl ?_); refine box_event rfl (N := 1) rfl (cs := #[.int .i64 s0, .int .i64 s1, .int .i64 s2, .int .i64 s3, .int .i64 s4, .slice As gates.length cs]) (t := 24) (by first | (go_simp; done) | (go_simp; rfl)) ?_; intro gs hgs wgs hbox hb; have BKgs := Aside0.mk hbox; have HBgs := Aside0.mk hb; clear hbox hb hgs; have hcs0 := (blk_cell BKgs.out 0).trans rfl; have hcs1 := (blk_cell BKgs.out 1).trans rfl; have hcs2 := (blk_cell BKgs.out 2).trans rfl; have hcs3 := (blk_cell BKgs.out 3).trans rfl; have hcs4 := (blk_cell BKgs.out 4).trans rfl; have hcs5 := (blk_cell BKgs.out 5).trans rfl; have HBW := Aside0.mk HBgs.out) | ((with_reducible refine gate_dst (N := 2) rfl ?_); refine box_event rfl (N := 2) rfl (cs := #[.slice none 0 0, .slice none 0 0, .slice none 0 0]) (t := 108) (by first | (go_simp; done) | (go_simp; rfl)) ?_; intro gr hgr wgr hbox hb; have GEr := Aside0.mk (by rw [hgr]; exact below_size HBW.out : w.heap.size ≤ gr); have NSR := Aside0.mk (ne_new BKgs.out hgr); have BKgr := Aside0.mk hbox; have HBgr := Aside0.mk hb; clear hbox hb hgr; replace BKgs := Aside0.mk (blk_below BKgs.out HBgr.out); replace HBW := Aside0.mk (below_step HBW.out HBgr.out); have hcs0 := (blk_cell BKgs.out 0).trans rfl; have hcs1 := (blk_cell BKgs.out 1).trans rfl; have hcs2 := (blk_cell BKgs.out 2).trans rfl; have hcs3 := (blk_cell BKgs.out 3).trans rfl; have hcs4 := (blk_cell BKgs.out 4).trans rfl; have hcs5 := (blk_cell BKgs.out 5).trans rfl) | ((with_reducible refine gate_dst (N := 4) rfl ?_); refine box_event rfl (N := 4) rfl (cs := #[.slice none 0 0, .slice none 0 0, .slice none 0 0]) (t := 108) (by first | (go_simp; done) | (go_simp; rfl)) ?_; intro gb hgb wgb hbox hb; have GEb := Aside0.mk (by rw [hgb]; exact below_size HBW.out : w.heap.size ≤ gb); have NER := Aside0.mk (ne_new BKgr.out hgb); have NES := Aside0.mk (ne_new BKgs.out hgb); have BKgb := Aside0.mk hbox; have HBgb := Aside0.mk hb; clear hbox hb hgb; replace BKgs := Aside0.mk (blk_below BKgs.out HBgb.out); replace BKgr := Aside0.mk (blk_below BKgr.out HBgb.out); replace HBW := Aside0.mk (below_step HBW.out HBgb.out); have hcs0 := (blk_cell BKgs.out 0).trans rfl; have hcs1 := (blk_cell BKgs.out 1).trans rfl; have hcs2 := (blk_cell BKgs.out 2).trans rfl; have hcs3 := (blk_cell BKgs.out 3).trans rfl; have hcs4 := (blk_cell BKgs.out 4).trans rfl; have hcs5 := (blk_cell BKgs.out 5).trans rfl) | (go_at_call 21; (with_reducible refine (circuit_Check.calls k s0 s1 s2 s3 s4 As cs gates 0 _ (Kd.C_below HRD.out HBW.out) HC.out HCK.out).mono ?_); rintro e wS ⟨rfl, hb⟩; replace BKgs := Aside0.mk (blk_below BKgs.out hb); replace BKgr := Aside0.mk (blk_below BKgr.out hb); replace BKgb := Aside0.mk (blk_below BKgb.out hb); replace HBW := Aside0.mk (below_step HBW.out hb); clear hb; have hcs0 := (blk_cell BKgs.out 0).trans rfl; have hcs1 := (blk_cell BKgs.out 1).trans rfl; have hcs2 := (blk_cell BKgs.out 2).trans rfl; have hcs3 := (blk_cell BKgs.out 3).trans rfl; have hcs4 := (blk_cell BKgs.out 4).trans rfl; have hcs5 := (blk_cell BKgs.out 5).trans rfl; have hcgb0 := (blk_cell BKgb.out 0).trans rfl; have hfgb0 := blk_frozen BKgb.out 0; have hcgb1 := (blk_cell BKgb.out 1).trans rfl; have hfgb1 := blk_frozen BKgb.out 1; have hcgb2 := (blk_cell BKgb.out 2).trans rfl; have hfgb2 := blk_frozen BKgb.out 2; have hcgr0 := (blk_cell BKgr.out 0).trans rfl; have hfgr0 := blk_frozen BKgr.out 0; have hcgr1 := (blk_cell BKgr.out 1).trans rfl; have hfgr1 := blk_frozen BKgr.out 1; have hcgr2 := (blk_cell BKgr.out 2).trans rfl; have hfgr2 := blk_frozen BKgr.out 2))
 have HS0 : Aside0 (BrdS w.heap.size wS wS gb (gateAll s0 (gates.take 0)) (60 * 0)) := Aside0.mk ⟨⟨_, _, _, BKgb.out, GEb.out, Kd.R_nil _ _ _ _ _, Kd.R_nil _ _ _ _ _, Kd.R_nil _ _ _ _ _⟩, Below.refl _ _, ⟨by simp [gateAll], by simp [gateAll], by simp [gateAll]⟩, TK.refl _ _⟩
 have NGs := Aside0.mk (blk_ne BKgs.out BKgb.out (by decide))
 have HZS := Aside0.mk (below_size HBW.out); clear hcgb0 hcgr0 hfgb0 hfgr0; clear hcgb1 hcgr1 hfgb1 hfgr1; clear hcgb2 hcgr2 hfgb2 hfgr2
 go_loopg [17] (gates.length + 1) (fun kq v17 wc => ∃ i : Nat, v17 = .int .i64 (i : Int) ∧ i + kq = gates.length + 1 ∧ i ≤ gates.length ∧ Aside0 (BrdS w.heap.size wS wc gb (gateAll s0 (gates.take i)) (60 * i)))
 case atStart => exact ⟨0, rfl, by omega, by omega, HS0⟩
 case round =>
  obtain ⟨i, rfl, hi, hile, HS⟩ := hrel
  have BKs_ := Aside0.mk (HS.out.kept gs _ 24 BKgs.out (by decide) (by decide) (by decide) NGs.out)
  have BKr_ := Aside0.mk (HS.out.kept gr _ 108 BKgr.out (by decide) (by decide) (by decide) (fun e => NER.out e))
  clear HS0
  by_cases hlt : i < gates.length
  ·have hd1 : decide ((i : Int) < (gates.length : Int)) = true := by simp; omega
   have hd2 : decide (i < gates.length) = true := by simp; omega
   have HX := Kd.C_below HRD.out (HBW.out.trans HS.out.below)
   obtain ⟨ad, eA, hx0, hx1, hx2, hx3, hx4⟩ := at_T105 HX (i : Int) (by omega) (by omega)
   subst eA
   simp only [Int.toNat_natCast] at hx0 hx1 hx2 hx3 hx4
   have hp := eq_true (show (0 : Int) ≤ (i : Int) by omega)
   have hq := eq_true (show (i : Int) < (gates.length : Int) by omega)
   have hmem : rd_T105 gates (i : Int) = gates[i] := by simp [rd_T105, List.getD_eq_getElem?_getD, hlt]
   have hk1 : 1 ≤ (rd_T105 gates (i : Int)).f0 := by rw [hmem]; exact (HKK.out _ (List.getElem_mem hlt)).1
   have hk8 : (rd_T105 gates (i : Int)).f0 ≤ 8 := by rw [hmem]; exact (HKK.out _ (List.getElem_mem hlt)).2
   have HMEM := Aside0.mk hmem; clear hmem HX
   have hcs0 := (blk_cell BKs_.out 0).trans rfl; have hcs1 := (blk_cell BKs_.out 1).trans rfl; have hcs2 := (blk_cell BKs_.out 2).trans rfl; have hcs3 := (blk_cell BKs_.out 3).trans rfl; have hcs4 := (blk_cell BKs_.out 4).trans rfl; have hcs5 := (blk_cell BKs_.out 5).trans rfl
   go_wp2_with (first | ((with_reducible refine gate_dst (N := 7) rfl ?_); refine box_event rfl (N := 7) rfl (cs := #[.int .i64 0, .int .i64 0, .int .i64 0, .int .i64 0, .int .i64 0]) (t := 105) (by first | (go_simp; done) | (go_simp; rfl)) ?_; intro gg hgg wgg hbox hb; have GEg := Aside0.mk (by rw [hgg]; exact below_size (HBW.out.trans HS.out.below) : w.heap.size ≤ gg); have GSg := Aside0.mk (by rw [hgg]; exact below_size0 HS.out.below HZS.out : wS.heap.size ≤ gg); have hne1 : gs ≠ gg := ne_new BKs_.out hgg; have hne2 : gg ≠ gs := fun e_ => hne1 e_.symm; replace BKs_ := Aside0.mk (blk_below BKs_.out hb); replace HS := Aside0.mk (HS.out.step hb); have BKgg := Aside0.mk hbox; have hcg := (blk_cell BKgg.out 0).trans rfl; clear hbox hb hgg; have hcs0 := (blk_cell BKs_.out 0).trans rfl; have hcs1 := (blk_cell BKs_.out 1).trans rfl; have hcs2 := (blk_cell BKs_.out 2).trans rfl; have hcs3 := (blk_cell BKs_.out 3).trans rfl; have hcs4 := (blk_cell BKs_.out 4).trans rfl; have hcs5 := (blk_cell BKs_.out 5).trans rfl; have hcg0 := (blk_cell BKgg.out 0).trans rfl; have hfg0 := blk_frozen BKgg.out 0; have hcg1 := (blk_cell BKgg.out 1).trans rfl; have hfg1 := blk_frozen BKgg.out 1; have hcg2 := (blk_cell BKgg.out 2).trans rfl; have hfg2 := blk_frozen BKgg.out 2; have hcg3 := (blk_cell BKgg.out 3).trans rfl; have hfg3 := blk_frozen BKgg.out 3; have hcg4 := (blk_cell BKgg.out 4).trans rfl; have hfg4 := blk_frozen BKgg.out 4) | (go_at_call 88; (with_reducible refine (circuit_board_gate.calls s0 s1 s2 s3 s4 (some ad) gates.length cs (rd_T105 gates (i : Int)) ((((((HS.out).setOther (BKgg.out) GEg.out GSg.out 0 (.int .i64 (rd_T105 gates (i : Int)).f0)).setOther (blk_set (BKgg.out) 0 (.int .i64 (rd_T105 gates (i : Int)).f0)) GEg.out GSg.out 1 (.int .i64 (rd_T105 gates (i : Int)).f1)).setOther (blk_set (blk_set (BKgg.out) 0 (.int .i64 (rd_T105 gates (i : Int)).f0)) 1 (.int .i64 (rd_T105 gates (i : Int)).f1)) GEg.out GSg.out 2 (.int .i64 (rd_T105 gates (i : Int)).f2)).setOther (blk_set (blk_set (blk_set (BKgg.out) 0 (.int .i64 (rd_T105 gates (i : Int)).f0)) 1 (.int .i64 (rd_T105 gates (i : Int)).f1)) 2 (.int .i64 (rd_T105 gates (i : Int)).f2)) GEg.out GSg.out 3 (.int .i64 (rd_T105 gates (i : Int)).f3)).setOther (blk_set (blk_set (blk_set (blk_set (BKgg.out) 0 (.int .i64 (rd_T105 gates (i : Int)).f0)) 1 (.int .i64 (rd_T105 gates (i : Int)).f1)) 2 (.int .i64 (rd_T105 gates (i : Int)).f2)) 3 (.int .i64 (rd_T105 gates (i : Int)).f3)) GEg.out GSg.out 4 (.int .i64 (rd_T105 gates (i : Int)).f4)) (by omega) hk1 hk8).mono ?_); rintro e w' ⟨rfl, hb⟩; have HS' := Aside0.mk hb; clear hb))
   go_roundg (gates.length - i)
   case measure => omega
   case rel =>
    refine ⟨i + 1, by first | rfl | go_num, by omega, by omega, ⟨?_⟩⟩
    have h := HS'.out
    rw [HMEM.out] at h
    rw [List.take_add_one, List.getElem?_eq_getElem hlt]
    unfold gateAll
    rw [List.foldl_append]
    exact h.more (by omega)
  ·have hd1 : decide ((i : Int) < (gates.length : Int)) = false := by simp; omega
   have hd2 : decide (i < gates.length) = false := by simp; omega
   have hi2 : i = gates.length := by omega
   subst hi2
   rw [List.take_length] at HS
   obtain ⟨⟨vw, vc, vl, bg, hbg, rw_, rc, rl⟩, hB, hS, hT⟩ := HS.out
   obtain ⟨Aw, cw, ew⟩ := Kd.R_slice rw_; obtain ⟨Ac, cc, ec⟩ := Kd.R_slice rc; obtain ⟨Al, cl_, el⟩ := Kd.R_slice rl
   subst ew ec el
   have BG := Aside0.mk bg; have RW := Aside0.mk rw_; have RC := Aside0.mk rc; have HB := Aside0.mk (HBW.out.trans hB)
   have hcb0 := (blk_cell BG.out 0).trans rfl; have hcb1 := (blk_cell BG.out 1).trans rfl; have hcb2 := (blk_cell BG.out 2).trans rfl
   have hcr0 := (blk_cell BKr_.out 0).trans rfl; have hcr1 := (blk_cell BKr_.out 1).trans rfl; have hcr2 := (blk_cell BKr_.out 2).trans rfl
   have hfr0 := blk_frozen BKr_.out 0; have hfr1 := blk_frozen BKr_.out 1; have hfr2 := blk_frozen BKr_.out 2
   have hsm := hS.2.1; clear bg rw_ rc rl hB hS hT hbg
   by_cases h40 : (gateAll s0 gates).cs.length > 40
   ·have hz1 : decide ((40 : Int) < ((gateAll s0 gates).cs.length : Int)) = true := by simp; omega
    have hz2 : decide (40 < (gateAll s0 gates).cs.length) = true := by simp; omega
    have H40 := Aside0.mk h40; clear h40
    go_wp2
    have hfin : layBd s0 gates 0 = ⟨[], [], []⟩ ∧ layErr s0 gates 0 = 2 := by
     have h0 : layErr s0 gates 0 = 2 := by unfold layErr; rw [if_neg (by decide), if_pos H40.out]
     exact ⟨by unfold layBd; rw [h0]; rfl, h0⟩
    rw [hfin.1, hfin.2]
    refine bodyPost_ret (results_ct rfl _ _ gr 108 #[.slice none 0 0, .slice none 0 0, .slice none 0 0] (0, 0) _ rfl (blk_set (blk_set (blk_set BKr_.out 0 _) 1 _) 2 _) Try.underlying108 rfl (by kernel_rfl)) rfl ?_
    exact ⟨_, _, _, _, _, rfl, Kd.R_nil _ _ _ _ _, Kd.R_nil _ _ _ _ _, ((HB.out.setCell GEr.out _).setCell GEr.out _).setCell GEr.out _⟩
   ·have hz1 : decide ((40 : Int) < ((gateAll s0 gates).cs.length : Int)) = false := by simp; omega
    have hz2 : decide (40 < (gateAll s0 gates).cs.length) = false := by simp; omega
    have H40 := Aside0.mk h40; clear h40
    go_wp2
    have hfin : layBd s0 gates 0 = gateAll s0 gates ∧ layErr s0 gates 0 = 0 := by
     have h0 : layErr s0 gates 0 = 0 := by unfold layErr; rw [if_neg (by decide), if_neg H40.out]
     exact ⟨by unfold layBd; rw [h0]; rfl, h0⟩
    rw [hfin.1, hfin.2]
    refine bodyPost_ret (results_ct rfl _ _ gr 108 #[(.slice Aw (gateAll s0 gates).ws.length cw), (.slice Ac (gateAll s0 gates).cs.length cc), (.slice Al (gateAll s0 gates).l.length cl_)] (0, 0) _ rfl (blk_set (blk_set (blk_set BKr_.out 0 _) 1 _) 2 _) Try.underlying108 rfl (by kernel_rfl)) rfl ?_
    exact ⟨_, _, _, _, _, rfl, Kd.R_mono (Kd.R_set (Kd.R_set (Kd.R_set RW.out BKr_.out (by decide) 0 _) (blk_set BKr_.out 0 _) (by decide) 1 _) (blk_set (blk_set BKr_.out 0 _) 1 _) (by decide) 2 _) (fun _ _ => trivial), Kd.R_mono (Kd.R_set (Kd.R_set (Kd.R_set RC.out BKr_.out (by decide) 0 _) (blk_set BKr_.out 0 _) (by decide) 1 _) (blk_set (blk_set BKr_.out 0 _) 1 _) (by decide) 2 _) (fun _ _ => trivial), ((HB.out.setCell GEr.out _).setCell GEr.out _).setCell GEr.out _⟩
theorem lay_any (k : Nat) (s0 s1 s2 s3 s4 : Int) (As : Option Addr) (cs : Nat) (gates : List S105) (e0 : Int) (w : World) (hr : Kd.C k105 w As gates.length gates) (hc : gates.length ≤ cs) (h : circuit_Check.f k s0 s1 s2 s3 s4 gates = some e0) (hk : e0 = 0 → (∀ g ∈ gates, 1 ≤ g.f0 ∧ g.f0 ≤ 8) ∧ gates.length ≤ 100) :
  Calls Try.prog 58 #[.agg #[.int .i64 s0, .int .i64 s1, .int .i64 s2, .int .i64 s3, .int .i64 s4, .slice As gates.length cs]] w (LayPost w (layBd s0 gates e0) (layErr s0 gates e0)) := by
 by_cases he : e0 = 0
 ·subst he
  exact lay_ok k s0 s1 s2 s3 s4 As cs gates 0 w hr hc h rfl (hk rfl).1 (hk rfl).2
 ·have h1 : layErr s0 gates e0 = e0 := by unfold layErr; rw [if_pos he]
  have h2 : layBd s0 gates e0 = ⟨[], [], []⟩ := by unfold layBd; rw [h1, if_neg he]
  rw [h1, h2]
  exact lay_err k s0 s1 s2 s3 s4 As cs gates e0 w hr hc h (by simpa using he)
def kindsOk (l : List S105) : Bool := l.all (fun g => decide (1 ≤ g.f0 ∧ g.f0 ≤ 8)) && decide (l.length ≤ 100)
theorem below_lower {base base' : Nat} {w w' : World} (h : Below base' w w') (hb : base ≤ base') : Below base w w' := ⟨h.os, h.tape, h.output, h.size, fun i hi => h.block i (Nat.lt_of_lt_of_le hi hb)⟩
/-! ### circuit_Wires: function 14 -/
def circuit_Wires.f (k : Nat) (a0_0 a0_1 a0_2 a0_3 a0_4 : Int) (l0_5 : List S105) : Option (List S76 × Int) := (circuit_Check.f k a0_0 a0_1 a0_2 a0_3 a0_4 l0_5).bind fun e => if e = 0 ∧ kindsOk l0_5 = false then none else some ((layBd a0_0 l0_5 e).ws, layErr a0_0 l0_5 e)
theorem circuit_Wires.mono : ∀ (a0_0 a0_1 a0_2 a0_3 a0_4 : Int) (l0_5 : List S105) (k : Nat), LeO (circuit_Wires.f k a0_0 a0_1 a0_2 a0_3 a0_4 l0_5) (circuit_Wires.f (k + 1) a0_0 a0_1 a0_2 a0_3 a0_4 l0_5) := fun _ _ _ _ _ _ k => LeO.bind (circuit_Check.mono _ _ _ _ _ _ k) (fun _ => LeO.refl _)
set_option maxHeartbeats 4000000 in
set_option maxRecDepth 100000 in
theorem circuit_Wires.calls (k : Nat) (a0_0 : Int) (a0_1 : Int) (a0_2 : Int) (a0_3 : Int) (a0_4 : Int) (A0_5 : Option Addr) (c0_5 : Nat) (l0_5 : List S105) (r1 : List S76) (r2 : Int) (w : World) (hr0_5 : Kd.C k105 w A0_5 l0_5.length l0_5) (hc0_5 : l0_5.length ≤ c0_5) (h : circuit_Wires.f k a0_0 a0_1 a0_2 a0_3 a0_4 l0_5 = some (r1, r2)) :
  Calls Try.prog 14 #[.agg #[.int .i64 a0_0, .int .i64 a0_1, .int .i64 a0_2, .int .i64 a0_3, .int .i64 a0_4, .slice A0_5 l0_5.length c0_5]] w fun e w' => ∃ v0_ : Value, e = .returned (.tuple #[v0_, .int .i64 r2]) ∧ Kd.R k76 76 w' w.heap.size (fun _ => True) v0_ r1 ∧ Below w.heap.size w w' := by
 obtain ⟨e0, hC, h2⟩ := Option.bind_eq_some_iff.1 h
 have h3 : ¬ (e0 = 0 ∧ kindsOk l0_5 = false) ∧ r1 = (layBd a0_0 l0_5 e0).ws ∧ r2 = layErr a0_0 l0_5 e0 := by
  by_cases hq : e0 = 0 ∧ kindsOk l0_5 = false
  ·rw [if_pos hq] at h2; cases h2
  ·rw [if_neg hq] at h2; injection h2 with h2; injection h2 with ha hb; exact ⟨hq, ha.symm, hb.symm⟩
 obtain ⟨hq, rfl, rfl⟩ := h3
 have hk : e0 = 0 → (∀ g ∈ l0_5, 1 ≤ g.f0 ∧ g.f0 ≤ 8) ∧ l0_5.length ≤ 100 := by
  intro he
  have : kindsOk l0_5 = true := by cases hb : kindsOk l0_5 with | true => rfl | false => exact absurd ⟨he, hb⟩ hq
  simpa [kindsOk] using this
 have HRD := Aside0.mk hr0_5; have HC := Aside0.mk hc0_5; have HCK := Aside0.mk hC; have HK := Aside0.mk hk
 clear h h2 hq hr0_5 hc0_5 hC hk; have hu24 := Try.underlying24; have hu108 := Try.underlying108
 go_enter Try.func14, Try.ntmps14
 go_wp2_with (first | ((with_reducible refine gate_dst (N := 1) rfl ?_); refine box_event rfl (N := 1) rfl (cs := #[.int .i64 a0_0, .int .i64 a0_1, .int .i64 a0_2, .int .i64 a0_3, .int .i64 a0_4, .slice A0_5 l0_5.length c0_5]) (t := 24) (by first | (go_simp; done) | (go_simp; rfl)) ?_; intro gs hgs wgs hbox hb; have BKgs := Aside0.mk hbox; have HBgs := Aside0.mk hb; clear hbox hb hgs; have hcs0 := (blk_cell BKgs.out 0).trans rfl; have hcs1 := (blk_cell BKgs.out 1).trans rfl; have hcs2 := (blk_cell BKgs.out 2).trans rfl; have hcs3 := (blk_cell BKgs.out 3).trans rfl; have hcs4 := (blk_cell BKgs.out 4).trans rfl; have hcs5 := (blk_cell BKgs.out 5).trans rfl; have HBW := Aside0.mk HBgs.out) | (go_at_call 58; (with_reducible refine (lay_any k a0_0 a0_1 a0_2 a0_3 a0_4 A0_5 c0_5 l0_5 e0 _ (Kd.C_below HRD.out HBW.out) HC.out HCK.out HK.out).mono ?_); rintro e w' ⟨vw, vc, Al, nl, kl, rfl, hw_, hc_, hb⟩; obtain ⟨Aw, cw, ew⟩ := Kd.R_slice hw_; obtain ⟨Ac, cc, ec⟩ := Kd.R_slice hc_; subst ew ec; have RWW := Aside0.mk hw_; have RCC := Aside0.mk hc_; have HB2 := Aside0.mk (HBW.out.trans (below_lower hb (below_size HBW.out))); clear hw_ hc_ hb) | ((with_reducible refine gate_dst (N := 4) rfl ?_); refine box_event rfl (N := 4) rfl (cs := #[.slice none 0 0, .slice none 0 0, .slice none 0 0]) (t := 108) (by first | (go_simp; done) | (go_simp; rfl)) ?_; intro gb hgb wgb hbox hb; have BKgb := Aside0.mk hbox; have HBgb := Aside0.mk hb; have HGB := Aside0.mk hgb; clear hbox hb hgb; have GEb := Aside0.mk (by rw [HGB.out]; exact below_size HB2.out : w.heap.size ≤ gb); have hcb0 := (blk_cell BKgb.out 0).trans rfl; have hfb0 := blk_frozen BKgb.out 0; have hcb1 := (blk_cell BKgb.out 1).trans rfl; have hfb1 := blk_frozen BKgb.out 1; have hcb2 := (blk_cell BKgb.out 2).trans rfl; have hfb2 := blk_frozen BKgb.out 2))
 go_ret2
 refine ⟨_, rfl, ?_, ?_⟩
 ·exact (Kd.R_lower (Kd.R_mono (Kd.R_set (Kd.R_set (Kd.R_set (Kd.R_below RWW.out HBgb.out) BKgb.out (by decide) 0 _) (blk_set BKgb.out 0 _) (by decide) 1 _) (blk_set (blk_set BKgb.out 0 _) 1 _) (by decide) 2 _) (fun _ _ => trivial)) (below_size HBW.out))
 ·exact ((((below_step HB2.out HBgb.out).setCell GEb.out _).setCell GEb.out _).setCell GEb.out _)
/-! ### circuit_Conds: function 15 -/
def circuit_Conds.f (k : Nat) (a0_0 a0_1 a0_2 a0_3 a0_4 : Int) (l0_5 : List S105) : Option (List (List S118) × Int) := (circuit_Check.f k a0_0 a0_1 a0_2 a0_3 a0_4 l0_5).bind fun e => if e = 0 ∧ kindsOk l0_5 = false then none else some ((layBd a0_0 l0_5 e).cs, layErr a0_0 l0_5 e)
theorem circuit_Conds.mono : ∀ (a0_0 a0_1 a0_2 a0_3 a0_4 : Int) (l0_5 : List S105) (k : Nat), LeO (circuit_Conds.f k a0_0 a0_1 a0_2 a0_3 a0_4 l0_5) (circuit_Conds.f (k + 1) a0_0 a0_1 a0_2 a0_3 a0_4 l0_5) := fun _ _ _ _ _ _ k => LeO.bind (circuit_Check.mono _ _ _ _ _ _ k) (fun _ => LeO.refl _)
set_option maxHeartbeats 4000000 in
set_option maxRecDepth 100000 in
theorem circuit_Conds.calls (k : Nat) (a0_0 : Int) (a0_1 : Int) (a0_2 : Int) (a0_3 : Int) (a0_4 : Int) (A0_5 : Option Addr) (c0_5 : Nat) (l0_5 : List S105) (r1 : List (List S118)) (r2 : Int) (w : World) (hr0_5 : Kd.C k105 w A0_5 l0_5.length l0_5) (hc0_5 : l0_5.length ≤ c0_5) (h : circuit_Conds.f k a0_0 a0_1 a0_2 a0_3 a0_4 l0_5 = some (r1, r2)) :
  Calls Try.prog 15 #[.agg #[.int .i64 a0_0, .int .i64 a0_1, .int .i64 a0_2, .int .i64 a0_3, .int .i64 a0_4, .slice A0_5 l0_5.length c0_5]] w fun e w' => ∃ v0_ : Value, e = .returned (.tuple #[v0_, .int .i64 r2]) ∧ Kd.N (Kd.slice 118 k118) 50 w' w.heap.size (fun k_ => (w.heap.size ≤ k_)) v0_ r1 ∧ Below w.heap.size w w' := by
 obtain ⟨e0, hC, h2⟩ := Option.bind_eq_some_iff.1 h
 have h3 : ¬ (e0 = 0 ∧ kindsOk l0_5 = false) ∧ r1 = (layBd a0_0 l0_5 e0).cs ∧ r2 = layErr a0_0 l0_5 e0 := by
  by_cases hq : e0 = 0 ∧ kindsOk l0_5 = false
  ·rw [if_pos hq] at h2; cases h2
  ·rw [if_neg hq] at h2; injection h2 with h2; injection h2 with ha hb; exact ⟨hq, ha.symm, hb.symm⟩
 obtain ⟨hq, rfl, rfl⟩ := h3
 have hk : e0 = 0 → (∀ g ∈ l0_5, 1 ≤ g.f0 ∧ g.f0 ≤ 8) ∧ l0_5.length ≤ 100 := by
  intro he
  have : kindsOk l0_5 = true := by cases hb : kindsOk l0_5 with | true => rfl | false => exact absurd ⟨he, hb⟩ hq
  simpa [kindsOk] using this
 have HRD := Aside0.mk hr0_5; have HC := Aside0.mk hc0_5; have HCK := Aside0.mk hC; have HK := Aside0.mk hk
 clear h h2 hq hr0_5 hc0_5 hC hk; have hu24 := Try.underlying24; have hu108 := Try.underlying108
 go_enter Try.func15, Try.ntmps15
 go_wp2_with (first | ((with_reducible refine gate_dst (N := 1) rfl ?_); refine box_event rfl (N := 1) rfl (cs := #[.int .i64 a0_0, .int .i64 a0_1, .int .i64 a0_2, .int .i64 a0_3, .int .i64 a0_4, .slice A0_5 l0_5.length c0_5]) (t := 24) (by first | (go_simp; done) | (go_simp; rfl)) ?_; intro gs hgs wgs hbox hb; have BKgs := Aside0.mk hbox; have HBgs := Aside0.mk hb; clear hbox hb hgs; have hcs0 := (blk_cell BKgs.out 0).trans rfl; have hcs1 := (blk_cell BKgs.out 1).trans rfl; have hcs2 := (blk_cell BKgs.out 2).trans rfl; have hcs3 := (blk_cell BKgs.out 3).trans rfl; have hcs4 := (blk_cell BKgs.out 4).trans rfl; have hcs5 := (blk_cell BKgs.out 5).trans rfl; have HBW := Aside0.mk HBgs.out) | (go_at_call 58; (with_reducible refine (lay_any k a0_0 a0_1 a0_2 a0_3 a0_4 A0_5 c0_5 l0_5 e0 _ (Kd.C_below HRD.out HBW.out) HC.out HCK.out HK.out).mono ?_); rintro e w' ⟨vw, vc, Al, nl, kl, rfl, hw_, hc_, hb⟩; obtain ⟨Aw, cw, ew⟩ := Kd.R_slice hw_; obtain ⟨Ac, cc, ec⟩ := Kd.R_slice hc_; subst ew ec; have RWW := Aside0.mk hw_; have RCC := Aside0.mk hc_; have HB2 := Aside0.mk (HBW.out.trans (below_lower hb (below_size HBW.out))); clear hw_ hc_ hb) | ((with_reducible refine gate_dst (N := 4) rfl ?_); refine box_event rfl (N := 4) rfl (cs := #[.slice none 0 0, .slice none 0 0, .slice none 0 0]) (t := 108) (by first | (go_simp; done) | (go_simp; rfl)) ?_; intro gb hgb wgb hbox hb; have BKgb := Aside0.mk hbox; have HBgb := Aside0.mk hb; have HGB := Aside0.mk hgb; clear hbox hb hgb; have GEb := Aside0.mk (by rw [HGB.out]; exact below_size HB2.out : w.heap.size ≤ gb); have hcb0 := (blk_cell BKgb.out 0).trans rfl; have hfb0 := blk_frozen BKgb.out 0; have hcb1 := (blk_cell BKgb.out 1).trans rfl; have hfb1 := blk_frozen BKgb.out 1; have hcb2 := (blk_cell BKgb.out 2).trans rfl; have hfb2 := blk_frozen BKgb.out 2))
 go_ret2
 refine ⟨_, rfl, ?_, ?_⟩
 ·exact Kd.R_N (Kd.R_mono (Kd.R_bound (Kd.R_lower (Kd.R_mono (Kd.R_set (Kd.R_set (Kd.R_set (Kd.R_below RCC.out HBgb.out) BKgb.out (by decide) 0 _) (blk_set BKgb.out 0 _) (by decide) 1 _) (blk_set (blk_set BKgb.out 0 _) 1 _) (by decide) 2 _) (fun _ _ => trivial)) (below_size HBW.out))) (fun k hk => hk.2.1))
 ·exact ((((below_step HB2.out HBgb.out).setCell GEb.out _).setCell GEb.out _).setCell GEb.out _)
/-! ### circuit_Used: function 22 -/
def circuit_Used.f (k : Nat) (a0_0 : Int) (a0_1 : Int) (a0_2 : Int) (a0_3 : Int) (a0_4 : Int) (l0_5 : List (S105)) : Option (Int) := (circuit_look.f k a0_0 a0_1 a0_2 a0_3 a0_4 l0_5).bind fun bt119 => (some bt119.1)
theorem circuit_Used.mono : ∀ a0 a1 a2 a3 a4 a5 k, LeO (circuit_Used.f k a0 a1 a2 a3 a4 a5) (circuit_Used.f (k + 1) a0 a1 a2 a3 a4 a5) := by
 intro a0 a1 a2 a3 a4 a5 k
 unfold circuit_Used.f
 repeat' first
   | (with_reducible exact circuit_look.mono _ _ _ _ _ _ _)
   | (with_reducible exact LeO.refl _)
   | (with_reducible exact LeO.none _)
   | (with_reducible refine LeO.ite ?_ ?_)
   | (with_reducible refine LeO.bind ?_ (fun _ => ?_))
   | exact circuit_look.mono _ _ _ _ _ _ _
   | exact LeO.none _
   | refine LeO.ite ?_ ?_
   | refine LeO.bind ?_ (fun _ => ?_)
set_option maxHeartbeats 8000000 in
set_option maxRecDepth 100000 in
theorem circuit_Used.calls (k : Nat) (a0_0 : Int) (a0_1 : Int) (a0_2 : Int) (a0_3 : Int) (a0_4 : Int) (A0_5 : Option Addr) (c0_5 : Nat) (l0_5 : List (S105)) (r : Int) (w : World) (hr0_5 : Kd.C k105 w A0_5 l0_5.length l0_5) (hc0_5 : l0_5.length ≤ c0_5) (h : circuit_Used.f k a0_0 a0_1 a0_2 a0_3 a0_4 l0_5 = some r) :
  Calls Try.prog 22 #[.agg #[.int .i64 a0_0, .int .i64 a0_1, .int .i64 a0_2, .int .i64 a0_3, .int .i64 a0_4, .slice A0_5 l0_5.length c0_5]] w fun e w' => e = .returned (.int .i64 r) ∧ Below w.heap.size w w' := by
 have hu24 := Try.underlying24; have HR0_5 := Aside0.mk hr0_5; have HC0_5 := Aside0.mk hc0_5; clear hr0_5 hc0_5; have HB := Aside0.mk (Below.refl w.heap.size w)
 have H : ((circuit_look.f k a0_0 a0_1 a0_2 a0_3 a0_4 l0_5).bind fun bt119 => (some bt119.1)) = some r := h
 clear h; replace H := Option.bind_eq_some_iff.mp H
 obtain ⟨⟨t119, t120⟩, A20, H⟩ := H
 (try dsimp only at H); have A2 := Aside0.mk A20; clear A20; obtain rfl := Option.some.inj H
 go_enter Try.func22, Try.ntmps22
 go_wp2_with (first | ((with_reducible refine gate_dst (N := 1) rfl ?_); refine box_event ?hg (N := 1) ?hd (cs := #[.int .i64 a0_0, .int .i64 a0_1, .int .i64 a0_2, .int .i64 a0_3, .int .i64 a0_4, .slice A0_5 l0_5.length c0_5]) (t := 24) ?hr ?_; (case hd => rfl); (case hg => rfl); (case hr => first | (go_simp; done) | (go_simp; rfl)); intro gb118 hg w3 hbox hb; have n0_ := Aside0.mk (below_step (blA HB.out) hb); have n1_ := Aside0.mk (hbox); have n2_ := Aside0.mk ((by rw [hg]; exact (below_size (blA HB.out)) : w.heap.size ≤ gb118)); have n3_ := Aside0.mk ((by rw [hg]; exact (below_size (blA HB.out)) : w.heap.size ≤ gb118)); clear HB; have HB := n0_; have BK118 := n1_; have GW118 := n2_; have GE118 := n3_; clear n0_ n1_ n2_ n3_; clear hb hbox hg; have hcz4 := fun i => blk_cell BK118.out i; have hfz4 := fun i => blk_frozen BK118.out i; ) | ((with_reducible refine gate_callee (f := 64) rfl ?_); refine goesL_ (some 7) rfl rfl Try.func64 (by kernel_rfl) rfl #[.agg #[.int .i64 a0_0, .int .i64 a0_1, .int .i64 a0_2, .int .i64 a0_3, .int .i64 a0_4, .slice A0_5 l0_5.length c0_5]] rfl gsA ?_; (with_reducible refine (circuit_look.calls k a0_0 a0_1 a0_2 a0_3 a0_4 _ _ l0_5 t119 t120 _ ?side1 ?side2 A2.out).mono ?_); (case side1 => repeat (first | exact (Kd.C_below HR0_5.out HB.out) | (with_reducible refine Kd.C_alloc ?_ _) | (with_reducible refine Kd.C_drewN ?_ _) | (with_reducible refine Kd.C_drew ?_))); (case side2 => exact HC0_5.out); rintro e w5 ⟨rfl, hb⟩; refine ⟨_, rfl, ?_⟩; have n0_ := Aside0.mk (blk_below (bkA BK118.out) hb); have n1_ := Aside0.mk (below_step (blA HB.out) hb); clear BK118; clear HB; have BK118 := n0_; have HB := n1_; clear n0_ n1_; (try clear hb)))
 go_ret
 exact ⟨by first | rfl | (simp [errW_none, errW_some] <;> rfl) | (simp [*, errW_none, errW_some] <;> rfl), blA HB.out⟩
end Go.Proofs.Ythiiodgpdoljoaa.PLc
