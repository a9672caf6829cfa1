-- Laid by our own driver (wip/tools/xprint.py) out of the kit's print.
import Derived.Test.YthiiodgpdoljoaaPLcx0
namespace Go.Proofs.Ythiiodgpdoljoaa.PLc
open Go.RowKit Go.Proofs.YthiiodgpdoljoaaW.PrintWords Go.Proofs.YthiiodgpdoljoaaW.PrintLast Go.Proofs.YthiiodgpdoljoaaW.PrintMore
attribute [local go_sem] max2_int min2_int max_two min_two max_three min_three max_four min_four   -- for this text's walks alone
set_option linter.unusedVariables false
set_option linter.unusedSimpArgs false

/-! ### circuit_board_put: function 118 -/

/-- The wires, the conditions, and the one that is being made. -/
structure Bd where
 ws : List S76
 cs : List (List S118)
 l : List S118
def eq76 (a b : S76) : Bool := a.f0 == b.f0 && (a.f1 == b.f1 && (a.f2 == b.f2 && ((a.f3.f0 == b.f3.f0 && a.f3.f1 == b.f3.f1))))
def wIdx (ws : List S76) (x : S76) : Nat := ws.findIdx (eq76 x)
def wAdd (ws : List S76) (x : S76) : List S76 := if wIdx ws x < ws.length then ws else ws ++ [x]
def Bd.wire (b : Bd) (x : S76) : Bd := { b with ws := wAdd b.ws x }
def Bd.put (b : Bd) (o : S118) : Bd := { b with l := b.l ++ [o] }
def Bd.done (b : Bd) : Bd := { b with cs := b.cs ++ [b.l], l := [] }
def opV (n : Int) : S118 := ⟨2, n, 0, ⟨0, 0⟩⟩
def opS (x y : Int) : S118 := ⟨3, x, y, ⟨0, 0⟩⟩
def opP (x y : Int) : S118 := ⟨4, x, y, ⟨0, 0⟩⟩
/-- The board at block g: its three rows are the call's own (from base on); what the conditions lead to is not the row that is being made. -/
def Brd (base : Nat) (w : World) (g : Nat) (b : Bd) : Prop :=
 ∃ vw vc vl : Value, w.heap[g]? = some (.cells #[vw, vc, vl] 108 (0, 0)) ∧ base ≤ g ∧
  Kd.R k76 76 w base (fun _ => True) vw b.ws ∧ Kd.R (Kd.slice 118 k118) 50 w base (fun k => some k ≠ vl.ownBlock) vc b.cs ∧ Kd.R k118 118 w base (fun _ => True) vl b.l
def Bd.Small (b : Bd) (n : Nat) : Prop := b.ws.length ≤ n ∧ b.cs.length ≤ n ∧ b.l.length ≤ n
/-- Blocks other than the board's and its rows (by their types) are as they were. -/
def TK (g : Nat) (w w' : World) : Prop := ∀ (k : Nat) (cells : Array Value) (t : TypeId), w.heap[k]? = some (.cells cells t (0, 0)) → t ≠ 76 → t ≠ 50 → t ≠ 118 → k ≠ g → w'.heap[k]? = some (.cells cells t (0, 0))
theorem TK.refl (g : Nat) (w : World) : TK g w w := fun _ _ _ h _ _ _ _ => h
theorem TK.trans {g : Nat} {w w1 w2 : World} (h : TK g w w1) (h' : TK g w1 w2) : TK g w w2 := fun k cells t hk a b c d => h' k cells t (h k cells t hk a b c d) a b c d
theorem TK.below {g : Nat} {w w1 w2 : World} (h : TK g w w1) (hb : Below w1.heap.size w1 w2) : TK g w w2 := h.trans fun _ _ _ hk _ _ _ _ => blk_below hk hb
theorem TK.grown {g : Nat} {w w1 w2 : World} (h : TK g w w1) {row : Option Nat} (hg : w1.grownBy w2 row) (e : TypeId) (hr : ∀ k, row = some k → ∃ cells, w1.heap[k]? = some (.cells cells e (0, 0))) (he : e = 76 ∨ e = 50 ∨ e = 118) : TK g w w2 :=
 h.trans fun k cells t hk a b c _ => blk_grown hk hg (fun e1 => by
  obtain ⟨cells', hc⟩ := hr k e1.symm
  rw [hk] at hc
  injection hc with hc
  injection hc with _ ht
  rcases he with rfl | rfl | rfl
  ·exact a ht
  ·exact b ht
  ·exact c ht)
theorem TK.set {g : Nat} {w w1 : World} (h : TK g w w1) (j : Nat) (u : Value) : TK g w (w1.setCell ⟨g, j, none⟩ u) :=
 h.trans fun k cells t hk _ _ _ d => blk_far hk d u
structure BrdS (base : Nat) (w0 w : World) (g : Nat) (b : Bd) (n : Nat) : Prop where
 brd : Brd base w g b
 below : Below base w0 w
 small : b.Small n
 kept : TK g w0 w
theorem wAdd_le (ws : List S76) (x : S76) : (wAdd ws x).length ≤ ws.length + 1 := by unfold wAdd; split <;> simp
theorem Bd.Small.wire {b : Bd} {n : Nat} (h : b.Small n) (x : S76) : (b.wire x).Small (n + 1) := ⟨by have := wAdd_le b.ws x; have := h.1; simp only [Bd.wire]; omega, by have := h.2.1; simp only [Bd.wire]; omega, by have := h.2.2; simp only [Bd.wire]; omega⟩
theorem Bd.Small.put {b : Bd} {n : Nat} (h : b.Small n) (x : S118) : (b.put x).Small (n + 1) := ⟨by have := h.1; simp only [Bd.put]; omega, by have := h.2.1; simp only [Bd.put]; omega, by have := h.2.2; simp only [Bd.put, List.length_append, List.length_singleton]; omega⟩
theorem Bd.Small.done {b : Bd} {n : Nat} (h : b.Small n) : (b.done).Small (n + 1) := ⟨by have := h.1; simp only [Bd.done]; omega, by have := h.2.1; simp only [Bd.done, List.length_append, List.length_singleton]; omega, by simp [Bd.done]⟩

theorem ownTyped {w : World} {base : Nat} {ok : Nat → Prop} {v : Value} {α : Type} {d : Kd α} {e : Nat} {xs : List α} (h : Kd.R d e w base ok v xs) {k : Nat} (hk : v.ownBlock = some k) : k < w.heap.size ∧ ∃ cells, w.heap[k]? = some (.cells cells e (0, 0)) := by
 obtain ⟨inner, ho⟩ := Kd.R_own h
 exact ⟨own_lt ho k hk, own_typed ho k hk⟩
/-- A row of other types is apart from a row of type e. -/
theorem apartTyped {w : World} {base : Nat} {ok ok' : Nat → Prop} {v u : Value} {α β : Type} {d : Kd α} {d' : Kd β} {e e' : Nat} {xs : List α} {ys : List β} (h : Kd.R d e w base ok v xs) (h' : Kd.R d' e' w base ok' u ys) (ht : ∀ q, q ∈ e :: d.E → q ≠ e') :
  Kd.R d e w base (fun k => ok k ∧ some k ≠ u.ownBlock) v xs :=
 Kd.R_mono (Kd.R_bound h) (fun k hk => ⟨hk.1, fun e2 => by
  obtain ⟨_, _, _, q, hq, cells, hc⟩ := hk; obtain ⟨_, cells', hc'⟩ := ownTyped h' e2.symm
  rw [hc] at hc'
  injection hc' with hc'
  injection hc' with _ ht'
  exact ht q hq ht'⟩)
theorem Brd.below {base : Nat} {w w1 : World} {g : Nat} {b : Bd} (h : Brd base w g b) (hb : Below w.heap.size w w1) : Brd base w1 g b := by
 obtain ⟨vw, vc, vl, bg, hbg, rw, rc, rl⟩ := h
 exact ⟨vw, vc, vl, blk_below bg hb, hbg, Kd.R_below rw hb, Kd.R_below rc hb, Kd.R_below rl hb⟩
theorem BrdS.step {base : Nat} {w0 w w1 : World} {g : Nat} {b : Bd} {n : Nat} (h : BrdS base w0 w g b n) (hb : Below w.heap.size w w1) : BrdS base w0 w1 g b n := by
 obtain ⟨_, _, _, bg, hbg, _⟩ := id h.brd
 exact ⟨h.brd.below hb, below_then h.below (Nat.le_trans hbg (Nat.le_of_lt (blk_lt bg))) hb, h.small, h.kept.below hb⟩
theorem BrdS.drewN {base : Nat} {w0 w : World} {g : Nat} {b : Bd} {n : Nat} (h : BrdS base w0 w g b n) (m : Nat) : BrdS base w0 (w.drewN m) g b n := h.step (pw_below_drewN (Below.refl _ _) m)
theorem Brd.putP {base : Nat} {w w3 : World} {g : Nat} {vw vc vl v1 : Value} {ws : List S76} {cs : List (List S118)} {l l' : List S118} (bg : w.heap[g]? = some (.cells #[vw, vc, vl] 108 (0, 0))) (hbg : base ≤ g)
  (rw : Kd.R k76 76 w base (fun _ => True) vw ws) (rc : Kd.R (Kd.slice 118 k118) 50 w base (fun k => some k ≠ vl.ownBlock) vc cs) (rl : Kd.R k118 118 w base (fun _ => True) vl l)
  (ho : Kd.R k118 118 w3 base (fun _ => True) v1 l') (hg : w.grownBy w3 vl.ownBlock) (hat : v1.ownBlock = vl.ownBlock ∨ ∃ b, v1.ownBlock = some b ∧ w.heap.size ≤ b) : Brd base (w3.setCell ⟨g, 2, none⟩ v1) g ⟨ws, cs, l'⟩ := by
 have bg3 := blk_grown bg hg (Kd.R_ne rl bg (by decide))
 have rw3 := Kd.R_grown (apartTyped rw rl (by decide)) hg (fun k hk => hk.2)
 have rc3 := Kd.R_mono (Kd.R_grown (Kd.R_bound rc) hg (fun k hk => hk.1)) (ok' := fun k => some k ≠ v1.ownBlock) (fun k hk => by
  rcases hat with e | ⟨b, e, hb⟩
  ·rw [e]; exact hk.1
  ·rw [e]; intro e2; injection e2 with e2; have := hk.2.2.1; omega)
 refine ⟨vw, vc, v1, blk_set bg3 2 v1, hbg, ?_, ?_, ?_⟩
 ·exact Kd.R_mono (Kd.R_set rw3 bg3 (by decide) 2 v1) (fun _ _ => trivial)
 ·exact Kd.R_set rc3 bg3 (by decide) 2 v1
 ·exact Kd.R_set ho bg3 (by decide) 2 v1
theorem Brd.wireP {base : Nat} {w w3 : World} {g : Nat} {vw vc vl v1 : Value} {ws ws' : List S76} {cs : List (List S118)} {l : List S118} (bg : w.heap[g]? = some (.cells #[vw, vc, vl] 108 (0, 0))) (hbg : base ≤ g)
  (rw : Kd.R k76 76 w base (fun _ => True) vw ws) (rc : Kd.R (Kd.slice 118 k118) 50 w base (fun k => some k ≠ vl.ownBlock) vc cs) (rl : Kd.R k118 118 w base (fun _ => True) vl l)
  (ho : Kd.R k76 76 w3 base (fun _ => True) v1 ws') (hg : w.grownBy w3 vw.ownBlock) : Brd base (w3.setCell ⟨g, 0, none⟩ v1) g ⟨ws', cs, l⟩ := by
 have bg3 := blk_grown bg hg (Kd.R_ne rw bg (by decide))
 have rl3 := Kd.R_grown (apartTyped rl rw (by decide)) hg (fun k hk => hk.2)
 have rc3 := Kd.R_mono (Kd.R_grown (apartTyped rc rw (by decide)) hg (fun k hk => hk.2)) (ok' := fun k => some k ≠ vl.ownBlock) (fun k hk => hk.1)
 refine ⟨v1, vc, vl, blk_set bg3 0 v1, hbg, ?_, ?_, ?_⟩
 ·exact Kd.R_set ho bg3 (by decide) 0 v1
 ·exact Kd.R_set rc3 bg3 (by decide) 0 v1
 ·exact Kd.R_mono (Kd.R_set rl3 bg3 (by decide) 0 v1) (fun _ _ => trivial)
theorem Brd.doneP {base : Nat} {w w3 : World} {g : Nat} {vw vc vl v1 : Value} {ws : List S76} {cs cs' : List (List S118)} {l : List S118} (bg : w.heap[g]? = some (.cells #[vw, vc, vl] 108 (0, 0))) (hbg : base ≤ g)
  (rw : Kd.R k76 76 w base (fun _ => True) vw ws) (rc : Kd.R (Kd.slice 118 k118) 50 w base (fun k => some k ≠ vl.ownBlock) vc cs) (rl : Kd.R k118 118 w base (fun _ => True) vl l)
  (ho : Kd.R (Kd.slice 118 k118) 50 w3 base (fun _ => True) v1 cs') (hg : w.grownBy w3 vc.ownBlock) : Brd base ((w3.setCell ⟨g, 1, none⟩ v1).setCell ⟨g, 2, none⟩ (.slice none 0 0)) g ⟨ws, cs', []⟩ := by
 have bg3 := blk_grown bg hg (Kd.R_ne rc bg (by decide))
 have bg4 := blk_set bg3 1 v1
 have rw3 := Kd.R_grown (apartTyped rw rc (by decide)) hg (fun k hk => hk.2)
 refine ⟨vw, v1, .slice none 0 0, blk_set bg4 2 _, hbg, ?_, ?_, ?_⟩
 ·exact Kd.R_mono (Kd.R_set (Kd.R_set rw3 bg3 (by decide) 1 v1) bg4 (by decide) 2 _) (fun _ _ => trivial)
 ·exact Kd.R_mono (Kd.R_set (Kd.R_set ho bg3 (by decide) 1 v1) bg4 (by decide) 2 _) (fun _ _ e => by simp [Value.ownBlock] at e)
 ·exact Kd.R_nil _ _ _ _ _
def circuit_board_put.T1 : Bool × List (List Nat × List Nat) := (true, [([], []), ([], []), ([1], [1]), ([2], [2]), ([3], [3]), ([], []), ([5], [5]), ([4, 6], [4, 6]), ([0, 0, 1, 2, 3, 4, 5, 6, 7], [0]), ([8, 0, 1, 2, 3, 4, 5, 6, 7], [8]), ([9, 7, 7, 0, 1, 2, 3, 4, 5, 6, 7], [7, 9])])
def circuit_board_put.B1 : List Nat := [0, 0, 2, 6, 14, 0, 32, 126, 255, 511, 1023]
theorem circuit_board_put.tab1 : rtab .any (opsOf Try.f118 1) = circuit_board_put.T1 := by kernel_rfl
theorem circuit_board_put.bits1 : waitsOk circuit_board_put.T1.2 circuit_board_put.B1 = true := by kernel_rfl
set_option maxHeartbeats 4000000 in
set_option maxRecDepth 100000 in
theorem circuit_board_put.calls (op : S118) {base n : Nat} {w0 w : World} {g : Nat} {b : Bd} (H : BrdS base w0 w g b n) (hn : n < 100000) :
  Calls Try.prog 118 #[.pointer (some ⟨g, 0, none⟩), .agg #[.int .i64 op.f0, .int .i64 op.f1, .int .i64 op.f2, .int .u64 op.f3.f0, .int .u64 op.f3.f1]] w fun e w' => e = .returned (.int .i64 b.l.length) ∧ BrdS base w0 w' g (b.put op) (n + 1) := by
 obtain ⟨⟨vw, vc, vl, bg, hbg, rw, rc, rl⟩, hB, hS, hT⟩ := H
 have BG := Aside0.mk bg; have HBG := Aside0.mk hbg; have RW := Aside0.mk rw; have RC := Aside0.mk rc; have RL := Aside0.mk rl; have HB := Aside0.mk hB
 have HZ := Aside0.mk (Nat.le_trans hbg (Nat.le_of_lt (blk_lt bg)))
 have hs1 := hS.1; have hs2 := hS.2.1; have hs3 := hS.2.2; have HS := Aside0.mk hS; have KT := Aside0.mk hT
 clear bg hbg rw rc rl hB hS hT; have hu118 := Try.underlying118; have hu108 := Try.underlying108
 go_enter Try.func118, Try.ntmps118
 go_wp2_with ((with_reducible refine gate_dst (N := 3) rfl ?_); refine box_event rfl (N := 3) rfl (cs := #[.int .i64 op.f0, .int .i64 op.f1, .int .i64 op.f2, .int .u64 op.f3.f0, .int .u64 op.f3.f1]) (t := 118) (by first | (go_simp; done) | (go_simp; rfl)) ?_; intro gb hgb w1 hbox hb; have BB := Aside0.mk hbox; have HGB := Aside0.mk hgb; have HBB := Aside0.mk hb; clear hbox hgb hb)
 have NEB : Aside0 (some gb ≠ vl.ownBlock) := Aside0.mk (fun e => by have := (ownTyped RL.out e.symm).1; have := HGB.out; omega)
 replace HB := Aside0.mk (below_then HB.out HZ.out HBB.out); replace KT := Aside0.mk (KT.out.below HBB.out)
 replace BG := Aside0.mk (blk_below BG.out HBB.out); replace RW := Aside0.mk (Kd.R_below RW.out HBB.out); replace RC := Aside0.mk (Kd.R_below RC.out HBB.out); replace RL := Aside0.mk (Kd.R_below RL.out HBB.out)
 refine start_ (n := 11) (S := fun w' => w'.cell? ⟨g, 2, none⟩ = some vl ∧ w'.cell? ⟨gb, 0, none⟩ = some (.int .i64 op.f0) ∧ w'.cell? ⟨gb, 1, none⟩ = some (.int .i64 op.f1) ∧ w'.cell? ⟨gb, 2, none⟩ = some (.int .i64 op.f2) ∧ w'.cell? ⟨gb, 3, none⟩ = some (.int .u64 op.f3.f0) ∧ w'.cell? ⟨gb, 4, none⟩ = some (.int .u64 op.f3.f1)) (ds := [10]) #[false, false, false, false, false, false, false, false, false, false, false] (by kernel_rfl) rfl rfl ⟨(blk_cell (blk_drew BG.out) 2).trans rfl, (blk_cell (blk_drew BB.out) 0).trans rfl, (blk_cell (blk_drew BB.out) 1).trans rfl, (blk_cell (blk_drew BB.out) 2).trans rfl, (blk_cell (blk_drew BB.out) 3).trans rfl, (blk_cell (blk_drew BB.out) 4).trans rfl⟩ (fun hHeld => ?_)
 refine with_tabW circuit_board_put.tab1 circuit_board_put.bits1 (fun HT_ HW_ => ?_)
 replace BG := Aside0.mk (blk_drew BG.out); replace BB := Aside0.mk (blk_drew BB.out); replace RW := Aside0.mk (Kd.R_drew RW.out); replace RC := Aside0.mk (Kd.R_drew RC.out); replace RL := Aside0.mk (Kd.R_drew RL.out); replace HB := Aside0.mk (below_drew1 HB.out); replace KT := Aside0.mk (KT.out.below (below_drew (Below.refl _ _)))
 generalize w1.drew = w2 at BG BB RW RC RL HB KT hHeld ⊢
 refine pure_ (i := 0) (N := some 5) (v := ?_) (a' := ?_) #[true, false, false, false, false, false, false, false, false, false, false] rfl rfl (any_of HT_.out (by kernel_rfl)) (fun _ _ _ h => h) (Or.inl ⟨by rfl, ?_⟩) ?_ ?_
 rotate_left
 ·intro w'; go_simp; with_reducible rfl
 rotate_left
 ·simp only [Act.put, List.setIfInBounds_toArray, List.set_cons_zero, List.set_cons_succ, i64_w, i32_w]; rfl
 refine pure_ (i := 1) (N := some 6) (v := ?_) (a' := ?_) #[true, true, false, false, false, false, false, false, false, false, false] rfl rfl (any_of HT_.out (by kernel_rfl)) (fun _ _ _ h => h) (Or.inl ⟨by rfl, ?_⟩) ?_ ?_
 rotate_left
 ·intro w'; go_simp; with_reducible rfl
 rotate_left
 ·simp only [Act.put, List.setIfInBounds_toArray, List.set_cons_zero, List.set_cons_succ, i64_w, i32_w]; rfl
 refine pure_ (i := 2) (N := some 7) (v := ?_) (a' := ?_) #[true, true, true, false, false, false, false, false, false, false, false] rfl rfl (any_of HT_.out (by kernel_rfl)) (fun _ _ _ h => h) (Or.inl ⟨by rfl, ?_⟩) ?_ ?_
 rotate_left
 ·intro w'; go_simp; with_reducible rfl
 rotate_left
 ·simp only [Act.put, List.setIfInBounds_toArray, List.set_cons_zero, List.set_cons_succ, i64_w, i32_w]; rfl
 refine pure_ (i := 3) (N := some 8) (v := ?_) (a' := ?_) #[true, true, true, true, false, false, false, false, false, false, false] rfl rfl (any_of HT_.out (by kernel_rfl)) (fun _ _ _ h => h) (Or.inl ⟨by rfl, ?_⟩) ?_ ?_
 rotate_left
 ·intro w'; go_simp; with_reducible rfl
 rotate_left
 ·simp only [Act.put, List.setIfInBounds_toArray, List.set_cons_zero, List.set_cons_succ, i64_w, i32_w]; rfl
 refine take_ (i := 4) (N := some 9) (v := ?_) (a' := ?_) #[true, true, true, true, true, false, false, false, false, false, false] rfl rfl (take_ofW HT_.out HW_.out (by kernel_rfl)) (fun _ _ _ h => h) (Or.inl ⟨by rfl, ?_⟩) hHeld ?_ ?_
 rotate_left
 ·rintro w' ⟨s0, s1, s2, s3, s4, s5⟩; go_simp; with_reducible rfl
 rotate_left
 ·simp only [Act.put, List.setIfInBounds_toArray, List.set_cons_zero, List.set_cons_succ, i64_w, i32_w]; rfl
 refine take_ (i := 5) (N := some 10) (v := ?_) (a' := ?_) #[true, true, true, true, true, true, false, false, false, false, false] rfl rfl (take_ofW HT_.out HW_.out (by kernel_rfl)) (fun _ _ _ h => h) (Or.inl ⟨by rfl, ?_⟩) hHeld ?_ ?_
 rotate_left
 ·rintro w' ⟨s0, s1, s2, s3, s4, s5⟩; go_simp; with_reducible rfl
 rotate_left
 ·simp only [Act.put, List.setIfInBounds_toArray, List.set_cons_zero, List.set_cons_succ, i64_w, i32_w]; rfl
 refine one_ (i := 6) (N := some 11) #[true, true, true, true, true, true, true, false, false, false, false] rfl rfl (one_of HT_.out (by kernel_rfl)) (by decide) (fun K hK => ?_)
 refine value_ (w1 := ?_) (v := ?_) (by rfl) rfl ?_ ?_
 rotate_left 2
 ·go_simp; (constructor <;> rfl)
 refine hK.out _ _ ⟨(blk_cell (blk_alloc BG.out _) 2).trans rfl, (blk_cell (blk_alloc BB.out _) 0).trans rfl, (blk_cell (blk_alloc BB.out _) 1).trans rfl, (blk_cell (blk_alloc BB.out _) 2).trans rfl, (blk_cell (blk_alloc BB.out _) 3).trans rfl, (blk_cell (blk_alloc BB.out _) 4).trans rfl⟩ (fun hHeld => ?_)
 clear hK K
 refine norm_ (a' := ?_) ?_ ?_
 rotate_left
 ·show Act.put _ (some 11) _ = _; simp only [Act.put, List.setIfInBounds_toArray, List.set_cons_zero, List.set_cons_succ, i64_w, i32_w]; rfl
 refine one_ (i := 7) (N := some 12) #[true, true, true, true, true, true, true, true, false, false, false] rfl rfl (one_of HT_.out (by kernel_rfl)) (by decide) (fun K hK => ?_)
 refine Kd.R_append_step k118 (w0 := w0) base (by rfl) (.tmp 9) (.tmp 11) 50 118 (.agg #[(.int .i64 0), (.int .i64 0), (.int .i64 0), (.int .u64 0), (.int .u64 0)]) 40 rfl Try.underlying50 info118 rfl (by decide) (by omega) vl b.l op [.int .i64 op.f0, .int .i64 op.f1, .int .i64 op.f2, .int .u64 op.f3.f0, .int .u64 op.f3.f1] (fun _ => True) (fun _ => False) rfl rfl (k118_mkM _ _ _ op) (fun _ hk => hk.elim) (fun _ _ => trivial) RL.out HB.out (Nat.le_trans HBG.out (Nat.le_of_lt (blk_lt BG.out))) (by omega) ?_
 intro v1 w3 ho hb hg hat
 have BG3 := Aside0.mk (blk_grown BG.out hg (Kd.R_ne RL.out BG.out (by decide))); have BB3 := Aside0.mk (blk_grown BB.out hg NEB.out)
 have KT3 := Aside0.mk ((KT.out.grown hg 118 (fun k hk => (ownTyped RL.out hk).2) (by decide)).set 2 v1)
 have FIN := Aside0.mk (Brd.putP BG.out HBG.out RW.out RC.out RL.out ho hg hat); have HB3 := Aside0.mk hb; have HO := Aside0.mk ho; clear ho hb hg hat
 refine hK.out _ _ ⟨(blk_cell (BG3.out) 2).trans rfl, (blk_cell (BB3.out) 0).trans rfl, (blk_cell (BB3.out) 1).trans rfl, (blk_cell (BB3.out) 2).trans rfl, (blk_cell (BB3.out) 3).trans rfl, (blk_cell (BB3.out) 4).trans rfl⟩ (fun hHeld => ?_)
 clear hK K
 refine norm_ (a' := ?_) ?_ ?_
 rotate_left
 ·show Act.put _ (some 12) _ = _; simp only [Act.put, List.setIfInBounds_toArray, List.set_cons_zero, List.set_cons_succ, i64_w, i32_w]; rfl
 refine pure_ (i := 8) (N := some 13) (v := ?_) (a' := ?_) #[true, true, true, true, true, true, true, true, true, false, false] rfl rfl (any_of HT_.out (by kernel_rfl)) (fun _ _ _ h => h) (Or.inl ⟨by rfl, ?_⟩) ?_ ?_
 rotate_left
 ·intro w'; go_simp; with_reducible rfl
 rotate_left
 ·simp only [Act.put, List.setIfInBounds_toArray, List.set_cons_zero, List.set_cons_succ, i64_w, i32_w]; rfl
 refine pure_ (i := 9) (N := some 14) (v := ?_) (a' := ?_) #[true, true, true, true, true, true, true, true, true, true, false] rfl rfl (any_of HT_.out (by kernel_rfl)) (fun _ _ _ h => h) (Or.inl ⟨by rfl, ?_⟩) ?_ ?_
 rotate_left
 ·intro w'; go_simp; with_reducible rfl
 rotate_left
 ·simp only [Act.put, List.setIfInBounds_toArray, List.set_cons_zero, List.set_cons_succ, i64_w, i32_w]; rfl
 refine last_ (i := 10) (N := none) #[true, true, true, true, true, true, true, true, true, true, true] rfl rfl (one_of HT_.out (by kernel_rfl)) (by decide) (fun K hK => ?_)
 have hs : w3.cell? ⟨g, 2, none⟩ = some vl := (blk_cell BG3.out 2).trans rfl; have hfs := blk_frozen BG3.out 2
 refine skip_ (w1 := w3.setCell ⟨g, 2, none⟩ v1) (by rfl) rfl ?_ ?_
 ·obtain ⟨A1, c1, e1⟩ := Kd.R_slice HO.out; subst e1; go_simp
 refine hK.out _ _ ?_
 clear hK K hs hfs
 refine done_ (done_of HT_.out (by kernel_rfl)) ?_

 obtain ⟨vw', vc', vl', bg, hbg, rw, rc, rl⟩ := FIN.out; obtain ⟨A1, c1, e1⟩ := Kd.R_slice rl; subst e1; have hcl := (blk_cell bg 2).trans rfl; clear bg hbg rw rc rl
 go_wp2
 go_ret
 refine ⟨?_, ?_⟩
 ·simp [List.length_append]
 ·exact ⟨FIN.out, HB3.out.setCell HBG.out _, HS.out.put op, KT3.out⟩


/-! ### circuit_board_sum: function 114 -/
set_option maxHeartbeats 4000000 in
set_option maxRecDepth 100000 in
theorem circuit_board_sum.calls (x : Int) (y : Int) {base n : Nat} {w0 w : World} {g : Nat} {b : Bd} (H : BrdS base w0 w g b n) (hn : n < 100000) :
  Calls Try.prog 114 #[.pointer (some ⟨g, 0, none⟩), .int .i64 x, .int .i64 y] w fun e w' => e = .returned (.int .i64 b.l.length) ∧ BrdS base w0 w' g (b.put (opS x y)) (n + 1) := by
 have HS := Aside0.mk H; clear H
 have hu118 := Try.underlying118; have hu74 := Try.underlying74
 go_enter Try.func114, Try.ntmps114
 go_wp2_with (go_at_call 118; refine (circuit_board_put.calls (opS x y) HS.out hn).mono ?_; rintro e w' ⟨rfl, hb⟩; have HR := Aside0.mk hb; clear hb)
 go_ret
 exact ⟨rfl, HR.out⟩


/-! ### circuit_board_v: function 115 -/
set_option maxHeartbeats 4000000 in
set_option maxRecDepth 100000 in
theorem circuit_board_v.calls (x : Int) {base n : Nat} {w0 w : World} {g : Nat} {b : Bd} (H : BrdS base w0 w g b n) (hn : n < 100000) :
  Calls Try.prog 115 #[.pointer (some ⟨g, 0, none⟩), .int .i64 x] w fun e w' => e = .returned (.int .i64 b.l.length) ∧ BrdS base w0 w' g (b.put (opV x)) (n + 1) := by
 have HS := Aside0.mk H; clear H
 have hu118 := Try.underlying118; have hu74 := Try.underlying74
 go_enter Try.func115, Try.ntmps115
 go_wp2_with (go_at_call 118; refine (circuit_board_put.calls (opV x) HS.out hn).mono ?_; rintro e w' ⟨rfl, hb⟩; have HR := Aside0.mk hb; clear hb)
 go_ret
 exact ⟨rfl, HR.out⟩


end Go.Proofs.Ythiiodgpdoljoaa.PLc
