/- Short words for steps that stand in many proofs of this seat: the goal's own form tells what they show. -/
import Derived.Test.YthiiodgpdoljoaaWWords
import Derived.Test.YthiiodgpdoljoaaWLast
namespace Go.Proofs.YthiiodgpdoljoaaW.PrintWords
open Go.RowKit
theorem eqA {p : Prop} (h : p := by first | rfl | (simp; done) | (simp [*]; done)) : p := h
theorem omA {p : Prop} (h : p := by first | omega | exact Nat.le_refl _) : p := h
theorem dwA {w w' : World} (h : Drawn0 w w' := by repeat (first | exact Drawn0.refl _ | apply Drawn0.step)) : Drawn0 w w' := h
theorem bkA {W W' : World} {g : Nat} {o : Obj} (h : W.heap[g]? = some o) (e : W.heap[g]? = some o → W'.heap[g]? = some o := by intro h_; (with_reducible repeat (first | refine blk_drewN ?_ _ | refine blk_drew ?_ | refine blk_alloc ?_ _)); exact h_) : W'.heap[g]? = some o := e h
theorem blA {B : Nat} {w W W' : World} (h : Below B w W) (e : Below B w W → Below B w W' := by intro h_; repeat (first | (with_reducible first | exact h_ | apply below_alloc | apply pw_below_drewN | apply below_drew1 | refine below_set ?_ (Aside0.out (by assumption))) | exact h_)) : Below B w W' := e h
end Go.Proofs.YthiiodgpdoljoaaW.PrintWords
