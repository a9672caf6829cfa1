/- The arguments' own readings for this seat: a system of gates. -/
import Derived.Test.YthiiodgpdoljoaaRd
import Derived.Test.YthiiodgpdoljoaaPLcx0
namespace Go.Proofs.Ythiiodgpdoljoaa.Rd
open Go.RowKit Go.ChangeShapes Go.WideShapes Go.Deep Go.Proofs.YthiiodgpdoljoaaW.PrintWords Go.Proofs.Ythiiodgpdoljoaa.PLc
set_option linter.unusedVariables false
instance : Inhabited S105 := ⟨z105⟩
def I64 (n : Int) : Prop := (Lit.int .i64 n).wf = true
theorem rdInt : Rd Try.prog 3 (Kd.int .i64) (fun n => (Lit.int .i64 n).wf = true) := Rd.int Try.underlying3
def wfGate (g : S105) : Prop := (Lit.int .i64 g.f0).wf = true ∧ (Lit.int .i64 g.f1).wf = true ∧ (Lit.int .i64 g.f2).wf = true ∧ (Lit.int .i64 g.f3).wf = true ∧ (Lit.int .i64 g.f4).wf = true
theorem rdGate : Rd Try.prog 105 k105 (fun g => (Lit.int .i64 g.f0).wf = true ∧ (Lit.int .i64 g.f1).wf = true ∧ (Lit.int .i64 g.f2).wf = true ∧ (Lit.int .i64 g.f3).wf = true ∧ (Lit.int .i64 g.f4).wf = true) :=
  Rd.struct Try.underlying105 (by kernel_rfl) (Sq.cons rfl (by kernel_rfl) rdInt (Sq.cons rfl (by kernel_rfl) rdInt (Sq.cons rfl (by kernel_rfl) rdInt (Sq.cons rfl (by kernel_rfl) rdInt (Sq.one rfl (by kernel_rfl) rdInt)))))
    (fun x : S105 => (x.f0, x.f1, x.f2, x.f3, x.f4)) (fun p => ⟨p.1, p.2.1, p.2.2.1, p.2.2.2.1, p.2.2.2.2⟩) (fun _ => rfl)
theorem rdGates : Rd Try.prog 22 (Kd.slice 105 k105) (fun l => l.length ≤ maxLen ∧ ∀ a ∈ l, wfGate a) := Rd.slice Try.underlying22 (by kernel_rfl) rdGate
set_option maxRecDepth 100000 in
/-- A system that came in. -/
theorem argSystem {H : Type} {enc : TypeId × Value → H} {w : World} {r : Reach} {base b0 : Nat} {spare : Nat → Bool} {held : Bool} {v : Value} {x : DataW H} {p : List MemPlace} (hv : Value.okWide Try.prog w r b0 24 v) (h : DataW.Trod enc Try.prog w base spare held 24 v x p) :
    ∃ (s0 s1 s2 s3 s4 : Int) (A : Option Addr) (c : Nat) (l : List S105), v = .agg #[.int .i64 s0, .int .i64 s1, .int .i64 s2, .int .i64 s3, .int .i64 s4, .slice A l.length c] ∧ Kd.C k105 w A l.length l ∧ l.length ≤ c ∧
      I64 s0 ∧ I64 s1 ∧ I64 s2 ∧ I64 s3 ∧ I64 s4 ∧ l.length ≤ maxLen := by
  have rdSystem := Rd.struct Try.underlying24 (by kernel_rfl) (Sq.cons rfl (by kernel_rfl) rdInt (Sq.cons rfl (by kernel_rfl) rdInt (Sq.cons rfl (by kernel_rfl) rdInt (Sq.cons rfl (by kernel_rfl) rdInt (Sq.cons rfl (by kernel_rfl) rdInt (Sq.one rfl (by kernel_rfl) rdGates)))))) id id (fun _ => rfl)
  obtain ⟨cs, a, rfl, hK, h0, h1, h2, h3, h4, h5⟩ := rdSystem.argStruct Try.underlying24 hv h
  obtain ⟨_, _, rfl, rfl, ⟨_, _, rfl, rfl, ⟨_, _, rfl, rfl, ⟨_, _, rfl, rfl, ⟨_, _, rfl, rfl, ⟨A, c, rfl, hl, hC⟩⟩⟩⟩⟩⟩ := hK
  exact ⟨_, _, _, _, _, A, c, _, rfl, hC, hl, h0, h1, h2, h3, h4, h5.1⟩
end Go.Proofs.Ythiiodgpdoljoaa.Rd
