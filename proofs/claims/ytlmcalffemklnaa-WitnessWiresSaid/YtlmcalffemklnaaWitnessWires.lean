/- For every system, all columns and every claim about a wire the law WitnessWires returns true and leaves its arguments as they were: the bits of any wire are what the document says, or the error is. -/
import Derived.Test.YtlmcalffemklnaaWitnessWiresP0
import Derived.Test.YtlmcalffemklnaaRf5
import Derived.Test.YtlmcalffemklnaaRows
import Derived.WalkKit
import Derived.ProofKit
import Derived.OpenShut
import Derived.ShutString
import Derived.ChangeOld
import Derived.Below
import Derived.SizedLaws
set_option linter.unusedVariables false
set_option linter.unusedSimpArgs false
namespace Go.Proofs.Ytlmcalffemklnaa.witnessWires
open Go.ChangeShapes Go.WideShapes Go.ChangeAt Go.RowKit Go.Proofs.Ytlmcalffemklnaa.Rf
theorem own : ownKnob Try.prog.godebug = none := by kernel_rfl
theorem laidOut : laidOutB Try.prog = true := by kernel_rfl
theorem tabOk : TabOk Try.prog H1.tab where
  fns := List.forall_mem_cons.2 ⟨Try.func9, List.forall_mem_cons.2 ⟨Try.func14, List.forall_mem_cons.2 ⟨Try.func51, List.forall_mem_cons.2 ⟨Try.func52, List.forall_mem_cons.2 ⟨Try.func24, List.forall_mem_cons.2 ⟨Try.func35, List.forall_mem_cons.2 ⟨Try.func34, List.forall_mem_cons.2 ⟨Try.func13, List.forall_mem_cons.2 ⟨Try.func6, List.forall_mem_cons.2 ⟨Try.func85, List.forall_mem_cons.2 ⟨Try.func71, List.forall_mem_cons.2 ⟨Try.func38, List.forall_mem_cons.2 ⟨Try.func65, List.forall_mem_cons.2 ⟨Try.func50, List.forall_mem_cons.2 ⟨Try.func33, List.forall_mem_cons.2 ⟨Try.func54, List.forall_mem_cons.2 ⟨Try.func64, List.forall_mem_cons.2 ⟨Try.func84, List.forall_mem_cons.2 ⟨Try.func63, List.forall_mem_cons.2 ⟨Try.func44, List.forall_mem_cons.2 ⟨Try.func45, List.forall_mem_cons.2 ⟨Try.func46, List.forall_mem_cons.2 ⟨Try.func39, List.forall_mem_cons.2 ⟨Try.func47, List.forall_mem_cons.2 ⟨Try.func27, List.forall_mem_cons.2 ⟨Try.func8, List.forall_mem_cons.2 ⟨Try.func7, List.forall_mem_cons.2 ⟨Try.func28, List.forall_mem_cons.2 ⟨Try.func20, List.forall_mem_cons.2 ⟨Try.func86, List.forall_mem_cons.2 ⟨Try.func67, List.forall_mem_cons.2 ⟨Try.func72, List.forall_mem_cons.2 ⟨Try.func69, List.forall_mem_cons.2 ⟨Try.func68, List.forall_mem_cons.2 ⟨Try.func70, List.forall_mem_cons.2 ⟨Try.func73, List.forall_mem_cons.2 ⟨Try.func74, List.forall_mem_cons.2 ⟨Try.func55, List.forall_mem_cons.2 ⟨Try.func40, List.forall_mem_cons.2 ⟨Try.func22, List.forall_mem_cons.2 ⟨Try.func21, List.forall_mem_cons.2 ⟨Try.func18, List.forall_mem_cons.2 ⟨Try.func36, List.forall_mem_cons.2 ⟨Try.func56, List.forall_mem_cons.2 ⟨Try.func41, List.forall_mem_cons.2 ⟨Try.func23, List.forall_mem_cons.2 ⟨Try.func16, List.forall_mem_cons.2 ⟨Try.func4, (fun F h => nomatch h)⟩⟩⟩⟩⟩⟩⟩⟩⟩⟩⟩⟩⟩⟩⟩⟩⟩⟩⟩⟩⟩⟩⟩⟩⟩⟩⟩⟩⟩⟩⟩⟩⟩⟩⟩⟩⟩⟩⟩⟩⟩⟩⟩⟩⟩⟩⟩⟩
  chk := by kernel_rfl
  mix := by kernel_rfl
theorem argOk0 : argT Try.prog 12 24 H1.TapiSystem = true := by kernel_rfl
theorem argOk1 : argT Try.prog 12 25 H1.TUUs = true := by kernel_rfl
theorem argOk2 : argT Try.prog 12 53 H1.TapiClaim = true := by kernel_rfl
theorem word_nonneg {n : Int} (h : (Lit.int .u64 n).wf = true) : 0 ≤ n := by
  simp [Lit.wf, IntKind.min, IntKind.max, IntKind.signed, IntKind.bits] at h
  omega
set_option maxRecDepth 100000 in
theorem lifted (os : Os) (started : os.Started) (H : Type) (enc : TypeId × Value → H) :
    ReturnsInHanded {} Try.checked os 4 .any (Rows.witnessWiresSpec.pre6 enc Try.prog Try.f4 Rows.witnessWiresRow.domain false) (Rows.witnessWiresSpec.post enc Try.prog Try.f4 false true false false) := by
  refine returnsInHanded_of_change_sized (C := Try.checked) own started (by kernel_rfl) Try.func4
    (ChangeSpec.witness6 (enc := enc) (C := Try.checked) false ⟨#[], #[.agg #[.int .i64 0, .int .i64 0, .int .i64 0, .int .i64 0, .int .i64 0, .slice none 0 0], .slice none 0 0, .agg #[.int .i64 0, .int .i64 0, .int .i64 0, .int .u64 0, .int .u64 0]], []⟩ 8 (by kernel_rfl) (by kernel_rfl) (by kernel_rfl) (by kernel_rfl)) ?_
  intro W base args ds gs before hval0 hW hcnd hsz0 _
  have hval : ∀ (j : Nat) t v, Try.f4.params[j]? = some t → args[j]? = some v → Value.okWide Try.prog W .any base t v := hval0
  have hW' := hW
  obtain ⟨p, q, hA0, hV, rfl, hfz, hnd⟩ := hW
  have hA : DataW.TrodAll enc Try.prog W 0 (fun _ => true) true Try.f4.params.toList args.toList ds p := hA0
  rw [Try.params4] at hA hval
  obtain ⟨v0, vs0, d0, ds0, p0, q0, hargs, rfl, rfl, h0, r0⟩ := trodAll_cons hA
  obtain ⟨v1, vs1, d1, ds1, p1, q1, rfl, rfl, rfl, h1, r1⟩ := trodAll_cons r0
  obtain ⟨v2, vs2, d2, ds2, p2, q2, rfl, rfl, rfl, h2, r2⟩ := trodAll_cons r1
  obtain ⟨rfl, rfl, rfl⟩ := trodAll_nil r2
  obtain rfl : args = #[v0, v1, v2] := by cases args; simp_all
  obtain ⟨rfl, rfl⟩ := trodVars_none hV
  obtain ⟨y0, ok0, g0⟩ := arg_val argOk0 (hval 0 24 v0 rfl rfl) h0
  obtain ⟨y1, ok1, g1⟩ := arg_val argOk1 (hval 1 25 v1 rfl rfl) h1
  obtain ⟨y2, ok2, g2⟩ := arg_val argOk2 (hval 2 53 v2 rfl rfl) h2
  have lt0 : ∀ x ∈ p0, x.block < W.heap.size := by obtain ⟨m, hm⟩ := h0; exact DataW.trod_lt m _ _ _ hm
  have lt1 : ∀ x ∈ p1, x.block < W.heap.size := by obtain ⟨m, hm⟩ := h1; exact DataW.trod_lt m _ _ _ hm
  have lt2 : ∀ x ∈ p2, x.block < W.heap.size := by obtain ⟨m, hm⟩ := h2; exact DataW.trod_lt m _ _ _ hm
  clear hA0 hval0 hsz0
  obtain ⟨b, hb, K, hK⟩ := H1.witnessWires_T y0 y1 y2 ok1
  subst hb
  have hx : den Try.prog H1.tab K 47 0 (y0, y1, y2, ()) = some true := hK K (Nat.le_refl _)
  refine (law_calls tabOk (show 47 < H1.tab.length by decide) rfl rfl hx (args := [v0, v1, v2]) ⟨g0, g1, g2, trivial⟩).mono fun e W' he => ?_
  obtain ⟨b, hb, rfl, bel⟩ := he
  have hb : ([⟨.bool, true⟩] : List Dv) = [⟨.bool, b⟩] := hb
  have hb : b = true := (eq_of_heq (Sigma.mk.inj (List.cons.inj hb).1).2).symm
  subst hb
  exact ⟨_, rfl, _, _, _, [], _, [], hW', trodAll_mk1 (shut_bool Try.underlying4 _), (trodAll_cons_mk (Below.trod laidOut (by kernel_rfl) (of_decide_eq_true (by kernel_rfl)) h0 bel lt0) (trodAll_cons_mk (Below.trod laidOut (by kernel_rfl) (of_decide_eq_true (by kernel_rfl)) h1 bel lt1) (trodAll_cons_mk (Below.trod laidOut (by kernel_rfl) (of_decide_eq_true (by kernel_rfl)) h2 bel lt2) trodAll_mk0))), rfl, bel.frame _, fun h => by cases h⟩
theorem over : Rows.witnessWiresRow.holds Try.pinned (OpenSpec.ofChange Rows.witnessWiresSpec) :=
  OpenClaim.holds_of_wide 4 Try.f4 rfl rfl rfl rfl rfl rfl rfl ⟨rfl, rfl, rfl, rfl, rfl⟩ rfl rfl rfl rfl rfl (by kernel_rfl) Try.func4 (by kernel_rfl)
    (of_decide_eq_true (by kernel_rfl)) (by unfold Func.isWrapper; first | (rw [if_pos (by decide +kernel)]; kernel_rfl) | (rw [if_neg (by decide +kernel)]; exact ⟨rfl, rfl⟩))
    (fun os started H enc _ => lifted os started H enc)
theorem proved : Rows.WitnessWiresSaid := over
end Go.Proofs.Ytlmcalffemklnaa.witnessWires
namespace Go.Proofs.Ytlmcalffemklnaa
/-- The law WitnessWires holds of the program. -/
theorem witnessWires_holds : Rows.WitnessWiresSaid := witnessWires.proved
#print axioms witnessWires_holds
end Go.Proofs.Ytlmcalffemklnaa
