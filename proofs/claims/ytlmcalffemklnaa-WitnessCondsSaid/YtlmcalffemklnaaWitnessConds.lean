/- For every system and all columns the law WitnessConds returns true and leaves its arguments as they were: the conditions of a system vanish on all corners of the tables just if the gates hold. -/
import Derived.Test.YtlmcalffemklnaaWitnessCondsP1
import Derived.Test.YtlmcalffemklnaaRf5
import Derived.Test.YtlmcalffemklnaaRows
import Derived.WalkKit
import Derived.ProofKit
import Derived.OpenShut
import Derived.ShutString
import Derived.ChangeOld
import Derived.Below
import Derived.SizedLaws
set_option linter.unusedVariables false
set_option linter.unusedSimpArgs false
namespace Go.Proofs.Ytlmcalffemklnaa.witnessConds
open Go.ChangeShapes Go.WideShapes Go.ChangeAt Go.RowKit Go.Proofs.Ytlmcalffemklnaa.Rf
theorem own : ownKnob Try.prog.godebug = none := by kernel_rfl
theorem laidOut : laidOutB Try.prog = true := by kernel_rfl
theorem tabOk : TabOk Try.prog H1.tab where
  fns := List.forall_mem_cons.2 ⟨Try.func9, List.forall_mem_cons.2 ⟨Try.func14, List.forall_mem_cons.2 ⟨Try.func51, List.forall_mem_cons.2 ⟨Try.func52, List.forall_mem_cons.2 ⟨Try.func24, List.forall_mem_cons.2 ⟨Try.func35, List.forall_mem_cons.2 ⟨Try.func34, List.forall_mem_cons.2 ⟨Try.func13, List.forall_mem_cons.2 ⟨Try.func6, List.forall_mem_cons.2 ⟨Try.func85, List.forall_mem_cons.2 ⟨Try.func71, List.forall_mem_cons.2 ⟨Try.func38, List.forall_mem_cons.2 ⟨Try.func65, List.forall_mem_cons.2 ⟨Try.func50, List.forall_mem_cons.2 ⟨Try.func33, List.forall_mem_cons.2 ⟨Try.func54, List.forall_mem_cons.2 ⟨Try.func64, List.forall_mem_cons.2 ⟨Try.func84, List.forall_mem_cons.2 ⟨Try.func63, List.forall_mem_cons.2 ⟨Try.func44, List.forall_mem_cons.2 ⟨Try.func45, List.forall_mem_cons.2 ⟨Try.func46, List.forall_mem_cons.2 ⟨Try.func39, List.forall_mem_cons.2 ⟨Try.func47, List.forall_mem_cons.2 ⟨Try.func27, List.forall_mem_cons.2 ⟨Try.func8, List.forall_mem_cons.2 ⟨Try.func7, List.forall_mem_cons.2 ⟨Try.func28, List.forall_mem_cons.2 ⟨Try.func31, List.forall_mem_cons.2 ⟨Try.func30, List.forall_mem_cons.2 ⟨Try.func48, List.forall_mem_cons.2 ⟨Try.func29, List.forall_mem_cons.2 ⟨Try.func10, List.forall_mem_cons.2 ⟨Try.func86, List.forall_mem_cons.2 ⟨Try.func67, List.forall_mem_cons.2 ⟨Try.func72, List.forall_mem_cons.2 ⟨Try.func69, List.forall_mem_cons.2 ⟨Try.func68, List.forall_mem_cons.2 ⟨Try.func70, List.forall_mem_cons.2 ⟨Try.func73, List.forall_mem_cons.2 ⟨Try.func74, List.forall_mem_cons.2 ⟨Try.func55, List.forall_mem_cons.2 ⟨Try.func40, List.forall_mem_cons.2 ⟨Try.func22, List.forall_mem_cons.2 ⟨Try.func20, List.forall_mem_cons.2 ⟨Try.func21, List.forall_mem_cons.2 ⟨Try.func25, List.forall_mem_cons.2 ⟨Try.func57, List.forall_mem_cons.2 ⟨Try.func87, List.forall_mem_cons.2 ⟨Try.func60, List.forall_mem_cons.2 ⟨Try.func97, List.forall_mem_cons.2 ⟨Try.func93, List.forall_mem_cons.2 ⟨Try.func81, List.forall_mem_cons.2 ⟨Try.func59, List.forall_mem_cons.2 ⟨Try.func89, List.forall_mem_cons.2 ⟨Try.func76, List.forall_mem_cons.2 ⟨Try.func88, List.forall_mem_cons.2 ⟨Try.func75, List.forall_mem_cons.2 ⟨Try.func77, List.forall_mem_cons.2 ⟨Try.func92, List.forall_mem_cons.2 ⟨Try.func96, List.forall_mem_cons.2 ⟨Try.func91, List.forall_mem_cons.2 ⟨Try.func80, List.forall_mem_cons.2 ⟨Try.func79, List.forall_mem_cons.2 ⟨Try.func90, List.forall_mem_cons.2 ⟨Try.func78, List.forall_mem_cons.2 ⟨Try.func58, List.forall_mem_cons.2 ⟨Try.func42, List.forall_mem_cons.2 ⟨Try.func61, List.forall_mem_cons.2 ⟨Try.func94, List.forall_mem_cons.2 ⟨Try.func95, List.forall_mem_cons.2 ⟨Try.func83, List.forall_mem_cons.2 ⟨Try.func82, List.forall_mem_cons.2 ⟨Try.func62, List.forall_mem_cons.2 ⟨Try.func43, List.forall_mem_cons.2 ⟨Try.func26, List.forall_mem_cons.2 ⟨Try.func5, (fun F h => nomatch h)⟩⟩⟩⟩⟩⟩⟩⟩⟩⟩⟩⟩⟩⟩⟩⟩⟩⟩⟩⟩⟩⟩⟩⟩⟩⟩⟩⟩⟩⟩⟩⟩⟩⟩⟩⟩⟩⟩⟩⟩⟩⟩⟩⟩⟩⟩⟩⟩⟩⟩⟩⟩⟩⟩⟩⟩⟩⟩⟩⟩⟩⟩⟩⟩⟩⟩⟩⟩⟩⟩⟩⟩⟩⟩⟩⟩⟩
  chk := by kernel_rfl
  mix := by kernel_rfl
theorem argOk0 : argT Try.prog 12 24 H1.TapiSystem = true := by kernel_rfl
theorem argOk1 : argT Try.prog 12 25 H1.TUUs = true := by kernel_rfl
theorem word_nonneg {n : Int} (h : (Lit.int .u64 n).wf = true) : 0 ≤ n := by
  simp [Lit.wf, IntKind.min, IntKind.max, IntKind.signed, IntKind.bits] at h
  omega
set_option maxRecDepth 100000 in
theorem lifted (os : Os) (started : os.Started) (H : Type) (enc : TypeId × Value → H) :
    ReturnsInHanded {} Try.checked os 5 .any (Rows.witnessCondsSpec.pre6 enc Try.prog Try.f5 Rows.witnessCondsRow.domain false) (Rows.witnessCondsSpec.post enc Try.prog Try.f5 false true false false) := by
  refine returnsInHanded_of_change_sized (C := Try.checked) own started (by kernel_rfl) Try.func5
    (ChangeSpec.witness6 (enc := enc) (C := Try.checked) false ⟨#[], #[.agg #[.int .i64 0, .int .i64 0, .int .i64 0, .int .i64 0, .int .i64 0, .slice none 0 0], .slice none 0 0], []⟩ 8 (by kernel_rfl) (by kernel_rfl) (by kernel_rfl) (by kernel_rfl)) ?_
  intro W base args ds gs before hval0 hW hcnd hsz0 _
  have hval : ∀ (j : Nat) t v, Try.f5.params[j]? = some t → args[j]? = some v → Value.okWide Try.prog W .any base t v := hval0
  have hW' := hW
  obtain ⟨p, q, hA0, hV, rfl, hfz, hnd⟩ := hW
  have hA : DataW.TrodAll enc Try.prog W 0 (fun _ => true) true Try.f5.params.toList args.toList ds p := hA0
  rw [Try.params5] at hA hval
  obtain ⟨v0, vs0, d0, ds0, p0, q0, hargs, rfl, rfl, h0, r0⟩ := trodAll_cons hA
  obtain ⟨v1, vs1, d1, ds1, p1, q1, rfl, rfl, rfl, h1, r1⟩ := trodAll_cons r0
  obtain ⟨rfl, rfl, rfl⟩ := trodAll_nil r1
  obtain rfl : args = #[v0, v1] := by cases args; simp_all
  obtain ⟨rfl, rfl⟩ := trodVars_none hV
  obtain ⟨y0, ok0, g0⟩ := arg_val argOk0 (hval 0 24 v0 rfl rfl) h0
  obtain ⟨y1, ok1, g1⟩ := arg_val argOk1 (hval 1 25 v1 rfl rfl) h1
  have lt0 : ∀ x ∈ p0, x.block < W.heap.size := by obtain ⟨m, hm⟩ := h0; exact DataW.trod_lt m _ _ _ hm
  have lt1 : ∀ x ∈ p1, x.block < W.heap.size := by obtain ⟨m, hm⟩ := h1; exact DataW.trod_lt m _ _ _ hm
  clear hA0 hval0 hsz0
  obtain ⟨b, hb, K, hK⟩ := H1.witnessConds_T y0 y1 ok1
  subst hb
  have hx : den Try.prog H1.tab K 76 0 (y0, y1, ()) = some true := hK K (Nat.le_refl _)
  refine (law_calls tabOk (show 76 < H1.tab.length by decide) rfl rfl hx (args := [v0, v1]) ⟨g0, g1, trivial⟩).mono fun e W' he => ?_
  obtain ⟨b, hb, rfl, bel⟩ := he
  have hb : ([⟨.bool, true⟩] : List Dv) = [⟨.bool, b⟩] := hb
  have hb : b = true := (eq_of_heq (Sigma.mk.inj (List.cons.inj hb).1).2).symm
  subst hb
  exact ⟨_, rfl, _, _, _, [], _, [], hW', trodAll_mk1 (shut_bool Try.underlying4 _), (trodAll_cons_mk (Below.trod laidOut (by kernel_rfl) (of_decide_eq_true (by kernel_rfl)) h0 bel lt0) (trodAll_cons_mk (Below.trod laidOut (by kernel_rfl) (of_decide_eq_true (by kernel_rfl)) h1 bel lt1) trodAll_mk0)), rfl, bel.frame _, fun h => by cases h⟩
theorem over : Rows.witnessCondsRow.holds Try.pinned (OpenSpec.ofChange Rows.witnessCondsSpec) :=
  OpenClaim.holds_of_wide 5 Try.f5 rfl rfl rfl rfl rfl rfl rfl ⟨rfl, rfl, rfl, rfl, rfl⟩ rfl rfl rfl rfl rfl (by kernel_rfl) Try.func5 (by kernel_rfl)
    (of_decide_eq_true (by kernel_rfl)) (by unfold Func.isWrapper; first | (rw [if_pos (by decide +kernel)]; kernel_rfl) | (rw [if_neg (by decide +kernel)]; exact ⟨rfl, rfl⟩))
    (fun os started H enc _ => lifted os started H enc)
theorem proved : Rows.WitnessCondsSaid := over
end Go.Proofs.Ytlmcalffemklnaa.witnessConds
namespace Go.Proofs.Ytlmcalffemklnaa
/-- The law WitnessConds holds of the program. -/
theorem witnessConds_holds : Rows.WitnessCondsSaid := witnessConds.proved
#print axioms witnessConds_holds
end Go.Proofs.Ytlmcalffemklnaa
