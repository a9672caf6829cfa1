/- For every level, all expressions over tables and all elements the law SumcheckProves returns true and leaves its arguments as they were: what is proved is verified, or the error is what the document says. -/
import Derived.Test.YtplmejnoepkdgaaSumcheckProvesP1
import Derived.Test.YtplmejnoepkdgaaRf4
import Derived.Test.YtplmejnoepkdgaaRows
import Derived.WalkKit
import Derived.ProofKit
import Derived.OpenShut
import Derived.ShutString
import Derived.ChangeOld
import Derived.Below
import Derived.SizedLaws
set_option linter.unusedVariables false
set_option linter.unusedSimpArgs false
namespace Go.Proofs.Ytplmejnoepkdgaa.sumcheckProves
open Go.ChangeShapes Go.WideShapes Go.ChangeAt Go.RowKit Go.Proofs.Ytplmejnoepkdgaa.Rf
theorem own : ownKnob Try.prog.godebug = none := by kernel_rfl
theorem laidOut : laidOutB Try.prog = true := by kernel_rfl
theorem tabOk : TabOk Try.prog H1.tab where
  fns := List.forall_mem_cons.2 ⟨Try.func23, List.forall_mem_cons.2 ⟨Try.func35, List.forall_mem_cons.2 ⟨Try.func87, List.forall_mem_cons.2 ⟨Try.func55, List.forall_mem_cons.2 ⟨Try.func121, List.forall_mem_cons.2 ⟨Try.func113, List.forall_mem_cons.2 ⟨Try.func93, List.forall_mem_cons.2 ⟨Try.func65, List.forall_mem_cons.2 ⟨Try.func105, List.forall_mem_cons.2 ⟨Try.func78, List.forall_mem_cons.2 ⟨Try.func104, List.forall_mem_cons.2 ⟨Try.func77, List.forall_mem_cons.2 ⟨Try.func52, List.forall_mem_cons.2 ⟨Try.func107, List.forall_mem_cons.2 ⟨Try.func89, List.forall_mem_cons.2 ⟨Try.func53, List.forall_mem_cons.2 ⟨Try.func81, List.forall_mem_cons.2 ⟨Try.func80, List.forall_mem_cons.2 ⟨Try.func106, List.forall_mem_cons.2 ⟨Try.func79, List.forall_mem_cons.2 ⟨Try.func36, List.forall_mem_cons.2 ⟨Try.func45, List.forall_mem_cons.2 ⟨Try.func119, List.forall_mem_cons.2 ⟨Try.func120, List.forall_mem_cons.2 ⟨Try.func111, List.forall_mem_cons.2 ⟨Try.func110, List.forall_mem_cons.2 ⟨Try.func88, List.forall_mem_cons.2 ⟨Try.func50, List.forall_mem_cons.2 ⟨Try.func82, List.forall_mem_cons.2 ⟨Try.func37, List.forall_mem_cons.2 ⟨Try.func112, List.forall_mem_cons.2 ⟨Try.func89, List.forall_mem_cons.2 ⟨Try.func53, List.forall_mem_cons.2 ⟨Try.func90, List.forall_mem_cons.2 ⟨Try.func108, List.forall_mem_cons.2 ⟨Try.func67, List.forall_mem_cons.2 ⟨Try.func109, List.forall_mem_cons.2 ⟨Try.func84, List.forall_mem_cons.2 ⟨Try.func39, List.forall_mem_cons.2 ⟨Try.func83, List.forall_mem_cons.2 ⟨Try.func46, List.forall_mem_cons.2 ⟨Try.func97, List.forall_mem_cons.2 ⟨Try.func106, List.forall_mem_cons.2 ⟨Try.func79, List.forall_mem_cons.2 ⟨Try.func116, List.forall_mem_cons.2 ⟨Try.func98, List.forall_mem_cons.2 ⟨Try.func72, List.forall_mem_cons.2 ⟨Try.func99, List.forall_mem_cons.2 ⟨Try.func73, List.forall_mem_cons.2 ⟨Try.func122, List.forall_mem_cons.2 ⟨Try.func89, List.forall_mem_cons.2 ⟨Try.func53, List.forall_mem_cons.2 ⟨Try.func117, List.forall_mem_cons.2 ⟨Try.func100, List.forall_mem_cons.2 ⟨Try.func91, List.forall_mem_cons.2 ⟨Try.func125, List.forall_mem_cons.2 ⟨Try.func124, List.forall_mem_cons.2 ⟨Try.func123, List.forall_mem_cons.2 ⟨Try.func118, List.forall_mem_cons.2 ⟨Try.func101, List.forall_mem_cons.2 ⟨Try.func102, List.forall_mem_cons.2 ⟨Try.func74, List.forall_mem_cons.2 ⟨Try.func33, List.forall_mem_cons.2 ⟨Try.func32, List.forall_mem_cons.2 ⟨Try.func28, List.forall_mem_cons.2 ⟨Try.func20, List.forall_mem_cons.2 ⟨Try.func16, List.forall_mem_cons.2 ⟨Try.func69, List.forall_mem_cons.2 ⟨Try.func29, List.forall_mem_cons.2 ⟨Try.func86, List.forall_mem_cons.2 ⟨Try.func68, List.forall_mem_cons.2 ⟨Try.func48, List.forall_mem_cons.2 ⟨Try.func75, List.forall_mem_cons.2 ⟨Try.func47, List.forall_mem_cons.2 ⟨Try.func58, List.forall_mem_cons.2 ⟨Try.func40, List.forall_mem_cons.2 ⟨Try.func49, List.forall_mem_cons.2 ⟨Try.func11, (fun F h => nomatch h)⟩⟩⟩⟩⟩⟩⟩⟩⟩⟩⟩⟩⟩⟩⟩⟩⟩⟩⟩⟩⟩⟩⟩⟩⟩⟩⟩⟩⟩⟩⟩⟩⟩⟩⟩⟩⟩⟩⟩⟩⟩⟩⟩⟩⟩⟩⟩⟩⟩⟩⟩⟩⟩⟩⟩⟩⟩⟩⟩⟩⟩⟩⟩⟩⟩⟩⟩⟩⟩⟩⟩⟩⟩⟩⟩⟩⟩⟩
  chk := by kernel_rfl
  mix := by kernel_rfl
theorem argOk0 : argT Try.prog 12 3 I = true := by kernel_rfl
theorem argOk1 : argT Try.prog 12 76 H1.TCase20 = true := by kernel_rfl
theorem argOk2 : argT Try.prog 12 29 H1.TEs = true := by kernel_rfl
theorem word_nonneg {n : Int} (h : (Lit.int .u64 n).wf = true) : 0 ≤ n := by
  simp [Lit.wf, IntKind.min, IntKind.max, IntKind.signed, IntKind.bits] at h
  omega
set_option maxRecDepth 100000 in
theorem lifted (os : Os) (started : os.Started) (H : Type) (enc : TypeId × Value → H) :
    ReturnsInHanded {} Try.checked os 11 .any (Rows.sumcheckProvesSpec.pre6 enc Try.prog Try.f11 Rows.sumcheckProvesRow.domain false) (Rows.sumcheckProvesSpec.post enc Try.prog Try.f11 false true false false) := by
  refine returnsInHanded_of_change_sized (C := Try.checked) own started (by kernel_rfl) Try.func11
    (ChangeSpec.witness6 (enc := enc) (C := Try.checked) false ⟨#[], #[.int .i64 0, .agg #[.slice none 0 0, .slice none 0 0], .slice none 0 0], []⟩ 8 (by kernel_rfl) (by kernel_rfl) (by kernel_rfl) (by kernel_rfl)) ?_
  intro W base args ds gs before hval0 hW hcnd hsz0 _
  have hval : ∀ (j : Nat) t v, Try.f11.params[j]? = some t → args[j]? = some v → Value.okWide Try.prog W .any base t v := hval0
  have hW' := hW
  obtain ⟨p, q, hA0, hV, rfl, hfz, hnd⟩ := hW
  have hA : DataW.TrodAll enc Try.prog W 0 (fun _ => true) true Try.f11.params.toList args.toList ds p := hA0
  rw [Try.params11] at hA hval
  obtain ⟨v0, vs0, d0, ds0, p0, q0, hargs, rfl, rfl, h0, r0⟩ := trodAll_cons hA
  obtain ⟨v1, vs1, d1, ds1, p1, q1, rfl, rfl, rfl, h1, r1⟩ := trodAll_cons r0
  obtain ⟨v2, vs2, d2, ds2, p2, q2, rfl, rfl, rfl, h2, r2⟩ := trodAll_cons r1
  obtain ⟨rfl, rfl, rfl⟩ := trodAll_nil r2
  obtain rfl : args = #[v0, v1, v2] := by cases args; simp_all
  obtain ⟨rfl, rfl⟩ := trodVars_none hV
  obtain ⟨y0, ok0, g0⟩ := arg_val argOk0 (hval 0 3 v0 rfl rfl) h0
  obtain ⟨y1, ok1, g1⟩ := arg_val argOk1 (hval 1 76 v1 rfl rfl) h1
  obtain ⟨y2, ok2, g2⟩ := arg_val argOk2 (hval 2 29 v2 rfl rfl) h2
  have lt0 : ∀ x ∈ p0, x.block < W.heap.size := by obtain ⟨m, hm⟩ := h0; exact DataW.trod_lt m _ _ _ hm
  have lt1 : ∀ x ∈ p1, x.block < W.heap.size := by obtain ⟨m, hm⟩ := h1; exact DataW.trod_lt m _ _ _ hm
  have lt2 : ∀ x ∈ p2, x.block < W.heap.size := by obtain ⟨m, hm⟩ := h2; exact DataW.trod_lt m _ _ _ hm
  clear hA0 hval0 hsz0
  obtain ⟨b, hb, K, hK⟩ := H1.proves_T y0 y1 y2 ok1 ok2
  subst hb
  have hx : den Try.prog H1.tab K 77 0 (y0, y1, y2, ()) = some true := hK K (Nat.le_refl _)
  refine (law_calls tabOk (show 77 < H1.tab.length by decide) rfl hx (args := [v0, v1, v2]) ⟨g0, g1, g2, trivial⟩).mono fun e W' he => ?_
  obtain ⟨b, hb, rfl, bel⟩ := he
  have hb : ([⟨.bool, true⟩] : List Dv) = [⟨.bool, b⟩] := hb
  have hb : b = true := (eq_of_heq (Sigma.mk.inj (List.cons.inj hb).1).2).symm
  subst hb
  exact ⟨_, rfl, _, _, _, [], _, [], hW', trodAll_mk1 (shut_bool Try.underlying4 _), (trodAll_cons_mk (Below.trod laidOut (by kernel_rfl) (of_decide_eq_true (by kernel_rfl)) h0 bel lt0) (trodAll_cons_mk (Below.trod laidOut (by kernel_rfl) (of_decide_eq_true (by kernel_rfl)) h1 bel lt1) (trodAll_cons_mk (Below.trod laidOut (by kernel_rfl) (of_decide_eq_true (by kernel_rfl)) h2 bel lt2) trodAll_mk0))), rfl, bel.frame _, fun h => by cases h⟩
theorem over : Rows.sumcheckProvesRow.holds Try.pinned (OpenSpec.ofChange Rows.sumcheckProvesSpec) :=
  OpenClaim.holds_of_wide 11 Try.f11 rfl rfl rfl rfl rfl rfl rfl ⟨rfl, rfl, rfl, rfl, rfl⟩ rfl rfl rfl rfl rfl (by kernel_rfl) Try.func11 (by kernel_rfl)
    (of_decide_eq_true (by kernel_rfl)) (by unfold Func.isWrapper; first | (rw [if_pos (by decide +kernel)]; kernel_rfl) | (rw [if_neg (by decide +kernel)]; exact ⟨rfl, rfl⟩))
    (fun os started H enc _ => lifted os started H enc)
theorem proved : Rows.SumcheckProvesSaid := over
end Go.Proofs.Ytplmejnoepkdgaa.sumcheckProves
namespace Go.Proofs.Ytplmejnoepkdgaa
/-- The law SumcheckProves holds of the program. -/
theorem sumcheckProves_holds : Rows.SumcheckProvesSaid := sumcheckProves.proved
#print axioms sumcheckProves_holds
end Go.Proofs.Ytplmejnoepkdgaa
