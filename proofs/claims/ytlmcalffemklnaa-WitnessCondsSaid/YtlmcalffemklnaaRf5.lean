/- A walk by reckoning: what a Go function comes to, reckoned out of its operations, and why that is so. -/
import Derived.Test.YtlmcalffemklnaaRf4
import Derived.Scope
import Derived.Deep.Slices
import Derived.Deep.Fields
import Derived.ChangeSame
import Derived.WideShapes
import Derived.Below
set_option linter.unusedVariables false
set_option linter.unusedSimpArgs false
namespace Go.Proofs.Ytlmcalffemklnaa.Rf
variable {M : Sc} {W w w' : World} {ow ow' : Own} {tf tf' : Nat → Value} {st st1 st2 st' : St} {ρ : Type} {P : Program}
open Classical in
/-- Values of slots taken for ones of other types, all at once. -/
theorem coeMany (h : Rel M W w ow tf st) (T : Nat → Option Dv) (hT : ∀ n d', T n = some d' → ∃ d, st n = .val d ∧ Rf.coe d'.1 d.1 d.2 = some d'.2) :
    ∃ ow' : Own, (∀ b l, ow' b = some l → ow b = some l) ∧ (∀ b, ow b = none → ow' b = none) ∧ (∀ n d', T n = some d' → VR w ow' M.f d' n [] (tf n)) := by
  have key : ∀ n, ∃ o : Own, Less ow o n [] ∧ ∀ d', T n = some d' → VR w o M.f d' n [] (tf n) := fun n => by
    cases hn : T n with
    | none => exact ⟨ow, .refl _ _ _, fun d' hd => by cases hd⟩
    | some d' =>
      obtain ⟨d, h1, h2⟩ := hT n d' hn
      obtain ⟨k1, k2, k3⟩ := h.vr h1
      obtain ⟨e1, e2⟩ := coe_sz _ _ h2
      obtain ⟨o, g1, g2⟩ := Rd.coe _ _ h2 k3
      refine ⟨o, g1, fun d'' hd => ?_⟩
      obtain rfl := Option.some.inj hd
      exact ⟨by rw [← k1, e2], by rw [k2, e1], g2⟩
  let f : Nat → Own := fun n => (key n).choose
  have hf1 : ∀ n, Less ow (f n) n [] := fun n => (key n).choose_spec.1
  have hf2 : ∀ n d', T n = some d' → VR w (f n) M.f d' n [] (tf n) := fun n => (key n).choose_spec.2
  clear_value f
  refine ⟨fun b => match ow b with | none => none | some (s, q) => f s b, fun b l hl => ?_, fun b hb => ?_, fun n d' hd => ?_⟩
  · cases hb : ow b with
    | none => simp only [hb] at hl; cases hl
    | some l0 =>
      obtain ⟨s, q⟩ := l0
      simp only [hb] at hl
      have := (hf1 s).some hl
      rw [hb] at this; exact this
  · simp only [hb]
  · refine VR.frame (w := w) (ow := f n) (Nat.le_refl _) (fun b _ hb => ⟨?_, rfl⟩) (fun b q _ hq => ⟨?_, rfl⟩) (hf2 n d' hd)
    · cases hb' : ow b with
      | none => rfl
      | some l0 =>
        obtain ⟨s, q⟩ := l0
        dsimp only
        by_cases hs : s = n
        · subst hs; exact hb
        · rcases (hf1 n).2 b (s, q) hb' with k | ⟨k, q', e⟩
          · rw [hb] at k; cases k
          · simp only [Prod.mk.injEq] at e; exact absurd e.1 hs
    · have := (hf1 n).some hq
      simp only [this]
      exact hq
/-- What stands in a state cut down. -/
theorem projL_spec : ∀ (l : List (Nat × LS)) {h : LL l}, projL st l = some h → ∀ s,
    mkSt l h s = .dead ∨ (∃ t x d, mkSt l h s = .val ⟨t, x⟩ ∧ st s = .val d ∧ Rf.coe t d.1 d.2 = some x) ∨
    (∃ f ts ds x, mkSt l h s = .fn f (HL.dvs ts x) ∧ st s = .fn f ds ∧ HL.of ts ds = some x ∧ ∀ t ∈ ts, t.hasOwn = false) ∨
    (∃ s' p t t', mkSt l h s = .al s' p t ∧ st s = .al s' p t' ∧ (s, LS.al s' p t) ∈ l) ∨ (∃ s' p t, (s, LS.ref s' p t) ∈ l)
  | [], h, hp, s => .inl rfl
  | (n, .v t) :: r, h, hp, s => by
    simp only [projL] at hp
    split at hp
    · rename_i d hd
      split at hp
      · rename_i x y hx hy
        obtain rfl := Option.some.inj hp
        simp only [mkSt]
        by_cases e : s = n
        · subst e; rw [beq_self]; exact .inr (.inl ⟨t, x, d, rfl, hd, hx⟩)
        · rw [beq_ne e]
          rcases projL_spec r hy s with k | k | k | ⟨s', p, t, t', k1, k2, k3⟩ | ⟨s', p, t, k⟩
          · exact .inl k
          · exact .inr (.inl k)
          · exact .inr (.inr (.inl k))
          · exact .inr (.inr (.inr (.inl ⟨s', p, t, t', k1, k2, List.mem_cons_of_mem _ k3⟩)))
          · exact .inr (.inr (.inr (.inr ⟨s', p, t, List.mem_cons_of_mem _ k⟩)))
      · cases hp
    · cases hp
  | (n, .fn f ts) :: r, h, hp, s => by
    simp only [projL] at hp
    split at hp
    · rename_i f' ds hd
      split at hp
      · rename_i hc
        split at hp
        · rename_i x y hx hy
          obtain rfl := Option.some.inj hp
          simp only [Bool.and_eq_true, List.all_eq_true, Bool.not_eq_true'] at hc
          simp only [mkSt]
          by_cases e : s = n
          · subst e
            rw [beq_self]
            have hff : f' = f := Nat.eq_of_beq_eq_true hc.1
            subst hff
            exact .inr (.inr (.inl ⟨f', ts, ds, x, rfl, hd, hx, hc.2⟩))
          · rw [beq_ne e]
            rcases projL_spec r hy s with k | k | k | ⟨s', p, t, t', k1, k2, k3⟩ | ⟨s', p, t, k⟩
            · exact .inl k
            · exact .inr (.inl k)
            · exact .inr (.inr (.inl k))
            · exact .inr (.inr (.inr (.inl ⟨s', p, t, t', k1, k2, List.mem_cons_of_mem _ k3⟩)))
            · exact .inr (.inr (.inr (.inr ⟨s', p, t, List.mem_cons_of_mem _ k⟩)))
        · cases hp
      · cases hp
    · cases hp
  | (n, .al s0 p0 t0) :: r, h, hp, s => by
    simp only [projL] at hp
    split at hp
    · rename_i s1 p1 t1 hd
      split at hp
      · rename_i hc
        simp only [Bool.and_eq_true] at hc
        simp only [mkSt]
        by_cases e : s = n
        · subst e
          rw [beq_self]
          have e1 : s1 = s0 := Nat.eq_of_beq_eq_true hc.1.1
          have e2 : ∀ {p q : List Step}, sameP p q = true → p = q := fun {p} => by
            induction p with
            | nil => intro q h; cases q <;> first | rfl | cases h
            | cons a p ih =>
              intro q h
              cases q with
              | nil => cases h
              | cons b q =>
                simp only [sameP, Bool.and_eq_true] at h
                rw [ih h.2]
                have := h.1
                cases a <;> cases b <;> first | rfl | cases this
          obtain rfl := e2 hc.1.2
          subst e1
          exact .inr (.inr (.inr (.inl ⟨s1, p1, t0, t1, rfl, hd, List.mem_cons_self⟩)))
        · rw [beq_ne e]
          rcases projL_spec r hp s with k | k | k | ⟨s', p, t, t', k1, k2, k3⟩ | ⟨s', p, t, k⟩
          · exact .inl k
          · exact .inr (.inl k)
          · exact .inr (.inr (.inl k))
          · exact .inr (.inr (.inr (.inl ⟨s', p, t, t', k1, k2, List.mem_cons_of_mem _ k3⟩)))
          · exact .inr (.inr (.inr (.inr ⟨s', p, t, List.mem_cons_of_mem _ k⟩)))
      · cases hp
    · cases hp
  | (n, .ref s0 p0 t0) :: r, h, hp, s => by
    by_cases e : s = n
    · subst e; exact .inr (.inr (.inr (.inr ⟨s0, p0, t0, List.mem_cons_self⟩)))
    · simp only [projL] at hp
      split at hp
      · split at hp
        · simp only [mkSt]
          rw [beq_ne e]
          rcases projL_spec r hp s with k | k | k | ⟨s', p, t, t', k1, k2, k3⟩ | ⟨s', p, t, k⟩
          · exact .inl k
          · exact .inr (.inl k)
          · exact .inr (.inr (.inl k))
          · exact .inr (.inr (.inr (.inl ⟨s', p, t, t', k1, k2, List.mem_cons_of_mem _ k3⟩)))
          · exact .inr (.inr (.inr (.inr ⟨s', p, t, List.mem_cons_of_mem _ k⟩)))
        · cases hp
      · cases hp
  | (n, .no) :: r, h, hp, s => by
    simp only [projL] at hp
    simp only [mkSt]
    rcases projL_spec r hp s with k | k | k | ⟨s', p, t, t', k1, k2, k3⟩ | ⟨s', p, t, k⟩
    · exact .inl k
    · exact .inr (.inl k)
    · exact .inr (.inr (.inl k))
    · exact .inr (.inr (.inr (.inl ⟨s', p, t, t', k1, k2, List.mem_cons_of_mem _ k3⟩)))
    · exact .inr (.inr (.inr (.inr ⟨s', p, t, List.mem_cons_of_mem _ k⟩)))
theorem keptList_spec {s : Nat} : ∀ (l : List (Nat × LS)) (h : LL l), keptList s l = true → ∃ f t x, mkSt l h s = .val ⟨.osl f t, x⟩
  | [], h, hk => by cases hk
  | (m, x) :: r, h, hk => by
    simp only [keptList] at hk
    by_cases e : m = s
    · subst e
      rw [beq_self] at hk
      dsimp only at hk
      split at hk
      · rename_i f t
        exact ⟨f, t, h.1, by simp only [mkSt, beq_self]⟩
      · cases hk
    · rw [beq_ne e] at hk
      dsimp only at hk
      cases x with
      | v t =>
        obtain ⟨f, u, y, k⟩ := keptList_spec r h.2 hk
        exact ⟨f, u, y, by simp only [mkSt, beq_ne (Ne.symm e)]; exact k⟩
      | fn f ts =>
        obtain ⟨f, u, y, k⟩ := keptList_spec r h.2 hk
        exact ⟨f, u, y, by simp only [mkSt, beq_ne (Ne.symm e)]; exact k⟩
      | al s' p t =>
        obtain ⟨f, u, y, k⟩ := keptList_spec r h hk
        exact ⟨f, u, y, by simp only [mkSt, beq_ne (Ne.symm e)]; exact k⟩
      | ref s' p t =>
        obtain ⟨f, u, y, k⟩ := keptList_spec r h hk
        exact ⟨f, u, y, by simp only [mkSt, beq_ne (Ne.symm e)]; exact k⟩
      | no =>
        obtain ⟨f, u, y, k⟩ := keptList_spec r h hk
        exact ⟨f, u, y, by simp only [mkSt]; exact k⟩
theorem namesOk_spec (l : List (Nat × LS)) : ∀ (r : List (Nat × LS)), namesOk l r = true → (∀ s s' p t, (s, LS.al s' p t) ∈ r → p = [] ∧ keptList s' l = true) ∧ ∀ s s' p t, (s, LS.ref s' p t) ∉ r
  | [], h => ⟨fun s s' p t hm => by simp at hm, fun s s' p t hm => by simp at hm⟩
  | (n, x) :: r, h => by
    cases x with
    | al s0 p0 t0 =>
      simp only [namesOk, Bool.and_eq_true] at h
      obtain ⟨k1, k2⟩ := namesOk_spec l r h.2
      refine ⟨fun s s' p t hm => ?_, fun s s' p t hm => ?_⟩
      · rcases List.mem_cons.1 hm with e | e
        · cases e
          have := h.1
          cases p0 <;> first | exact ⟨rfl, this⟩ | cases this
        · exact k1 s s' p t e
      · rcases List.mem_cons.1 hm with e | e
        · cases e
        · exact k2 s s' p t e
    | ref s0 p0 t0 => simp only [namesOk] at h; cases h
    | v t0 =>
      obtain ⟨k1, k2⟩ := namesOk_spec l r h
      exact ⟨fun s s' p t hm => by rcases List.mem_cons.1 hm with e | e; cases e; exact k1 s s' p t e, fun s s' p t hm => by rcases List.mem_cons.1 hm with e | e; cases e; exact k2 s s' p t e⟩
    | fn f ts =>
      obtain ⟨k1, k2⟩ := namesOk_spec l r h
      exact ⟨fun s s' p t hm => by rcases List.mem_cons.1 hm with e | e; cases e; exact k1 s s' p t e, fun s s' p t hm => by rcases List.mem_cons.1 hm with e | e; cases e; exact k2 s s' p t e⟩
    | no =>
      obtain ⟨k1, k2⟩ := namesOk_spec l r h
      exact ⟨fun s s' p t hm => by rcases List.mem_cons.1 hm with e | e; cases e; exact k1 s s' p t e, fun s s' p t hm => by rcases List.mem_cons.1 hm with e | e; cases e; exact k2 s s' p t e⟩
/-- A walk's state, cut down. -/
theorem projL_sound {l : List (Nat × LS)} {H : LL l} (h : Rel M W w ow tf st) (hf : Fin st) (hn : namesOk l l = true) (hp : projL st l = some H) : ∃ ow', Rel M W w ow' tf (mkSt l H) ∧ Fin (mkSt l H) := by
  obtain ⟨n1, n2⟩ := namesOk_spec l l hn
  have hs := projL_spec l hp
  obtain ⟨ow', o1, o2, o3⟩ := coeMany h (fun n => match mkSt l H n with | .val d => some d | _ => none) (fun n d' hd => by
    rcases hs n with k | ⟨t, x, d, k1, k2, k3⟩ | ⟨f, ts, ds, x, k1, _⟩ | ⟨s', p, t, t', k1, _⟩ | ⟨s', p, t, k⟩
    · simp only [k] at hd; cases hd
    · simp only [k1, Option.some.injEq] at hd; subst hd; exact ⟨d, k2, k3⟩
    · simp only [k1] at hd; cases hd
    · simp only [k1] at hd; cases hd
    · exact absurd k (n2 n s' p t))
  refine ⟨ow', ⟨h.fr, fun s => ?_, fun b l hl => h.own b l (o1 b l hl), h.top⟩, fun s hs' => ?_⟩
  · rcases hs s with k | ⟨t, x, d, k1, k2, k3⟩ | ⟨f, ts, ds, x, k1, k2, k3, k4⟩ | ⟨s', p, t, t', k1, k2, k3⟩ | ⟨s', p, t, k⟩
    · rw [k]; trivial
    · rw [k1]; simp only [ER]; exact o3 s ⟨t, x⟩ (by simp only [k1])
    · rw [k1]
      have he := h.ent s
      rw [k2] at he
      obtain ⟨vs, e1, e2, e3⟩ := he
      obtain ⟨g1, g2⟩ := HL_of ts ds k3
      refine ⟨vs, e1, by rw [e2, g1], fun j d' v hd hv => ?_⟩
      obtain ⟨d, q1, q2, q3⟩ := g2 j d' hd
      obtain ⟨r1, r2, r3, r4⟩ := e3 j d v q1 hv
      obtain ⟨z1, z2⟩ := coe_sz _ _ q3
      refine ⟨k4 _ q2, by rw [← r2, z2], by rw [r3, z1], ?_⟩
      exact coeFlat _ _ r1 q3 (Rd.flat (Nat.le_refl _) _ r1 (fun _ _ => rfl) (fun b _ hb => ⟨o2 b hb, rfl⟩) r4)
    · obtain ⟨rfl, m2⟩ := n1 s s' p t k3
      obtain ⟨f, u, y, m3⟩ := keptList_spec l H m2
      rw [k1]
      have he := h.ent s
      rw [k2] at he
      obtain ⟨d, q1, f', t1, b, o, q2, q3⟩ := he
      simp only [walk, Option.some.injEq, Prod.mk.injEq] at q2
      obtain ⟨_, rfl, rfl⟩ := q2
      exact ⟨_, m3, f, u, none, 0, rfl, q3⟩
    · exact absurd k (n2 s s' p t)
  · rcases hs s with k | ⟨t, x, d, k1, k2, k3⟩ | ⟨f, ts, ds, x, k1, k2, k3, k4⟩ | ⟨s', p, t, t', k1, k2, k3⟩ | ⟨s', p, t, k⟩
    · exact k
    · rw [hf s hs'] at k2; cases k2
    · rw [hf s hs'] at k2; cases k2
    · rw [hf s hs'] at k2; cases k2
    · exact absurd k (n2 s s' p t)
end Go.Proofs.Ytlmcalffemklnaa.Rf
namespace Go.Proofs.Ytlmcalffemklnaa.Rf
variable {M : Sc} {W w w' : World} {ow ow' : Own} {tf tf' : Nat → Value} {st st1 st2 st' : St} {ρ : Type} {P : Program}
theorem takeV_low {x : Operand} {d : Dv} (hl : Low st) (hu : takeV st x = some (d, st1)) (hx : lowX x = true) : Low st1 ∧ ∀ k d0, VB ≤ k → st k = .val d0 → st1 k = .val d0 := by
  unfold takeV at hu
  split at hu
  · rename_i s
    have hs' : s < VB := Nat.blt_eq.mp hx
    split at hu
    · rename_i d0 hs
      exact useV_low hl (by simp only [useV, hs]; exact hu) hx
    · rename_i s' u hs
      have hs'n : s' < VB := hl s s' (by rw [hs]; rfl)
      split at hu
      · simp only [Option.some.injEq, Prod.mk.injEq] at hu
        obtain ⟨rfl, rfl⟩ := hu
        refine ⟨hl.take s', fun k d0 hk hd => ?_⟩
        rw [takeS_ne st (Nat.ne_of_gt (Nat.lt_of_lt_of_le hs'n hk)), hd]; rfl
      · cases hu
    · rename_i hs
      exact useV_low hl (x := .tmp s) (by simp only [useV, hs]; exact hu) hx
    · cases hu
  · rename_i hx'
    cases x with
    | tmp s => exact absurd rfl (hx' s)
    | const v => exact useV_low (x := .const v) hl (show useV st (.const v) = some (d, st1) from hu) hx
    | func f => exact useV_low (x := .func f) hl (show useV st (.func f) = some (d, st1) from hu) hx
    | global g => exact useV_low (x := .global g) hl (show useV st (.global g) = some (d, st1) from hu) hx
theorem refOf_low {x : Operand} {s : Nat} {p : List Step} (hl : Low st) (hx : lowX x = true) (h : refOf st x = some (s, p)) : s < VB := by
  cases x with
  | tmp z =>
    simp only [refOf] at h
    split at h
    · rename_i s' p' t hz
      simp only [Option.some.injEq, Prod.mk.injEq] at h
      obtain ⟨rfl, rfl⟩ := h
      exact hl z _ (by rw [hz]; rfl)
    · simp only [Option.some.injEq, Prod.mk.injEq] at h
      obtain ⟨rfl, rfl⟩ := h
      exact Nat.blt_eq.mp hx
    · cases h
  | _ => cases h
theorem xLoad_low {t : TypeId} {a : Operand} {r : Dv × St} (hl : Low st) (hx : lowX a = true) (h : xLoad P st t a (fun st1 e => match e with | .val d => some (d, st1) | _ => none) = some r) :
    Low r.2 ∧ ∀ k d0, VB ≤ k → st k = .val d0 → r.2 k = .val d0 := by
  unfold xLoad at h
  split at h
  · rename_i s p hr
    have hs := refOf_low hl hx hr
    split at h
    · split at h
      · split at h
        · cases h
        · cases h
        · split at h
          · split at h
            · rename_i d st1 hf
              obtain rfl := Option.some.inj h
              refine ⟨hl.frz hf, fun k d0 hk hd => ?_⟩
              rcases frz_keeps hf (Nat.ne_of_gt (Nat.lt_of_lt_of_le hs hk)) with e | ⟨_, e⟩
              · show st1 k = _; rw [e]; exact hd
              · rw [hd] at e; exact absurd rfl e
            · cases h
          · obtain rfl := Option.some.inj h; exact ⟨hl, fun k d0 _ hd => hd⟩
      · cases h
    · cases h
  · split at h
    · split at h
      · obtain rfl := Option.some.inj h; exact ⟨hl, fun k d0 _ hd => hd⟩
      · cases h
    · cases h
/-- One result, as the machine reads it. -/
def ResOne (P : Program) (w : World) (tf : Nat → Value) (x : ResultVar) (v : Value) : Prop :=
  match x with
  | .tmp t => t < VB ∧ tf t = v
  | .cell a t => a < VB ∧ (Instr.loadAt t (tf a)).run P w = .ok v w
theorem ResOne.low {x : ResultVar} {v : Value} (h : ResOne P w tf' x v) (ht : ∀ s, s < VB → tf' s = tf s) : ResOne P w tf x v := by
  cases x with
  | tmp t => exact ⟨h.1, by rw [← ht t h.1]; exact h.2⟩
  | cell a t => exact ⟨h.1, by rw [← ht a h.1]; exact h.2⟩
theorem res1_sound {x : ResultVar} {d : Dv} {n : Nat} (h : Rel M W w ow tf st) (hl : Low st) (hu : res1 P st x = some (d, st1)) (hn : st n = .dead) :
    ∃ v ow', Hand M W w ow' tf st1 n (.val d) v ∧ Deads st st1 ∧ ResOne P w tf x v ∧ Low st1 ∧ ∀ k d0, VB ≤ k → st k = .val d0 → st1 k = .val d0 := by
  unfold res1 at hu
  split at hu
  · rename_i t
    split at hu
    · rename_i hx
      obtain ⟨⟨ow', k1⟩, k2⟩ := takeV_sound h hu hn
      obtain ⟨l1, l2⟩ := takeV_low hl hu hx
      exact ⟨_, ow', k1, k2, ⟨Nat.blt_eq.mp hx, rfl⟩, l1, l2⟩
    · cases hu
  · rename_i a t
    split at hu
    · rename_i hx
      obtain ⟨v, k1, st2, e, k2, k3, ow', k4⟩ := xLoad_sound h hn hu
      obtain ⟨l1, l2⟩ := xLoad_low hl hx hu
      cases e <;> simp only [reduceCtorEq] at k2
      simp only [Option.some.injEq, Prod.mk.injEq] at k2
      obtain ⟨rfl, rfl⟩ := k2
      exact ⟨v, ow', k4, k3, ⟨Nat.blt_eq.mp hx, k1⟩, l1, l2⟩
    · cases hu
theorem resV_sound : ∀ {rs : List ResultVar} {ds : List Dv} {st st1 : St} {ow : Own} {tf : Nat → Value} {b : Nat}, VB ≤ b → Rel M W w ow tf st → Low st → (∀ y, b ≤ y → st y = .dead) → resV P st b rs = some (ds, st1) →
    ∃ (ow' : Own) (tf' : Nat → Value) (vs : List Value), Rel M W w ow' tf' st1 ∧ (∀ y, y < b → tf' y = tf y) ∧ vs.length = rs.length ∧ ds.length = rs.length ∧ (∀ (j : Nat) (v : Value), vs[j]? = some v → tf' (b + j) = v) ∧
    (∀ (j : Nat) (d : Dv), ds[j]? = some d → st1 (b + j) = .val d) ∧ (∀ (j : Nat) (x : ResultVar) (v : Value), rs[j]? = some x → vs[j]? = some v → ResOne P w tf x v) ∧ ∀ k d0, VB ≤ k → st k = .val d0 → st1 k = .val d0
  | [], ds, st, st1, ow, tf, b, hb, h, hl, hf, hu => by
    simp only [resV, Option.some.injEq, Prod.mk.injEq] at hu
    obtain ⟨rfl, rfl⟩ := hu
    exact ⟨ow, tf, [], h, fun y _ => rfl, rfl, rfl, fun j v hv => by simp at hv, fun j d hd => by simp at hd, fun j x v hx => by simp at hx, fun k d0 _ hd => hd⟩
  | x :: rs, ds, st, st1, ow, tf, b, hb, h, hl, hf, hu => by
    simp only [resV] at hu
    split at hu
    · rename_i d sta hv
      split at hu
      · rename_i ds' st2 hr
        simp only [Option.some.injEq, Prod.mk.injEq] at hu
        obtain ⟨rfl, rfl⟩ := hu
        obtain ⟨v, ow1, k1, k2, k3, l1, l2⟩ := res1_sound h hl hv (hf b (Nat.le_refl _))
        have hdb : sta b = .dead := k2 b (hf b (Nat.le_refl _))
        have hset : ∀ y, y ≠ b → setS sta (some b) (.val d) y = sta y := fun y hy => by rw [setS_ne sta _ hy, hdb]; rfl
        obtain ⟨ow2, tf2, vs, m1, m2, m3, m4, m5, m6, m7, m8⟩ := resV_sound (b := b + 1) (by omega) k1.2.2 (l1.set hdb) (fun y hy => by rw [hset y (by omega)]; exact k2 y (hf y (by omega))) hr
        refine ⟨ow2, tf2, v :: vs, m1, fun y hy => by rw [m2 y (by omega), upd_ne _ _ (by omega)], by simp [m3], by simp [m4], fun j u hu => ?_, fun j e he => ?_, fun j z u hz hu => ?_, fun k d0 hk hd => ?_⟩
        · cases j with
          | zero =>
            simp only [List.getElem?_cons_zero, Option.some.injEq] at hu; subst hu
            rw [Nat.add_zero, m2 b (by omega), upd_same]
          | succ j =>
            simp only [List.getElem?_cons_succ] at hu
            rw [show b + (j + 1) = b + 1 + j by omega]; exact m5 j u hu
        · cases j with
          | zero =>
            simp only [List.getElem?_cons_zero, Option.some.injEq] at he; subst he
            exact m8 b d hb (by rw [setS_same]; rfl)
          | succ j =>
            simp only [List.getElem?_cons_succ] at he
            rw [show b + (j + 1) = b + 1 + j by omega]
            exact m6 j e he
        · cases j with
          | zero =>
            simp only [List.getElem?_cons_zero, Option.some.injEq] at hz hu; subst hz; subst hu
            exact k3
          | succ j =>
            simp only [List.getElem?_cons_succ] at hz hu
            exact (m7 j z u hz hu).low fun s hs => upd_ne _ _ (by omega)
        · have hkb : k ≠ b := by rintro rfl; rw [hf k (Nat.le_refl _)] at hd; cases hd
          exact m8 k d0 hk (by rw [hset k hkb]; exact l2 k d0 hk hd)
      · cases hu
    · cases hu
theorem HR_of_cons (t u : Ty) (ts : List Ty) (d : Dv) (ds : List Dv) : HR.of (t :: u :: ts) (d :: ds) = (match Rf.coe t d.1 d.2, HR.of (u :: ts) ds with | some x, some y => some (x, y) | _, _ => none : Option (t.den × HR (u :: ts))) := by
  cases ds <;> rfl
theorem HR_of : ∀ (ts : List Ty) (ds : List Dv) {x : HR ts}, HR.of ts ds = some x → (HR.dvs ts x).length = ds.length ∧ ∀ (j : Nat) (d' : Dv), (HR.dvs ts x)[j]? = some d' → ∃ d, ds[j]? = some d ∧ Rf.coe d'.1 d.1 d.2 = some d'.2
  | [], [], x, h => ⟨rfl, fun j d' hd => by have hd : ([] : List Dv)[j]? = some d' := hd; simp at hd⟩
  | [], _ :: _, x, h => by exact absurd (show (none : Option (HR _)) = some x from h) (by simp)
  | [_], [], x, h => by exact absurd (show (none : Option (HR _)) = some x from h) (by simp)
  | _ :: _ :: _, [], x, h => by exact absurd (show (none : Option (HR _)) = some x from h) (by simp)
  | [t], [d], x, h => ⟨rfl, fun j d' hd => by
    cases j with
    | zero =>
      have hd : some (⟨t, x⟩ : Dv) = some d' := hd
      obtain rfl := Option.some.inj hd; exact ⟨d, rfl, h⟩
    | succ j =>
      have hd : ([] : List Dv)[j]? = some d' := hd
      simp at hd⟩
  | [_], _ :: _ :: _, x, h => by exact absurd (show (none : Option (HR _)) = some x from h) (by simp)
  | t :: u :: ts, d :: ds, x, h => by
    rw [HR_of_cons] at h
    split at h
    · rename_i y z h1 h2
      obtain rfl := Option.some.inj h
      obtain ⟨k1, k2⟩ := HR_of (u :: ts) ds h2
      have e0 : HR.dvs (t :: u :: ts) (y, z) = ⟨t, y⟩ :: HR.dvs (u :: ts) z := rfl
      rw [e0]
      refine ⟨by rw [List.length_cons, k1, List.length_cons], fun j d' hd => ?_⟩
      cases j with
      | zero => simp only [List.getElem?_cons_zero, Option.some.injEq] at hd; subst hd; exact ⟨d, rfl, h1⟩
      | succ j =>
        simp only [List.getElem?_cons_succ] at hd
        obtain ⟨d0, e1, e2⟩ := k2 j d' hd
        exact ⟨d0, by simpa using e1, e2⟩
    · cases h
/-- How a function ends. -/
def EndQ (P : Program) (F : Fn) (M : Sc) (W : World) (r : HR F.rs) (pv : List Value) (a : Act) (w : World) : Prop :=
  a.defers = [] ∧ ∃ (vs : List Value) (ow' : Own), (results F.f a.tmps).run P w = .ok (retV F vs) w ∧ Kp M W w ∧ (∀ b l, ow' b = some l → M.m b ∧ b < w.heap.size) ∧ (vs ++ pv).length = (HR.dvs F.rs r).length ∧
    ∀ (j : Nat) (d : Dv) (v : Value), (HR.dvs F.rs r)[j]? = some d → (vs ++ pv)[j]? = some v → VR w ow' M.f d (VB + 1 + j) [] v
def oneM (tmps : Array Value) (x : ResultVar) : Sem Value :=
  match x with | .tmp t => pure (tmps.getD t undef) | .cell b t => do loadVar t (← asAddr (tmps.getD b undef))
theorem run_one {a : Act} {x : ResultVar} {v : Value} (h : ResOne P w (tfA a) x v) : (oneM a.tmps x).run P w = .ok v w := by
  cases x with
  | tmp t => simp only [oneM, Sem.run_pure]; rw [show a.tmps.getD t undef = v from h.2]
  | cell b t =>
    have h2 := h.2
    simp only [tfA] at h2
    show (do loadVar t (← asAddr (a.tmps.getD b undef))).run P w = _
    cases he : a.tmps.getD b undef with
    | pointer p =>
      rw [he] at h2
      cases p with
      | some ad => simpa [Instr.loadAt, Instr.sureAddr, asAddr] using h2
      | none => simp [Instr.loadAt, Instr.sureAddr, stuck] at h2
    | _ => rw [he] at h2; simp [Instr.loadAt, Instr.sureAddr, stuck] at h2
theorem run_mapM {a : Act} : ∀ (xs : List ResultVar) (vs : List Value), vs.length = xs.length → (∀ (j : Nat) (x : ResultVar) (v : Value), xs[j]? = some x → vs[j]? = some v → ResOne P w (tfA a) x v) →
    (xs.mapM (oneM a.tmps)).run P w = .ok vs w
  | [], [], _, _ => by simp
  | [], _ :: _, h, _ => by cases h
  | _ :: _, [], h, _ => by cases h
  | x :: xs, v :: vs, h, k => by
    have h1 := run_one (k 0 x v rfl rfl)
    have h2 := run_mapM xs vs (Nat.succ.inj h) (fun j y u hy hu => k (j + 1) y u (by simpa using hy) (by simpa using hu))
    rw [List.mapM_cons]
    simp only [Sem.run_bind, Sem.run_pure, h1, h2, Result.andThen_ok]
theorem run_results {fn : Func} {a : Act} {vs : List Value} (hl : vs.length = fn.results.toList.length) (h : ∀ (j : Nat) (x : ResultVar) (v : Value), fn.results.toList[j]? = some x → vs[j]? = some v → ResOne P w (tfA a) x v) :
    (results fn a.tmps).run P w = .ok (resVal vs) w := by
  have h1 := run_mapM fn.results.toList vs hl h
  have e : results fn a.tmps = (do
      let vs ← fn.results.mapM (oneM a.tmps)
      pure (if h : vs.size = 1 then vs[0] else .tuple vs)) := by
    unfold results
    congr 1
  rw [e]
  simp only [Array.mapM_eq_mapM_toList, Sem.run_bind, map_eq_pure_bind, h1, Result.andThen_ok, Sem.run_pure]
  cases vs with
  | nil => rfl
  | cons v vs => cases vs <;> simp [resVal]
theorem finV_sound {F : Fn} {a : Act} {r : HR F.rs} (h : Rel M W w ow (tfA a) st) (hf : Fin st) {pv : List Value} (hpin : M.pin = F.ino) (hd : a.dk M = ([], pv)) (hx : finV P F st = some r) : EndQ P F M W r pv a w := by
  unfold finV at hx
  split at hx
  rotate_left
  · rename_i g hmk
    split at hx
    · rename_i t hres hino
      split at hx
      · rename_i f ds hst
        split at hx
        · rename_i hc
          simp only [Bool.and_eq_true] at hc
          have hfg : f = g := Nat.eq_of_beq_eq_true hc.1
          subst hfg
          have hown : ∀ u ∈ F.rs, u.hasOwn = false := by
            exact (mkB_spec hc.2).2 (by rw [hmk]; simp)
          have hE := h.ent t
          rw [hst] at hE
          obtain ⟨vs, e1, e2, e3⟩ := hE
          obtain ⟨g1, g2⟩ := HR_of _ _ hx
          have hdd : a.defers = [] := congrArg Prod.fst hd
          have hpv : pv = [] := by
            have k : M.pin.map (tfA a) = pv := congrArg Prod.snd hd
            rw [hpin, hino] at k; exact k.symm
          subst hpv
          have hrun : (results F.f a.tmps).run P w = .ok (resVal [tfA a t]) w := run_results (by rw [hres]; rfl) (fun j x v hx' hv => by
            rw [hres] at hx'
            cases j with
            | zero => simp only [List.getElem?_cons_zero, Option.some.injEq] at hx' hv; subst hx'; subst hv; exact ⟨Nat.lt_of_not_le fun hle => (by rw [hf t hle] at hst; cases hst), rfl⟩
            | succ j => simp at hx')
          refine ⟨hdd, vs, ow, ?_, h.fr, fun b l hl => h.own b l hl, by rw [List.append_nil, g1, e2], fun j d v hd' hv => ?_⟩
          · rw [hrun]; simp only [retV, hmk, resVal, e1]
          · rw [List.append_nil] at hv
            obtain ⟨d0, q1, q2⟩ := g2 j d hd'
            obtain ⟨r1, r2, r3, r4⟩ := e3 j d0 v q1 hv
            obtain ⟨z1, z2⟩ := coe_sz _ _ q2
            refine ⟨by rw [← r2, z2], by rw [r3, z1], ?_⟩
            have r5 := coeFlat _ _ r1 q2 r4
            exact Rd.flat (Nat.le_refl _) _ (hown _ (HR_ty _ _ d (List.mem_of_getElem? hd'))) (fun _ _ => rfl) (fun b _ hb => ⟨hb, rfl⟩) r5
        · cases hx
      · cases hx
    · cases hx
  rename_i hmk
  split at hx
  · rename_i ds st1 hr
    obtain ⟨ow1, tf1, us, k1, k2, k3, k4, k5, k6, k7, k8⟩ := resV_sound (Nat.le_succ VB) h (h.low hf) (fun y hy => hf y (Nat.le_of_succ_le hy)) hr
    obtain ⟨g1, g2⟩ := HR_of _ _ hx
    obtain ⟨ow2, o1, o2, o3⟩ := coeMany k1 (fun n => match Nat.ble (VB + 1) n with | true => (HR.dvs F.rs r)[n - (VB + 1)]? | false => none) (fun n d' hd' => by
      split at hd'
      · rename_i hb
        have hb := Nat.le_of_ble_eq_true hb
        obtain ⟨d, e1, e2⟩ := g2 _ d' hd'
        refine ⟨d, ?_, e2⟩
        have := k6 _ d e1
        rwa [show VB + 1 + (n - (VB + 1)) = n by omega] at this
      · cases hd')
    have hdd : a.defers = [] := congrArg Prod.fst hd
    have hpv : F.ino.map (tfA a) = pv := by rw [← hpin]; exact congrArg Prod.snd hd
    obtain ⟨vs, evs⟩ : ∃ vs, vs = us.take F.f.results.toList.length := ⟨_, rfl⟩
    rw [List.length_append, List.length_map] at k3
    have hvs : vs.length = F.f.results.toList.length := by rw [evs, List.length_take]; omega
    have hpl : pv.length = F.ino.length := by rw [← hpv, List.length_map]
    have hus : us = vs ++ pv := by
      rw [evs]
      conv => lhs; rw [← List.take_append_drop F.f.results.toList.length us]
      congr 1
      refine List.ext_getElem? fun j => ?_
      rw [List.getElem?_drop]
      rcases Nat.lt_or_ge j F.ino.length with hj | hj
      · obtain ⟨n, hn⟩ : ∃ n, F.ino[j]? = some n := ⟨_, List.getElem?_eq_getElem hj⟩
        obtain ⟨u, hu⟩ : ∃ u, us[F.f.results.toList.length + j]? = some u := ⟨_, List.getElem?_eq_getElem (by omega)⟩
        have hk := k7 (F.f.results.toList.length + j) (.tmp n) u (by rw [List.getElem?_append_right (by omega)]; simp [hn]) hu
        rw [hu, ← hpv, List.getElem?_map, hn]
        exact congrArg some hk.2.symm
      · rw [List.getElem?_eq_none (by omega), List.getElem?_eq_none (by omega)]
    have k7' : ∀ (j : Nat) (x : ResultVar) (v : Value), F.f.results.toList[j]? = some x → vs[j]? = some v → ResOne P w (tfA a) x v := fun j x v hx hv => by
      have hj := (List.getElem?_eq_some_iff.1 hx).1
      exact k7 j x v (by rw [List.getElem?_append_left hj]; exact hx) (by rw [hus, List.getElem?_append_left (by omega)]; exact hv)
    refine ⟨hdd, vs, ow2, by rw [run_results hvs k7']; simp only [retV, hmk], k1.fr, fun b l hl => k1.own b l (o1 b l hl), by rw [← hus, g1, k4, List.length_append, List.length_map]; omega, fun j d v hd' hv => ?_⟩
    rw [← hus] at hv
    have := o3 (VB + 1 + j) d (by
      rw [Nat.ble_eq_true_of_le (Nat.le_add_right _ _)]
      dsimp only
      rw [show VB + 1 + j - (VB + 1) = j by omega]; exact hd')
    rw [k5 j v hv] at this
    exact this
  · cases hx
end Go.Proofs.Ytlmcalffemklnaa.Rf
namespace Go.Proofs.Ytlmcalffemklnaa.Rf
section
variable {P : Program} {Q : Exit → Act → World → Prop} {a : Act} {w : World}
theorem exitTo_len {id : Nat} : ∀ {k k' : List Item}, exitTo id k = some k' → k'.length ≤ k.length
  | [], k', h => by simp [exitTo] at h
  | x :: k, k', h => by
    cases x <;> simp only [exitTo] at h <;> try (have := exitTo_len h; simp only [List.length_cons]; omega)
    split at h
    · obtain rfl := Option.some.inj h; simp
    · have := exitTo_len h; simp only [List.length_cons]; omega
theorem at_todo {b : Frame} {a a' : Act} {k k' : List Item} {cs : List Frame} {w w' : World} (h : lone (b.at a k) cs w = lone (b.at a' k') cs w') : k = k' := by
  simp only [lone, Machine.mk.injEq] at h
  have h2 := h.2.1
  simp at h2
  have := congrArg Frame.todo h2
  exact this
theorem steps_strip {m m1 t : Machine} (h1 : step P m = .next m1) (hne : m ≠ t) (h : Steps P m t) : Steps P m1 t := by
  obtain ⟨n, hn⟩ := h
  cases n with
  | zero =>
    simp only [runN] at hn
    exact absurd (by simpa using hn) hne
  | succ n =>
    refine ⟨n, ?_⟩
    simp only [runN, h1] at hn
    exact hn
theorem wp_unroll {c : Code} (hg : ∀ l a w, ¬ Q (.goto l) a w) (ho : ∀ a w, ¬ Q .outgrown a w) (h : c.wp P (Exit.then ((Code.loop c).wp P Q) Q) a w) : (Code.loop c).wp P Q a w := by
  intro b k cs
  obtain ⟨e, a1, w1, hq, harr⟩ := h b (.inLoop c :: k) cs
  cases e with
  | normal =>
    obtain ⟨e2, a2, w2, hq2, harr2⟩ := hq b k cs
    refine ⟨e2, a2, w2, hq2, .of_steps (.head step_loop harr) ?_⟩
    have go : ∀ {t : Machine}, lone (b.at a1 (.code (.loop c) :: k)) cs w1 ≠ t → Steps P (lone (b.at a1 (.code (.loop c) :: k)) cs w1) t → Steps P (lone (b.at a1 (.inLoop c :: k)) cs w1) t := fun hne hs =>
      .head step_inLoop (steps_strip step_loop hne hs)
    cases e2 with
    | normal => exact go (fun e => by have := congrArg List.length (at_todo e); simp at this) harr2
    | exit id => exact fun k' hk => go (fun e => by have := congrArg List.length (at_todo e); have := exitTo_len hk; simp at *; omega) (harr2 k' hk)
    | goto l => exact absurd hq2 (hg _ _ _)
    | ret =>
      obtain ⟨todo, hs⟩ := harr2
      refine ⟨todo, go (fun e => ?_) hs⟩
      simp only [lone, Machine.mk.injEq] at e
      have h2 := e.2.1
      simp [Frame.at] at h2
    | panic ch =>
      obtain ⟨todo, hs⟩ := harr2
      refine ⟨todo, go (fun e => ?_) hs⟩
      simp only [lone, Machine.mk.injEq] at e
      have h2 := e.2.1
      simp [Frame.at] at h2
    | outgrown => exact absurd hq2 (ho _ _)
  | exit id => exact ⟨_, a1, w1, hq, .of_steps (.one step_loop) (.pass (x := .inLoop c) rfl (fun _ _ => .inl (by simp)) harr)⟩
  | goto l => exact absurd hq (hg _ _ _)
  | ret => exact ⟨_, a1, w1, hq, .of_steps (.one step_loop) (.pass (x := .inLoop c) rfl (fun _ _ => .inl (by simp)) harr)⟩
  | panic ch => exact ⟨_, a1, w1, hq, .of_steps (.one step_loop) (.pass (x := .inLoop c) rfl (fun _ _ => .inl (by simp)) harr)⟩
  | outgrown => exact absurd hq (ho _ _)
end
section
variable {P : Program} {b : Frame} {a : Act} {k : List Item} {cs : List Frame} {w : World} {Q : Exit → Act → World → Prop} {ro : Option Nat} {n : Nat}
theorem stepR_scope {c : Code} : step P (lone (b.atR a (.code (.scope c) :: k)) cs w) = .next (lone (b.atR a (.code c :: .inScope c :: k)) cs w) :=
  step_lone_go (by simp [stepG, stepG.exec, Frame.atR])
theorem stepR_inScope {c : Code} : step P (lone (b.atR a (.inScope c :: k)) cs w) = .next (lone (b.atR a k) cs w) :=
  step_lone_go (by simp [stepG, stepG.exec, Frame.atR])
theorem wpIn_scope_straight {c : Code} (h : c.wpIn (FR ro) n P (Exit.noGoto Q) a w) : (Code.scope c).wpIn (FR ro) n P Q a w := by
  intro b k cs hro hb hr
  have h0 : (lone (b.atR a (.code (.scope c) :: k)) cs w).fenced P (FR ro) := fenced_calm hb hr rfl
  obtain ⟨e, a₁, w₁, hq, harr⟩ := h b (.inScope c :: k) cs hro hb hr
  cases e with
  | normal => exact ⟨.normal, a₁, w₁, hq, .head h0 stepR_scope (StepsIn.trans harr (.one (fenced_calm hb hr rfl) stepR_inScope))⟩
  | exit id => exact ⟨.exit id, a₁, w₁, hq, .of_steps (.one h0 stepR_scope) ⟨fun k' hk => harr.1 k' (by simp [exitTo, hk]), fun hr' hk => harr.2 hr' (by simp [exitTo, hk])⟩⟩
  | goto l => exact hq.elim
  | ret => exact ⟨_, a₁, w₁, hq, .of_steps (.one h0 stepR_scope) harr⟩
  | panic ch => exact ⟨_, a₁, w₁, hq, .of_steps (.one h0 stepR_scope) harr⟩
  | outgrown => exact ⟨_, a₁, w₁, hq, .of_steps (.one h0 stepR_scope) harr⟩
end
/-- What an ending of a piece of code must lead to, by what stands around it. -/
def FsQ (ro : Option Nat) (P : Program) (E : Act → World → Prop) : List Fr → Exit → Act → World → Prop
  | [], .normal, a, w => E a w
  | [], .ret, a, w => E a w
  | [], _, _, _ => False
  | .sq b _ :: fs, .normal, a, w => b.wpIn (FR ro) 0 P (FsQ ro P E fs) a w
  | .sq _ _ :: fs, e, a, w => FsQ ro P E fs e a w
  | .blk id :: fs, .exit id', a, w => if id' = id then FsQ ro P E fs .normal a w else FsQ ro P E fs (.exit id') a w
  | .blk _ :: fs, e, a, w => FsQ ro P E fs e a w
  | .lp b _ :: fs, .normal, a, w => (Code.loop b).wpIn (FR ro) 0 P (FsQ ro P E fs) a w
  | .lp _ _ :: fs, e, a, w => FsQ ro P E fs e a w
  | .sk :: fs, e, a, w => FsQ ro P E fs e a w
section
variable {ro : Option Nat} {P : Program} {E : Act → World → Prop}
theorem fsq_goto : ∀ (fs : List Fr) (l : Nat) (a : Act) (w : World), ¬ FsQ ro P E fs (.goto l) a w
  | [], l, a, w, h => h
  | .sq _ _ :: fs, l, a, w, h => fsq_goto fs l a w h
  | .blk _ :: fs, l, a, w, h => fsq_goto fs l a w h
  | .lp _ _ :: fs, l, a, w, h => fsq_goto fs l a w h
  | .sk :: fs, l, a, w, h => fsq_goto fs l a w h
theorem fsq_out : ∀ (fs : List Fr) (a : Act) (w : World), ¬ FsQ ro P E fs .outgrown a w
  | [], a, w, h => h
  | .sq _ _ :: fs, a, w, h => fsq_out fs a w h
  | .blk _ :: fs, a, w, h => fsq_out fs a w h
  | .lp _ _ :: fs, a, w, h => fsq_out fs a w h
  | .sk :: fs, a, w, h => fsq_out fs a w h
theorem fsq_panic : ∀ (fs : List Fr) (c : List PanicEntry) (a : Act) (w : World), ¬ FsQ ro P E fs (.panic c) a w
  | [], c, a, w, h => h
  | .sq _ _ :: fs, c, a, w, h => fsq_panic fs c a w h
  | .blk _ :: fs, c, a, w, h => fsq_panic fs c a w h
  | .lp _ _ :: fs, c, a, w, h => fsq_panic fs c a w h
  | .sk :: fs, c, a, w, h => fsq_panic fs c a w h
end
def exX : Ex → Exit
  | .nor => .normal | .ext id => .exit id | .rt => .ret
/-- A piece of code's place. -/
def SubAt (root : Code) (key : Nat) (c : Code) (fs : List Fr) : Prop := ∃ p, sub root p = some (c, key, fs)
def keyOf : List Bool → Nat
  | [] => 1
  | false :: p => 2 * keyOf p
  | true :: p => 2 * keyOf p + 1
theorem keyOf_pos : ∀ p, 1 ≤ keyOf p
  | [] => Nat.le_refl _
  | false :: p => by have := keyOf_pos p; simp only [keyOf]; omega
  | true :: p => by simp only [keyOf]; omega
theorem keyOf_inj : ∀ p q, keyOf p = keyOf q → p = q
  | [], [], _ => rfl
  | [], false :: q, h => by have := keyOf_pos q; simp only [keyOf] at h; omega
  | [], true :: q, h => by have := keyOf_pos q; simp only [keyOf] at h; omega
  | false :: p, [], h => by have := keyOf_pos p; simp only [keyOf] at h; omega
  | true :: p, [], h => by have := keyOf_pos p; simp only [keyOf] at h; omega
  | false :: p, false :: q, h => by simp only [keyOf] at h; rw [keyOf_inj p q (by omega)]
  | true :: p, true :: q, h => by simp only [keyOf] at h; rw [keyOf_inj p q (by omega)]
  | false :: p, true :: q, h => by simp only [keyOf] at h; omega
  | true :: p, false :: q, h => by simp only [keyOf] at h; omega
theorem sub_key {root : Code} : ∀ (p : List Bool) {c : Code} {k : Nat} {fs : List Fr}, sub root p = some (c, k, fs) → k = keyOf p
  | [], c, k, fs, h => by simp only [sub, Option.some.injEq, Prod.mk.injEq] at h; exact h.2.1.symm
  | d :: p, c, k, fs, h => by
    simp only [sub] at h
    split at h
    · rename_i a b key fs' hp
      have := sub_key p hp
      cases d <;> simp only [Option.some.injEq, Prod.mk.injEq] at h <;> simp only [keyOf] <;> omega
    · rename_i a b key fs' hp
      have := sub_key p hp
      cases d <;> simp only [Option.some.injEq, Prod.mk.injEq] at h <;> simp only [keyOf] <;> omega
    · rename_i a b key fs' hp
      have := sub_key p hp
      cases d <;> simp only [Option.some.injEq, Prod.mk.injEq, reduceCtorEq] at h <;> simp only [keyOf] <;> omega
    · rename_i a key fs' hp
      have := sub_key p hp
      cases d <;> simp only [Option.some.injEq, Prod.mk.injEq, reduceCtorEq] at h <;> simp only [keyOf] <;> omega
    · rename_i a key fs' hp
      have := sub_key p hp
      cases d <;> simp only [Option.some.injEq, Prod.mk.injEq, reduceCtorEq] at h <;> simp only [keyOf] <;> omega
    · cases h
theorem SubAt.uniq {root : Code} {key : Nat} {c c' : Code} {fs fs' : List Fr} (h : SubAt root key c fs) (h' : SubAt root key c' fs') : c = c' ∧ fs = fs' := by
  obtain ⟨p, hp⟩ := h
  obtain ⟨q, hq⟩ := h'
  have := keyOf_inj p q ((sub_key p hp).symm.trans (sub_key q hq))
  subst this
  rw [hp] at hq
  simp only [Option.some.injEq, Prod.mk.injEq] at hq
  exact ⟨hq.1, hq.2.2⟩
def operB (pin : List Nat) (n : Nat) (o : Oper) : Bool :=
  (match o.dst with | some d => Nat.blt d n && Nat.blt d VB && !memN d pin | none => true) && (match o.op with | .store _ _ _ => (match o.dst with | none => true | some _ => false) | .defer _ => false | _ => true)
def codeB (pin : List Nat) (n : Nat) : Code → Bool
  | .region _ ops _ => ops.toList.all (operB pin n)
  | .seq a b => codeB pin n a && codeB pin n b
  | .cond _ a b => codeB pin n a && codeB pin n b
  | .block _ b => codeB pin n b
  | .loop b => codeB pin n b
  | .scope b => codeB pin n b
  | _ => true
theorem memN_false {n : Nat} : ∀ {l : List Nat}, memN n l = false → n ∉ l
  | [], _ => by simp
  | m :: r, h => by
    simp only [memN] at h
    split at h
    · cases h
    · rename_i hm
      rw [List.mem_cons, not_or]
      exact ⟨fun e => (by rw [e, beq_self] at hm; cases hm), memN_false h⟩
theorem operB_nd {pin : List Nat} {n : Nat} {o : Oper} (h : operB pin n o = true) : ∀ c, o.op ≠ .defer c := fun c e => by
  simp only [operB, Bool.and_eq_true] at h
  rw [e] at h; cases h.2
theorem operB_spec {M : Sc} {n : Nat} {o : Oper} (h : operB M.pin n o = true) {m : Nat} (hm : n ≤ m) : dstOk M o m ∧ ∀ t x y, o.op = .store t x y → o.dst = none := by
  simp only [operB, Bool.and_eq_true] at h
  refine ⟨fun d hd => ?_, fun t x y ho => ?_⟩
  · have := h.1
    rw [hd] at this
    simp only [Bool.and_eq_true, Bool.not_eq_true'] at this
    exact ⟨Nat.lt_of_lt_of_le (Nat.blt_eq.mp this.1.1) hm, Nat.blt_eq.mp this.1.2, memN_false this.2⟩
  · have := h.2
    rw [ho] at this
    cases hd : o.dst with
    | none => rfl
    | some d => rw [hd] at this; cases this
def FrOk (root : Code) (pin : List Nat) (n : Nat) : List Fr → Prop
  | [] => True
  | .sq b kb :: fs => SubAt root kb b (.sk :: fs) ∧ codeB pin n b = true ∧ FrOk root pin n fs
  | .lp b key :: fs => SubAt root key (.loop b) fs ∧ FrOk root pin n fs
  | .blk _ :: fs => FrOk root pin n fs
  | .sk :: fs => FrOk root pin n fs
theorem sub_ok {root : Code} {pin : List Nat} {n : Nat} (hr : codeB pin n root = true) : ∀ (p : List Bool) {c : Code} {k : Nat} {fs : List Fr}, sub root p = some (c, k, fs) → codeB pin n c = true ∧ FrOk root pin n fs
  | [], c, k, fs, h => by simp only [sub, Option.some.injEq, Prod.mk.injEq] at h; obtain ⟨rfl, _, rfl⟩ := h; exact ⟨hr, trivial⟩
  | d :: p, c, k, fs, h => by
    simp only [sub] at h
    split at h
    · rename_i a b key fs' hp
      obtain ⟨h1, h2⟩ := sub_ok hr p hp
      simp only [codeB, Bool.and_eq_true] at h1
      cases d <;> simp only [Option.some.injEq, Prod.mk.injEq] at h <;> obtain ⟨rfl, rfl, rfl⟩ := h
      · exact ⟨h1.1, ⟨true :: p, by simp only [sub, hp]⟩, h1.2, h2⟩
      · exact ⟨h1.2, h2⟩
    · rename_i a b key fs' hp
      obtain ⟨h1, h2⟩ := sub_ok hr p hp
      simp only [codeB, Bool.and_eq_true] at h1
      cases d <;> simp only [Option.some.injEq, Prod.mk.injEq] at h <;> obtain ⟨rfl, rfl, rfl⟩ := h
      · exact ⟨h1.1, h2⟩
      · exact ⟨h1.2, h2⟩
    · rename_i a b key fs' hp
      obtain ⟨h1, h2⟩ := sub_ok hr p hp
      cases d <;> simp only [Option.some.injEq, Prod.mk.injEq, reduceCtorEq] at h
      obtain ⟨rfl, rfl, rfl⟩ := h
      exact ⟨h1, h2⟩
    · rename_i a key fs' hp
      obtain ⟨h1, h2⟩ := sub_ok hr p hp
      cases d <;> simp only [Option.some.injEq, Prod.mk.injEq, reduceCtorEq] at h
      obtain ⟨rfl, rfl, rfl⟩ := h
      exact ⟨h1, ⟨p, hp⟩, h2⟩
    · rename_i a key fs' hp
      obtain ⟨h1, h2⟩ := sub_ok hr p hp
      cases d <;> simp only [Option.some.injEq, Prod.mk.injEq, reduceCtorEq] at h
      obtain ⟨rfl, rfl, rfl⟩ := h
      exact ⟨h1, h2⟩
    · cases h
end Go.Proofs.Ytlmcalffemklnaa.Rf
namespace Go.Proofs.Ytlmcalffemklnaa.Rf
theorem fsq_sk {ro : Option Nat} {P : Program} {E : Act → World → Prop} {fs : List Fr} : FsQ ro P E (.sk :: fs) = FsQ ro P E fs := by
  funext e a w; cases e <;> rfl
section
variable {P : Program} {tab : List Fn} {D : DD tab} {v : Nat}
theorem exec_sound {ro : Option Nat} (hC : Good (⟨P, tab, D⟩ : Cx (HR (fnAt tab v).rs))) (hm : P.follows .mixedOrders = true) {root : Code} {n n0 : Nat} (hn0 : n ≤ n0) {ds : List Deferred × List Value} {E : Act → World → Prop} {M : Sc} {W : World} {r : HR (fnAt tab v).rs}
    (hpt : ∀ (key : Nat) (st : St) (a : Act) (w : World) (ow : Own), jump tab D v key st = some r → Fin st → Rel M W w ow (tfA a) st → a.tmps.size = n0 → a.dk M = ds → ∀ c fs, SubAt root key c fs → c.wpIn (FR ro) 0 P (FsQ ro P E fs) a w) :
    ∀ (c : Code) (key : Nat) (fs : List Fr), SubAt root key c fs → codeB M.pin n c = true → ∀ (st : St) (a : Act) (w : World) (ow : Own) (κ : Ex → St → Option (HR (fnAt tab v).rs)),
      exec P tab D v c key st κ = some r → Fin st → Rel M W w ow (tfA a) st → a.tmps.size = n0 → a.dk M = ds →
      (∀ e st' a' w' ow', κ e st' = some r → Fin st' → Rel M W w' ow' (tfA a') st' → a'.tmps.size = n0 → a'.dk M = ds → FsQ ro P E fs (exX e) a' w') → c.wpIn (FR ro) 0 P (FsQ ro P E fs) a w
  | .skip, key, fs, hs, hb, st, a, w, ow, κ, hx, hf, h, hn, hd, hκ => wpIn_skip (hκ .nor st a w ow hx hf h hn hd)
  | .label l, key, fs, hs, hb, st, a, w, ow, κ, hx, hf, h, hn, hd, hκ => wpIn_label (hκ .nor st a w ow hx hf h hn hd)
  | .ret, key, fs, hs, hb, st, a, w, ow, κ, hx, hf, h, hn, hd, hκ => wpIn_ret (hκ .rt st a w ow hx hf h hn hd)
  | .exit id, key, fs, hs, hb, st, a, w, ow, κ, hx, hf, h, hn, hd, hκ => wpIn_exit (hκ (.ext id) st a w ow hx hf h hn hd)
  | .region id ops false, key, fs, hs, hb, st, a, w, ow, κ, hx, hf, h, hn, hd, hκ =>
    (region_text (ro := ro) (nn := 0) hC (fun o ho => (operB_spec (List.all_eq_true.1 hb o ho) hn0).1) (fun o ho => (operB_spec (List.all_eq_true.1 hb o ho) hn0).2) (fun a' w' st2 ow2 k1 k2 k3 k4 k5 => hκ .nor st2 a' w' ow2 k1 k2 k3 k4 k5) hn hd hf h hx)
  | .region id ops true, key, fs, hs, hb, st, a, w, ow, κ, hx, hf, h, hn, hd, hκ => by
    simp only [exec] at hx
    split at hx
    · rename_i l hl
      exact (region_any (ro := ro) (nn := 0) hC hm (fun o ho => (operB_spec (List.all_eq_true.1 hb o ho) hn0).1) (fun o ho => (operB_spec (List.all_eq_true.1 hb o ho) hn0).2) (fun o ho => operB_nd (List.all_eq_true.1 hb o ho)) (fun a' w' st2 ow2 k1 k2 k3 k4 k5 => hκ .nor st2 a' w' ow2 k1 k2 k3 k4 k5) hl hn hd hf h hx)
    · cases hx
  | .seq x y, key, fs, hs, hb, st, a, w, ow, κ, hx, hf, h, hn, hd, hκ => by
    obtain ⟨p, hp⟩ := hs
    have hsx : SubAt root (2 * key) x (.sq y (2 * key + 1) :: fs) := ⟨false :: p, by simp only [sub, hp]⟩
    have hsy : SubAt root (2 * key + 1) y (.sk :: fs) := ⟨true :: p, by simp only [sub, hp]⟩
    simp only [codeB, Bool.and_eq_true] at hb
    simp only [exec] at hx
    refine wpIn_seq (wpIn_mono (exec_sound hC hm hn0 hpt x (2 * key) _ hsx hb.1 st a w ow _ hx hf h hn hd (fun e st' a' w' ow' k1 k2 k3 k4 k5 => ?_)) (fun e a' w' he => ?_))
    · cases e with
      | nor =>
        simp only at k1
        show y.wpIn (FR ro) 0 P (FsQ ro P E fs) a' w'
        split at k1
        · have q := hpt _ st' a' w' ow' k1 k2 k3 k4 k5 y _ hsy
          rw [fsq_sk] at q; exact q
        · exact exec_sound hC hm hn0 hpt y (2 * key + 1) (.sk :: fs) hsy hb.2 st' a' w' ow' κ k1 k2 k3 k4 k5 (fun e st2 a2 w2 ow2 q1 q2 q3 q4 q5 => hκ e st2 a2 w2 ow2 q1 q2 q3 q4 q5)
      | ext id => exact hκ (.ext id) st' a' w' ow' k1 k2 k3 k4 k5
      | rt => exact hκ .rt st' a' w' ow' k1 k2 k3 k4 k5
    · cases e <;> exact he
  | .cond c x y, key, fs, hs, hb, st, a, w, ow, κ, hx, hf, h, hn, hd, hκ => by
    obtain ⟨p, hp⟩ := hs
    have hsx : SubAt root (2 * key) x (.sk :: fs) := ⟨false :: p, by simp only [sub, hp]⟩
    have hsy : SubAt root (2 * key + 1) y (.sk :: fs) := ⟨true :: p, by simp only [sub, hp]⟩
    simp only [codeB, Bool.and_eq_true] at hb
    simp only [exec] at hx
    split at hx
    · rename_i z hz
      have hx := brB_some hx
      have hev : a.eval c = .bool z := by rw [eval_ev]; exact opd_bool h hz
      refine wpIn_cond hev ?_
      change Bool at z
      cases z with
      | true => exact exec_sound hC hm hn0 hpt x (2 * key) (.sk :: fs) hsx hb.1 st a w ow κ hx hf h hn hd (fun e st2 a2 w2 ow2 q1 q2 q3 q4 q5 => hκ e st2 a2 w2 ow2 q1 q2 q3 q4 q5)
      | false => exact exec_sound hC hm hn0 hpt y (2 * key + 1) (.sk :: fs) hsy hb.2 st a w ow κ hx hf h hn hd (fun e st2 a2 w2 ow2 q1 q2 q3 q4 q5 => hκ e st2 a2 w2 ow2 q1 q2 q3 q4 q5)
    · cases hx
  | .block id x, key, fs, hs, hb, st, a, w, ow, κ, hx, hf, h, hn, hd, hκ => by
    obtain ⟨p, hp⟩ := hs
    have hsx : SubAt root (2 * key) x (.blk id :: fs) := ⟨false :: p, by simp only [sub, hp]⟩
    simp only [exec] at hx
    refine wpIn_block (wpIn_mono (exec_sound hC hm hn0 hpt x (2 * key) _ hsx hb st a w ow _ hx hf h hn hd (fun e st' a' w' ow' k1 k2 k3 k4 k5 => ?_)) (fun e a' w' he => ?_))
    · cases e with
      | nor => exact hκ .nor st' a' w' ow' k1 k2 k3 k4 k5
      | rt => exact hκ .rt st' a' w' ow' k1 k2 k3 k4 k5
      | ext id' =>
        simp only at k1
        show (if id' = id then _ else _)
        split at k1
        · rename_i he
          rw [if_pos (Nat.eq_of_beq_eq_true he)]
          exact hκ .nor st' a' w' ow' k1 k2 k3 k4 k5
        · rename_i he
          rw [if_neg (fun e => by rw [e, beq_self] at he; cases he)]
          exact hκ (.ext id') st' a' w' ow' k1 k2 k3 k4 k5
    · cases e <;> exact he
  | .loop x, key, fs, hs, hb, st, a, w, ow, κ, hx, hf, h, hn, hd, hκ => hpt key st a w ow hx hf h hn hd _ _ hs
  | .scope x, key, fs, hs, hb, st, a, w, ow, κ, hx, hf, h, hn, hd, hκ => by
    obtain ⟨p, hp⟩ := hs
    have hsx : SubAt root (2 * key) x (.sk :: fs) := ⟨false :: p, by simp only [sub, hp]⟩
    refine wpIn_scope_straight (wpIn_mono (exec_sound hC hm hn0 hpt x (2 * key) (.sk :: fs) hsx hb st a w ow κ hx hf h hn hd (fun e st2 a2 w2 ow2 q1 q2 q3 q4 q5 => hκ e st2 a2 w2 ow2 q1 q2 q3 q4 q5)) (fun e a' w' he => ?_))
    cases e with
    | goto l => exact absurd he (fsq_goto _ _ _ _)
    | _ => exact he
  | .goto _, key, fs, hs, hb, st, a, w, ow, κ, hx, hf, h, hn, hd, hκ => by simp only [exec, reduceCtorEq] at hx
  | .rangeFunc .., key, fs, hs, hb, st, a, w, ow, κ, hx, hf, h, hn, hd, hκ => by simp only [exec, reduceCtorEq] at hx
theorem kap_sound {ro : Option Nat} (hC : Good (⟨P, tab, D⟩ : Cx (HR (fnAt tab v).rs))) (hm : P.follows .mixedOrders = true) {root : Code} {n n0 : Nat} (hn0 : n ≤ n0) {ds : List Deferred × List Value} {E : Act → World → Prop} {M : Sc} {W : World} {r : HR (fnAt tab v).rs}
    (hpt : ∀ (key : Nat) (st : St) (a : Act) (w : World) (ow : Own), jump tab D v key st = some r → Fin st → Rel M W w ow (tfA a) st → a.tmps.size = n0 → a.dk M = ds → ∀ c fs, SubAt root key c fs → c.wpIn (FR ro) 0 P (FsQ ro P E fs) a w)
    (hE : ∀ (st : St) (a : Act) (w : World) (ow : Own), finV P (fnAt tab v) st = some r → Fin st → Rel M W w ow (tfA a) st → a.dk M = ds → E a w) :
    ∀ (fs : List Fr), FrOk root M.pin n fs → ∀ (e : Ex) (st : St) (a : Act) (w : World) (ow : Own), kap P tab D v fs e st = some r → Fin st → Rel M W w ow (tfA a) st → a.tmps.size = n0 → a.dk M = ds → FsQ ro P E fs (exX e) a w
  | [], hfr, .nor, st, a, w, ow, hx, hf, h, hn, hd => hE st a w ow hx hf h hd
  | [], hfr, .rt, st, a, w, ow, hx, hf, h, hn, hd => hE st a w ow hx hf h hd
  | [], hfr, .ext _, st, a, w, ow, hx, hf, h, hn, hd => by simp only [kap, reduceCtorEq] at hx
  | .sq b kb :: fs, hfr, .nor, st, a, w, ow, hx, hf, h, hn, hd => by
    simp only [kap] at hx
    show b.wpIn (FR ro) 0 P (FsQ ro P E fs) a w
    split at hx
    · have q := hpt kb st a w ow hx hf h hn hd b _ hfr.1
      rw [fsq_sk] at q; exact q
    · exact exec_sound hC hm hn0 hpt b kb (.sk :: fs) hfr.1 hfr.2.1 st a w ow _ hx hf h hn hd (fun e st2 a2 w2 ow2 q1 q2 q3 q4 q5 => kap_sound hC hm hn0 hpt hE fs hfr.2.2 e st2 a2 w2 ow2 q1 q2 q3 q4 q5)
  | .sq b kb :: fs, hfr, .rt, st, a, w, ow, hx, hf, h, hn, hd => kap_sound hC hm hn0 hpt hE fs hfr.2.2 .rt st a w ow hx hf h hn hd
  | .sq b kb :: fs, hfr, .ext id, st, a, w, ow, hx, hf, h, hn, hd => kap_sound hC hm hn0 hpt hE fs hfr.2.2 (.ext id) st a w ow hx hf h hn hd
  | .blk id :: fs, hfr, .nor, st, a, w, ow, hx, hf, h, hn, hd => kap_sound hC hm hn0 hpt hE fs hfr .nor st a w ow hx hf h hn hd
  | .blk id :: fs, hfr, .rt, st, a, w, ow, hx, hf, h, hn, hd => kap_sound hC hm hn0 hpt hE fs hfr .rt st a w ow hx hf h hn hd
  | .blk id :: fs, hfr, .ext id', st, a, w, ow, hx, hf, h, hn, hd => by
    simp only [kap] at hx
    show (if id' = id then _ else _)
    split at hx
    · rename_i he
      rw [if_pos (Nat.eq_of_beq_eq_true he)]
      exact kap_sound hC hm hn0 hpt hE fs hfr .nor st a w ow hx hf h hn hd
    · rename_i he
      rw [if_neg (fun e => by rw [e, beq_self] at he; cases he)]
      exact kap_sound hC hm hn0 hpt hE fs hfr (.ext id') st a w ow hx hf h hn hd
  | .lp b key :: fs, hfr, .nor, st, a, w, ow, hx, hf, h, hn, hd => hpt key st a w ow hx hf h hn hd _ _ hfr.1
  | .lp b key :: fs, hfr, .rt, st, a, w, ow, hx, hf, h, hn, hd => kap_sound hC hm hn0 hpt hE fs hfr.2 .rt st a w ow hx hf h hn hd
  | .lp b key :: fs, hfr, .ext id, st, a, w, ow, hx, hf, h, hn, hd => kap_sound hC hm hn0 hpt hE fs hfr.2 (.ext id) st a w ow hx hf h hn hd
  | .sk :: fs, hfr, e, st, a, w, ow, hx, hf, h, hn, hd => by
    have := kap_sound hC hm hn0 hpt hE fs hfr e st a w ow (by cases e <;> exact hx) hf h hn hd
    cases e <;> exact this
end
/-- The checks of a table that no walk makes. -/
def fnB (F : Fn) : Bool := Nat.ble F.ps.length VB && !(F.f.name == "runtime.NumGoroutine") && (match F.f.body with | some c => codeB F.ino F.f.ntmps c | none => false)
def tabB (tab : List Fn) : Bool := tab.all fnB
structure TabOk (P : Program) (tab : List Fn) : Prop where
  fns : ∀ F ∈ tab, P.funcs[F.fid]? = some F.f
  chk : tabB tab = true
  mix : P.follows .mixedOrders = true
theorem fnAt_mem {tab : List Fn} {v : Nat} (h : v < tab.length) : tab[v]? = some (fnAt tab v) ∧ fnAt tab v ∈ tab := by
  have e : fnAt tab v = tab[v] := by
    unfold fnAt
    rw [List.getD_eq_getElem?_getD, List.getElem?_eq_getElem h]; rfl
  rw [e]
  exact ⟨List.getElem?_eq_getElem h, List.getElem_mem h⟩
theorem TabOk.at {P : Program} {tab : List Fn} (h : TabOk P tab) {v : Nat} (hv : v < tab.length) : P.funcs[(fnAt tab v).fid]? = some (fnAt tab v).f ∧ ((fnAt tab v).f.name == "runtime.NumGoroutine") = false ∧ ∃ root, (fnAt tab v).f.body = some root ∧ codeB (fnAt tab v).ino (fnAt tab v).f.ntmps root = true := by
  obtain ⟨h1, h2⟩ := fnAt_mem hv
  have h3 := List.all_eq_true.1 h.chk _ h2
  simp only [fnB, Bool.and_eq_true, Bool.not_eq_true'] at h3
  refine ⟨h.fns _ h2, h3.1.2, ?_⟩
  have := h3.2
  split at this
  · rename_i c hc; exact ⟨c, hc, this⟩
  · cases this
/-- From a cut on. -/
def PtOk (P : Program) (tab : List Fn) (D : DD tab) : Prop :=
  ∀ (v : Nat), v < tab.length → ∀ (key : Nat) (h : LL ((fnAt tab v).sh key)) (r : HR (fnAt tab v).rs), D v key h = some r → ∀ (M : Sc) (W w : World) (ow : Own) (a : Act) (pv : List Value), M.pin = (fnAt tab v).ino → Rel M W w ow (tfA a) (mkSt ((fnAt tab v).sh key) h) → Fin (mkSt ((fnAt tab v).sh key) h) →
    (fnAt tab v).f.ntmps ≤ a.tmps.size → a.dk M = ([], pv) → ∀ root, (fnAt tab v).f.body = some root → ∀ c fs, (match key with | 0 => c = root ∧ fs = [] | key => SubAt root key c fs) → c.wpIn (FR none) 0 P (FsQ none P (EndQ P (fnAt tab v) M W r pv) fs) a w
theorem sub_root {root : Code} : SubAt root 1 root [] := ⟨[], rfl⟩
theorem from_sound {P : Program} {tab : List Fn} (hT : TabOk P tab) {D : DD tab} (hG : ∀ v : Nat, Good (⟨P, tab, D⟩ : Cx (HR (fnAt tab v).rs))) (hP : PtOk P tab D) :
    ∀ (v : Nat), v < tab.length → ∀ (key : Nat) (st : St) (r : HR (fnAt tab v).rs), from_ P tab D v key st = some r → ∀ (M : Sc) (W w : World) (ow : Own) (a : Act) (pv : List Value), M.pin = (fnAt tab v).ino → Rel M W w ow (tfA a) st → Fin st →
    (fnAt tab v).f.ntmps ≤ a.tmps.size → a.dk M = ([], pv) → ∀ root, (fnAt tab v).f.body = some root → ∀ c fs, (match key with | 0 => c = root ∧ fs = [] | key => SubAt root key c fs) → c.wpIn (FR none) 0 P (FsQ none P (EndQ P (fnAt tab v) M W r pv) fs) a w := by
  intro v hv key st r hx M W w ow a pv hpin h hf hn hd root hroot c fs hc
  obtain ⟨_, _, root', hr', hcode⟩ := hT.at hv
  rw [hroot] at hr'
  obtain rfl := Option.some.inj hr'
  rw [← hpin] at hcode
  have hpt : ∀ (key : Nat) (st : St) (a' : Act) (w : World) (ow : Own), jump tab D v key st = some r → Fin st → Rel M W w ow (tfA a') st → a'.tmps.size = a.tmps.size → a'.dk M = ([], pv) → ∀ c fs, SubAt root key c fs → c.wpIn (FR none) 0 P (FsQ none P (EndQ P (fnAt tab v) M W r pv) fs) a' w := by
    intro key st a' w ow hj hf h hn' hd' c fs hs
    unfold jump at hj
    split at hj
    · rename_i hnm
      split at hj
      · rename_i H hH
        obtain ⟨ow', k1, k2⟩ := projL_sound h hf hnm hH
        refine hP v hv key H r hj M W w ow' a' pv hpin k1 k2 (by rw [hn']; exact hn) hd' root hroot c fs ?_
        cases key with
        | zero =>
          obtain ⟨p, hp⟩ := hs
          have := sub_key p hp
          have := keyOf_pos p
          omega
        | succ key => exact hs
      · cases hj
    · cases hj
  have hE : ∀ (st : St) (a' : Act) (w : World) (ow : Own), finV P (fnAt tab v) st = some r → Fin st → Rel M W w ow (tfA a') st → a'.dk M = ([], pv) → EndQ P (fnAt tab v) M W r pv a' w := fun st a' w ow hx hf h hd => finV_sound h hf hpin hd hx
  unfold from_ at hx
  rw [hroot] at hx
  dsimp only at hx
  cases key with
  | zero =>
    obtain ⟨rfl, rfl⟩ := hc
    exact exec_sound (ro := none) (hG v) hT.mix hn hpt c 1 [] sub_root hcode st a w ow _ hx hf h rfl hd (fun e st' a' w' ow' k1 k2 k3 k4 k5 => kap_sound (hG v) hT.mix hn hpt hE [] trivial e st' a' w' ow' k1 k2 k3 k4 k5)
  | succ key =>
    have hc : SubAt root (key + 1) c fs := hc
    split at hx
    · rename_i e; cases e
    split at hx
    · rename_i b k fs' hs
      split at hx
      · rename_i hk
        obtain rfl := Nat.eq_of_beq_eq_true hk
        have hsa : SubAt root (key + 1) (.loop b) fs' := ⟨_, hs⟩
        obtain ⟨rfl, rfl⟩ := hc.uniq hsa
        obtain ⟨c1, c2⟩ := sub_ok hcode _ hs
        have hsb : SubAt root (2 * (key + 1)) b (.lp b (key + 1) :: fs) := ⟨false :: dec 300 (key + 1), by simp only [sub, hs]⟩
        refine (wpIn_wide (n := 0)).2 (wp_unroll (fun l a w => fsq_goto fs l a w) (fun a w => fsq_out fs a w) ((wpIn_wide (n := 0)).1 ?_))
        refine wpIn_mono (exec_sound (ro := none) (hG v) hT.mix hn hpt b (2 * (key + 1)) _ hsb c1 st a w ow _ hx hf h rfl hd (fun e st' a' w' ow' k1 k2 k3 k4 k5 => kap_sound (hG v) hT.mix hn hpt hE (.lp b (key + 1) :: fs) ⟨hsa, c2⟩ e st' a' w' ow' k1 k2 k3 k4 k5)) (fun e a' w' he => ?_)
        cases e <;> first | exact he | exact (wpIn_wide (n := 0)).1 he
      · cases hx
    · rename_i c' k fs' hnl hs
      split at hx
      · rename_i hk
        obtain rfl := Nat.eq_of_beq_eq_true hk
        have hsa : SubAt root (key + 1) c' fs' := ⟨_, hs⟩
        obtain ⟨rfl, rfl⟩ := hc.uniq hsa
        obtain ⟨c1, c2⟩ := sub_ok hcode _ hs
        exact exec_sound (ro := none) (hG v) hT.mix hn hpt c (key + 1) fs hsa c1 st a w ow _ hx hf h rfl hd (fun e st' a' w' ow' k1 k2 k3 k4 k5 => kap_sound (hG v) hT.mix hn hpt hE _ c2 e st' a' w' ow' k1 k2 k3 k4 k5)
      · cases hx
    · cases hx
theorem call_of {P : Program} {tab : List Fn} (hT : TabOk P tab) {D : DD tab} (hP : PtOk P tab D) {v : Nat} (hv : v < tab.length) {h : LL ((fnAt tab v).sh 0)} {r : HR (fnAt tab v).rs} (hx : D v 0 h = some r)
    (hfin : Fin (mkSt ((fnAt tab v).sh 0) h)) : CallOk P (fnAt tab v) h r := by
  intro M w ow args tf hpin htf hrel
  obtain ⟨h1, h2, root, h3, h4⟩ := hT.at hv
  refine calls_of_wp h1 h3 ?_
  let a : Act := { tmps := args ++ Array.replicate ((fnAt tab v).f.ntmps - args.size) undef, defers := [] }
  have htfA : tfA a = tf := by
    funext s
    rw [htf s]
    simp only [tfA, a, Array.getD_eq_getD_getElem?]
    by_cases hs : s < args.size
    · rw [Array.getElem?_append_left hs]
    · rw [Array.getElem?_append_right (Nat.le_of_not_lt hs), Array.getElem?_eq_none (Nat.le_of_not_lt hs)]
      cases e : (Array.replicate ((fnAt tab v).f.ntmps - args.size) undef)[s - args.size]? with
      | none => rfl
      | some u =>
        obtain ⟨hlt, hu⟩ := Array.getElem?_eq_some_iff.1 e
        simp at hu
        rw [← hu]; rfl
  refine (wpIn_wide (n := 0)).1 (wpIn_mono (hP v hv 0 h r hx M w w ow a ((fnAt tab v).ino.map tf) hpin (by rw [htfA]; exact hrel) hfin (by simp only [a, Array.size_append, Array.size_replicate]; omega) (by simp only [Act.dk, htfA, hpin]; rfl) root h3 root [] ⟨rfl, rfl⟩) (fun e a' w' he => ?_))
  cases e with
  | normal =>
    obtain ⟨hd, vs, ow', k1, k2, k3, k4, k5⟩ := he
    exact ⟨hd, _, k1, vs, ow', rfl, k2, k3, k4, k5⟩
  | ret =>
    obtain ⟨hd, vs, ow', k1, k2, k3, k4, k5⟩ := he
    exact ⟨hd, _, k1, vs, ow', rfl, k2, k3, k4, k5⟩
  | panic c => exact (fsq_panic _ _ _ _ he).elim
  | outgrown => exact (fsq_out _ _ _ he).elim
  | goto l => exact (fsq_goto _ _ _ _ he).elim
  | exit id => exact he.elim
theorem mkSt_idx : ∀ (ps : List LS) (n : Nat) (h : LL (idx n ps)) (s : Nat), n + ps.length ≤ s → mkSt (idx n ps) h s = .dead
  | [], n, h, s, hs => rfl
  | x :: ps, n, h, s, hs => by
    simp only [List.length_cons] at hs
    have hne : s ≠ n := by omega
    cases x with
    | v t => simp only [idx, mkSt, beq_ne hne]; exact mkSt_idx ps (n + 1) h.2 s (by omega)
    | fn f ts => simp only [idx, mkSt, beq_ne hne]; exact mkSt_idx ps (n + 1) h.2 s (by omega)
    | al a b c => simp only [idx, mkSt, beq_ne hne]; exact mkSt_idx ps (n + 1) h s (by omega)
    | ref a b c => simp only [idx, mkSt, beq_ne hne]; exact mkSt_idx ps (n + 1) h s (by omega)
    | no => simp only [idx, mkSt]; exact mkSt_idx ps (n + 1) h s (by omega)
theorem den_sound {P : Program} {tab : List Fn} (hT : TabOk P tab) : ∀ k, PtOk P tab (den P tab k) ∧ ∀ v, v < tab.length → ∀ (h : LL ((fnAt tab v).sh 0)) (r : HR (fnAt tab v).rs), den P tab k v 0 h = some r → CallOk P (fnAt tab v) h r
  | 0 => ⟨fun v hv key h r hx => (by cases hx), fun v hv h r hx => (by cases hx)⟩
  | k + 1 => by
    obtain ⟨h1, h2⟩ := den_sound hT k
    have hG : ∀ v : Nat, Good (⟨P, tab, den P tab k⟩ : Cx (HR (fnAt tab v).rs)) := fun v => by
      refine ⟨fun v' F hF => ?_, fun v' h r hv' hx => h2 v' hv' h r hx⟩
      have hlt := (List.getElem?_eq_some_iff.1 hF).1
      obtain ⟨e1, e2⟩ := fnAt_mem hlt
      have : F = fnAt tab v' := by
        have hF : tab[v']? = some F := hF
        rw [e1] at hF; exact (Option.some.inj hF).symm
      subst this
      obtain ⟨k1, k2, root, k3, _⟩ := hT.at hlt
      exact ⟨k1, k2, by rw [k3]; rfl⟩
    have hP : PtOk P tab (den P tab (k + 1)) := fun v hv key h r hx M W w ow a pv hpin hrel hfin hn hd root hroot c fs hc => from_sound hT hG h1 v hv key _ r hx M W w ow a pv hpin hrel hfin hn hd root hroot c fs (by cases key <;> exact hc)
    refine ⟨hP, fun v hv h r hx => call_of hT hP hv hx ?_⟩
    have h3 := List.all_eq_true.1 hT.chk _ (fnAt_mem hv).2
    simp only [fnB, Bool.and_eq_true] at h3
    exact fun s hs => mkSt_idx _ 0 h s (by rw [Nat.zero_add]; exact Nat.le_trans (Nat.le_of_ble_eq_true h3.1.1) hs)
end Go.Proofs.Ytlmcalffemklnaa.Rf
namespace Go.Proofs.Ytlmcalffemklnaa.Rf
open Go.RowKit Go.ChangeShapes Go.WideShapes Go.Deep
def okL {α : Type} (p : α → Prop) (l : List α) : Prop := l.length ≤ maxLen ∧ ∀ a ∈ l, p a
/-- What may be asked of an argument. -/
def okD : (t : Ty) → t.den → Prop
  | .int k, x => (Lit.int k x).wf = true
  | .str, s => ByteArray.size s ≤ maxLen
  | .sl _ t, l => okL (okD t) l
  | .pair a b, x => okD a x.1 ∧ okD b x.2
  | _, _ => True
/-- A Go type's values are of this type. -/
def argF (P : Program) (one : TypeId → Ty → Bool) : List Field → Nat → Ty → Bool
  | [], _, .unit => true
  | f :: fs, o, .pair a b => Nat.beq f.offset o && Nat.beq (P.cellsOf f.type) a.sz && one f.type a && argF P one fs (o + a.sz) b
  | _, _, _ => false
def argT (P : Program) : Nat → TypeId → Ty → Bool
  | 0, _, _ => false
  | n + 1, t, ty => match ty with
    | .int k => match P.underlying t with | some (.int k') => decide (k' = k) | _ => false
    | .bool => match P.underlying t with | some .bool => true | _ => false
    | .str => match P.underlying t with | some .string => true | _ => false
    | .sl _ u => match P.underlying t with | some (.slice e) => Nat.beq (P.cellsOf e) u.sz && Nat.blt 0 u.sz && argT P n e u | _ => false
    | .pair a b => match P.underlying t with | some (.struct fs) => argF P (argT P n) fs.toList 0 (.pair a b) && Nat.beq (P.cellsOf t) (a.sz + b.sz) | _ => false
    | _ => false
def allF : Fl := { t := fun _ => True, s := fun _ => True, ts := fun _ _ => trivial }
theorem allF_at (q : Bool) (b : Nat) : allF.at q b := by cases q <;> trivial
variable {P : Program} {w : World} {H : Type} {enc : TypeId × Value → H} {base : Nat} {spare : Nat → Bool} {held : Bool}
theorem arg_fields {one : TypeId → Ty → Bool} {cs : List Value} (hone : ∀ (t : TypeId) (ty : Ty) (m : Nat) (cs : List Value) (x : DataW H × List MemPlace), one t ty = true → DataW.trod enc P w base spare held m t cs = some x → ∃ y : ty.den, okD ty y ∧ cs.length = ty.sz ∧ ∀ s p, Rd w own0 allF ty s p (fun o => cs[o]?) 0 y) :
    ∀ (fs : List Field) (o : Nat) (ty : Ty), argF P one fs o ty = true → (∀ f ∈ fs, ∃ (m : Nat) (x : DataW H × List MemPlace), DataW.trod enc P w base spare held m f.type ((cs.drop f.offset).take (P.cellsOf f.type)) = some x) →
    ∃ y : ty.den, okD ty y ∧ ∀ s p, Rd w own0 allF ty s p (fun i => cs[i]?) o y
  | [], o, ty, h, hf => by
    cases ty <;> first | exact ⟨(), trivial, fun s p => trivial⟩ | cases h
  | f :: fs, o, ty, h, hf => by
    cases ty <;> try cases h
    rename_i a b
    simp only [argF, Bool.and_eq_true] at h
    obtain ⟨⟨⟨h1, h2⟩, h3⟩, h4⟩ := h
    have h1 := Nat.eq_of_beq_eq_true h1
    have h2 := Nat.eq_of_beq_eq_true h2
    obtain ⟨m, x, hx⟩ := hf f List.mem_cons_self
    obtain ⟨y, k1, k2, k3⟩ := hone _ _ m _ _ h3 hx
    obtain ⟨z, g1, g2⟩ := arg_fields hone fs (o + a.sz) b h4 (fun g hg => hf g (List.mem_cons_of_mem _ hg))
    refine ⟨(y, z), ⟨k1, g1⟩, fun s p => ?_⟩
    simp only [Rd]
    refine ⟨Rd.frame (Nat.le_refl _) a (fun i hi => ?_) (fun b _ hb => ⟨hb, rfl⟩) (fun b q _ hq => ⟨hq, rfl⟩) (k3 s (p ++ [.l])), g2 s (p ++ [.r])⟩
    rw [h1, h2, Nat.zero_add, List.getElem?_take_of_lt hi, List.getElem?_drop]
theorem arg_rd : ∀ (n : Nat) (t : TypeId) (ty : Ty) (m : Nat) (cs : List Value) (x : DataW H × List MemPlace), argT P n t ty = true → DataW.trod enc P w base spare held m t cs = some x →
    ∃ y : ty.den, okD ty y ∧ cs.length = ty.sz ∧ ∀ s p, Rd w own0 allF ty s p (fun o => cs[o]?) 0 y
  | 0, t, ty, m, cs, x, h, hx => by cases h
  | n + 1, t, ty, m, cs, x, h, hx => by
    cases ty <;> try (simp only [argT] at h; cases h; done)
    · rename_i k
      simp only [argT] at h
      split at h
      · rename_i k' hu
        have := of_decide_eq_true h
        subst this
        obtain ⟨z, rfl, _, hw⟩ := DataW.trod_int hu hx
        exact ⟨z, hw, rfl, fun s p => rfl⟩
      · cases h
    · simp only [argT] at h
      split at h
      · rename_i hu
        obtain ⟨z, rfl, _⟩ := DataW.trod_bool hu hx
        exact ⟨z, trivial, rfl, fun s p => rfl⟩
      · cases h
    · simp only [argT] at h
      split at h
      · rename_i hu
        obtain ⟨z, rfl, _, hs⟩ := DataW.trod_string hu hx
        exact ⟨z, hs, rfl, fun s p => rfl⟩
      · cases h
    · rename_i f u
      simp only [argT] at h
      split at h
      · rename_i e hu
        simp only [Bool.and_eq_true] at h
        obtain ⟨⟨h1, h2⟩, h3⟩ := h
        have h1 := Nat.eq_of_beq_eq_true h1
        have h2 := Nat.blt_eq.mp h2
        rcases open_slice hu hx with ⟨rfl, _⟩ | ⟨a, len, cap, m', n', D, Pl, rfl, hb, hl, hm, hmm, _, hi⟩
        · refine ⟨([] : List u.den), ⟨by simp, fun a ha => by simp at ha⟩, rfl, fun s p => ?_⟩
          simp only [Rd]
          exact ⟨none, 0, 0, rfl, rfl, Nat.le_refl _, fun h => absurd rfl h⟩
        · have hle : len ≤ m' := by rw [hmm]; split <;> omega
          have hsp : 0 < len → a.spot = none ∧ a.block < w.heap.size := fun h0 => by
            obtain ⟨cs', hcells, htr⟩ := hi 0 (by omega)
            rw [h1, Nat.zero_mul] at hcells
            obtain ⟨_, hcl, hat⟩ := World.cells?_some hcells
            have hc0 := hat 0 h2
            rw [List.getElem?_eq_getElem (show 0 < cs'.length by omega)] at hc0
            have e0 : (a.add 0).add 0 = a := by simp [Addr.add]
            rw [e0] at hc0
            unfold World.cell? at hc0
            split at hc0
            · rename_i c _ _ hh
              refine ⟨?_, (Array.getElem?_eq_some_iff.1 hh).1⟩
              cases hs : a.spot with
              | none => rfl
              | some z => rw [hs] at hc0; simp at hc0
            · cases hc0
          have key : ∀ i, ∃ y : u.den, i < len → okD u y ∧ ∃ b, a = ⟨b, a.off, none⟩ ∧ b < w.heap.size ∧ ∀ s p, Rd w own0 allF u s p (mem w b) (a.off + i * u.sz) y := fun i => by
            by_cases hil : i < len
            · obtain ⟨cs', hcells, htr⟩ := hi i (by omega)
              obtain ⟨y, k1, k2, k3⟩ := arg_rd n e u n' cs' _ h3 htr
              rw [h1] at hcells
              obtain ⟨_, hcl, hat⟩ := World.cells?_some hcells
              have hspot := hsp (by omega)
              have ha : a = ⟨a.block, a.off, none⟩ := by cases a; simp only at hspot; simp [hspot.1]
              refine ⟨y, fun _ => ⟨k1, a.block, ha, hspot.2, fun s p => ?_⟩⟩
              refine Rd.frame (Nat.le_refl _) u (fun j hj => ?_) (fun b _ hb => ⟨hb, rfl⟩) (fun b q _ hq => ⟨hq, rfl⟩) (k3 s p)
              have := hat j hj
              rw [ha, add_off, add_off] at this
              show w.cell? ⟨a.block, a.off + i * u.sz + j, none⟩ = _
              rw [this, Nat.zero_add]
            · exact ⟨u.dflt, fun h => absurd h hil⟩
          let g : Nat → u.den := fun i => (key i).choose
          have hg : ∀ i, i < len → okD u (g i) ∧ ∃ b, a = ⟨b, a.off, none⟩ ∧ b < w.heap.size ∧ ∀ s p, Rd w own0 allF u s p (mem w b) (a.off + i * u.sz) (g i) := fun i => (key i).choose_spec
          clear_value g
          refine ⟨(List.range len).map g, ⟨?_, fun z hz => ?_⟩, rfl, fun s p => ?_⟩
          · rw [List.length_map, List.length_range]; omega
          · obtain ⟨i, hi', rfl⟩ := List.mem_map.1 hz
            exact (hg i (List.mem_range.1 hi')).1
          · simp only [Rd]
            refine ⟨some a, len, cap, rfl, by rw [List.length_map, List.length_range], hl, fun h0 => ?_⟩
            obtain ⟨_, b, hab, hlt, _⟩ := hg 0 (by omega)
            refine ⟨b, a.off, congrArg some hab, by first | rfl | trivial, allF_at _ _, hlt, fun i hil => ?_⟩
            obtain ⟨_, b', hab', _, hR⟩ := hg i hil
            have : b' = b := by rw [hab] at hab'; simp only [Addr.mk.injEq] at hab'; exact hab'.1.symm
            subst this
            have : rd (t := u) ((List.range len).map g) i = g i := by
              unfold rd
              rw [List.getD_eq_getElem?_getD, List.getElem?_map, List.getElem?_range hil]; rfl
            rw [this]
            exact hR s p
      · cases h
    · rename_i a b
      simp only [argT] at h
      split at h
      · rename_i fs hu
        simp only [Bool.and_eq_true] at h
        have h2 := Nat.eq_of_beq_eq_true h.2
        obtain ⟨xs, n', _, _, hlen, hxl, hf⟩ := DataW.trod_struct hu hx
        obtain ⟨y, k1, k2⟩ := arg_fields (cs := cs) (fun t ty m cs x h1 h2 => arg_rd n t ty m cs x h1 h2) fs.toList 0 (.pair a b) h.1 (fun fd hfd => by
          obtain ⟨j, hj, rfl⟩ := List.getElem_of_mem hfd
          have hj' : j < fs.size := by simpa using hj
          have h1 := hf j fs[j] (Array.getElem?_eq_getElem hj')
          rw [List.getElem?_eq_getElem (show j < xs.length by omega)] at h1
          exact ⟨n', _, by simpa using h1⟩)
        exact ⟨y, k1, by rw [hlen, h2]; rfl, k2⟩
      · cases h
/-- An argument that came in. -/
theorem arg_val {n : Nat} {t : TypeId} {ty : Ty} (h : argT P n t ty = true) {r : Reach} {b0 : Nat} {v : Value} {x : DataW H} {p : List MemPlace} (hv : Value.okWide P w r b0 t v) (hx : DataW.Trod enc P w base spare held t v x p) :
    ∃ y : ty.den, okD ty y ∧ ∀ s q, VR w own0 allF ⟨ty, y⟩ s q v := by
  obtain ⟨fuel, hf⟩ := hx
  obtain ⟨y, k1, k2, k3⟩ := arg_rd n t ty fuel _ _ h hf
  refine ⟨y, k1, fun s q => ⟨?_, by simpa using k2, by simpa using k3 s q⟩⟩
  cases n with
  | zero => cases h
  | succ n =>
    cases ty <;> try (simp only [argT] at h; cases h; done)
    · simp only [argT] at h
      split at h
      · rename_i hu
        simp only [Value.okWide, hu, Cell.okWide] at hv
        cases v <;> simp_all [Cell.ok, Ty.agg]
      · cases h
    · simp only [argT] at h
      split at h
      · rename_i hu
        simp only [Value.okWide, hu, Cell.okWide] at hv
        cases v <;> simp_all [Cell.ok, Ty.agg]
      · cases h
    · simp only [argT] at h
      split at h
      · rename_i hu
        simp only [Value.okWide, hu, Cell.okWide] at hv
        cases v <;> simp_all [Cell.ok, Ty.agg]
      · cases h
    · simp only [argT] at h
      split at h
      · rename_i hu
        obtain ⟨a, len, cap, rfl⟩ := okWide_slice hu hv
        simp [Ty.agg]
      · cases h
    · simp only [argT] at h
      split at h
      · rename_i hu
        obtain ⟨cs, rfl, _⟩ := okWide_struct hu hv
        simp [Ty.agg]
      · cases h
/-- All arguments. -/
def ArgsV (w : World) : (ps : List LS) → (n : Nat) → LL (idx n ps) → List Value → Prop
  | [], _, _, [] => True
  | .v t :: r, n, h, v :: vs => (∀ s q, VR w own0 allF ⟨t, h.1⟩ s q v) ∧ ArgsV w r (n + 1) h.2 vs
  | _, _, _, _ => False
theorem argsV_ER : ∀ (ps : List LS) (n : Nat) (h : LL (idx n ps)) (vs : List Value), ArgsV w ps n h vs → ∀ (tf : Nat → Value), (∀ (i : Nat) (v : Value), vs[i]? = some v → tf (n + i) = v) → ∀ (stX : St) (s : Nat), ER w own0 allF tf stX s (mkSt (idx n ps) h s)
  | [], n, h, [], ha, tf, ht, stX, s => trivial
  | [], n, h, _ :: _, ha, tf, ht, stX, s => ha.elim
  | .v t :: r, n, h, [], ha, tf, ht, stX, s => ha.elim
  | .v t :: r, n, h, v :: vs, ha, tf, ht, stX, s => by
    simp only [idx, mkSt]
    by_cases e : s = n
    · subst e
      rw [beq_self]
      have e0 : tf s = v := ht 0 v rfl
      show VR w own0 allF ⟨t, h.1⟩ s [] (tf s)
      rw [e0]
      exact ha.1 _ _
    · rw [beq_ne e]
      exact argsV_ER r (n + 1) h.2 vs ha.2 tf (fun i v hv => by rw [← ht (i + 1) v (by simpa using hv)]; congr 1; omega) stX s
  | .fn _ _ :: r, n, h, vs, ha, tf, ht, stX, s => by cases vs <;> exact ha.elim
  | .al _ _ _ :: r, n, h, vs, ha, tf, ht, stX, s => by cases vs <;> exact ha.elim
  | .ref _ _ _ :: r, n, h, vs, ha, tf, ht, stX, s => by cases vs <;> exact ha.elim
  | .no :: r, n, h, vs, ha, tf, ht, stX, s => by cases vs <;> exact ha.elim
theorem ino_args : ∀ (ps : List LS) (n : Nat) (h : LL (idx n ps)) (vs : List Value), ArgsV w ps n h vs → inoP ps = [] := by
  intro ps n h vs ha
  cases ps with
  | nil => rfl
  | cons x ps =>
    cases vs with
    | nil => cases x <;> exact ha.elim
    | cons v vs =>
      cases x with
      | v t =>
        cases t with
        | optr f t => obtain ⟨b, _, k, _⟩ := (ha.1 0 []).2.2; cases k
        | _ => rfl
      | _ => exact ha.elim
theorem dvs_bool : ∀ (ts : List Ty) (x : HR ts), ts = [.bool] → ∃ b : Bool, HR.dvs ts x = [⟨.bool, b⟩] := by
  intro ts x h; subst h; exact ⟨x, rfl⟩
/-- A law's call. -/
theorem law_calls {tab : List Fn} (hT : TabOk P tab) {k v : Nat} (hv : v < tab.length) (hrs : (fnAt tab v).rs = [.bool]) (hmk : (fnAt tab v).mkf = none) {h : LL ((fnAt tab v).sh 0)} {r : HR (fnAt tab v).rs} (hx : den P tab k v 0 h = some r) {args : List Value} (ha : ArgsV w (fnAt tab v).ps 0 h args) :
    Calls P (fnAt tab v).fid args.toArray w fun e w' => ∃ b : Bool, HR.dvs (fnAt tab v).rs r = [⟨.bool, b⟩] ∧ e = .returned (.bool b) ∧ Below w.heap.size w w' := by
  let M : Sc := { m := fun b => w.heap.size ≤ b, f := allF, mf := fun q b _ => allF_at q b, pin := (fnAt tab v).ino }
  have hrel : Rel M w w own0 (fun s => args.toArray.getD s undef) (mkSt ((fnAt tab v).sh 0) h) := by
    refine ⟨⟨rfl, rfl, rfl, Nat.le_refl _, fun _ _ => rfl⟩, fun s => ?_, fun b l hl => (by cases hl), fun b hb => hb⟩
    refine argsV_ER (fnAt tab v).ps 0 h args ha _ (fun i v hv => ?_) _ s
    simp only [Nat.zero_add, Array.getD_eq_getD_getElem?, List.getElem?_toArray, hv, Option.getD_some]
  refine ((den_sound hT k).2 v hv h r hx M w own0 args.toArray _ rfl (fun s => rfl) hrel).mono fun e w' he => ?_
  obtain ⟨vs, ow', rfl, k1, k2, k3, k4⟩ := he
  have hno : (fnAt tab v).ino = [] := ino_args (fnAt tab v).ps 0 h args ha
  rw [hno] at k3 k4
  simp only [List.map_nil, List.append_nil] at k3 k4
  have hb := dvs_bool _ r hrs
  obtain ⟨b, hb⟩ := hb
  refine ⟨b, hb, ?_, ⟨k1.1, k1.2.1, k1.2.2.1, k1.2.2.2.1, fun j hj => k1.2.2.2.2 j (Nat.not_le_of_lt hj)⟩⟩
  rw [hb] at k3 k4
  obtain ⟨u, rfl⟩ := List.length_eq_one_iff.1 k3
  have := (k4 0 _ u rfl rfl).bool
  simp only [retV, hmk, resVal]
  rw [this]
end Go.Proofs.Ytlmcalffemklnaa.Rf
