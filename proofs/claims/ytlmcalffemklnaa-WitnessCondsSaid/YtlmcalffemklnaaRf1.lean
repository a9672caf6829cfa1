/- A walk by reckoning: what a Go function comes to, reckoned out of its operations, and why that is so. -/
import Derived.Test.YtlmcalffemklnaaRf0
import Derived.Laws.Entries
import Derived.Laws.Cells
import Derived.Laws.IdiomCopy
import Derived.Laws.Slices
import Derived.Laws.StructEq
set_option linter.unusedVariables false
set_option linter.unusedSimpArgs false
namespace Go.Proofs.Ytlmcalffemklnaa.Rf
/-- What a walk may change, and what it may hand out. -/
structure Sc where
  m : Nat → Prop
  f : Fl
  mf : ∀ q b, m b → f.at q b
  pin : List Nat := []
def Kp (M : Sc) (W w : World) : Prop :=
  w.os = W.os ∧ w.tape = W.tape ∧ w.output = W.output ∧ W.heap.size ≤ w.heap.size ∧ ∀ b, ¬ M.m b → w.heap[b]? = W.heap[b]?
/-- What a slot holds, as the walk knows it. -/
def ER (w : World) (ow : Own) (bs : Fl) (tf : Nat → Value) (st : St) (s : Nat) : Ent → Prop
  | .val d => VR w ow bs d s [] (tf s)
  | .tup l => ∃ vs : List Value, tf s = .tuple vs.toArray ∧ vs.length = l.length ∧ ∀ (j : Nat) (d : Dv) (v : Value), l[j]? = some d → vs[j]? = some v → d.1 ≠ .hole → VR w ow bs d s [.i j] v
  | .ref s' p _ => ∃ d, st s' = .val d ∧ ∃ t b o, walk w (tf s') p d.1 none 0 = some (t, some b, o) ∧ tf s = .pointer (some ⟨b, o, none⟩)
  | .al s' p _ => ∃ d, st s' = .val d ∧ ∃ f t b o, walk w (tf s') p d.1 none 0 = some (.osl f t, b, o) ∧ cellAt w (tf s') b o = some (tf s)
  | .fn f caps => ∃ vs : List Value, tf s = .func (.func f) #[] vs.toArray ∧ vs.length = caps.length ∧ ∀ (j : Nat) (d : Dv) (v : Value), caps[j]? = some d → vs[j]? = some v → d.1.hasOwn = false ∧ VR w ow bs d s [] v
  | .dead => True
structure Rel (M : Sc) (W w : World) (ow : Own) (tf : Nat → Value) (st : St) : Prop where
  fr : Kp M W w
  ent : ∀ s, ER w ow M.f tf st s (st s)
  own : ∀ b l, ow b = some l → M.m b ∧ b < w.heap.size
  top : ∀ b, W.heap.size ≤ b → M.m b
def upd (tf : Nat → Value) (n : Nat) (v : Value) : Nat → Value := fun x => if x = n then v else tf x
@[simp] theorem upd_same (tf : Nat → Value) (n : Nat) (v : Value) : upd tf n v n = v := by simp [upd]
theorem upd_ne (tf : Nat → Value) {n x : Nat} (v : Value) (h : x ≠ n) : upd tf n v x = tf x := by simp [upd, h]
theorem beq_ne {a b : Nat} (h : a ≠ b) : Nat.beq a b = false := by
  cases hb : Nat.beq a b with
  | false => rfl
  | true => exact absurd (Nat.eq_of_beq_eq_true hb) h
theorem beq_self (a : Nat) : Nat.beq a a = true := Nat.beq_refl a
@[simp] theorem setS_same (st : St) (d : Nat) (e : Ent) : setS st (some d) e d = e.drop d := by
  unfold setS; simp only; generalize (st d).owns = b; cases b <;> simp [beq_self]
theorem setS_ne (st : St) {d x : Nat} (e : Ent) (h : x ≠ d) : setS st (some d) e x = if (st d).owns then (st x).drop d else st x := by
  unfold setS; simp only; generalize (st d).owns = b; cases b <;> simp [beq_ne h]
theorem takeS_same (st : St) (d : Nat) : takeS st d d = .dead := by simp [takeS, beq_self]
theorem takeS_ne (st : St) {d x : Nat} (h : x ≠ d) : takeS st d x = (st x).drop d := by simp [takeS, beq_ne h]
@[simp] theorem drop_val (d : Nat) (x : Dv) : (Ent.val x).drop d = .val x := rfl
@[simp] theorem drop_tup (d : Nat) (l : List Dv) : (Ent.tup l).drop d = .tup l := rfl
@[simp] theorem drop_fn (d : Nat) (f : FuncId) (l : List Dv) : (Ent.fn f l).drop d = .fn f l := rfl
@[simp] theorem drop_dead (d : Nat) : Ent.dead.drop d = .dead := rfl
theorem drop_cases (d : Nat) (e : Ent) : e.drop d = e ∨ e.drop d = .dead := by
  cases e with
  | ref s p t => simp only [Ent.drop]; cases Nat.beq s d <;> simp
  | al s p t => simp only [Ent.drop]; cases Nat.beq s d <;> simp
  | _ => exact .inl rfl
/-- An entry that names another slot. -/
def Ent.names : Ent → Option Nat
  | .ref s _ _ => some s | .al s _ _ => some s | _ => none
theorem drop_names {d : Nat} {e : Ent} (h : e.drop d ≠ .dead) : e.drop d = e ∧ e.names ≠ some d := by
  cases e with
  | ref s p t =>
    by_cases hs : s = d
    · subst hs; simp [Ent.drop, beq_self] at h
    · exact ⟨by simp [Ent.drop, beq_ne hs], by simp [Ent.names, hs]⟩
  | al s p t =>
    by_cases hs : s = d
    · subst hs; simp [Ent.drop, beq_self] at h
    · exact ⟨by simp [Ent.drop, beq_ne hs], by simp [Ent.names, hs]⟩
  | _ => exact ⟨rfl, by simp [Ent.names]⟩
theorem walk_own {w : World} {v : Value} : ∀ (p : List Step) {T : Ty} {b0 : Option Nat} {o0 : Nat} {t : Ty} {b : Option Nat} {o : Nat}, walk w v p T b0 o0 = some (t, b, o) → (b = b0 ∧ (t.hasOwn = true → T.hasOwn = true)) ∨ T.hasOwn = true
  | [], T, b0, o0, t, b, o, h => by
    simp only [walk, Option.some.injEq, Prod.mk.injEq] at h
    obtain ⟨rfl, rfl, rfl⟩ := h
    exact .inl ⟨rfl, id⟩
  | .l :: p, T, b0, o0, t, b, o, h => by
    cases T <;> simp only [walk, reduceCtorEq] at h
    rcases walk_own p h with ⟨e, k⟩ | k
    · exact .inl ⟨e, fun ht => by simp [Ty.hasOwn, k ht]⟩
    · exact .inr (by simp [Ty.hasOwn, k])
  | .r :: p, T, b0, o0, t, b, o, h => by
    cases T <;> simp only [walk, reduceCtorEq] at h
    rcases walk_own p h with ⟨e, k⟩ | k
    · exact .inl ⟨e, fun ht => by simp [Ty.hasOwn, k ht]⟩
    · exact .inr (by simp [Ty.hasOwn, k])
  | .i n :: p, T, b0, o0, t, b, o, h => by
    cases T <;> simp only [walk, reduceCtorEq] at h
    · exact .inr rfl
    · split at h
      · rcases walk_own p h with ⟨e, k⟩ | k
        · exact .inl ⟨e, fun ht => by simp [Ty.hasOwn, k ht]⟩
        · exact .inr (by simp [Ty.hasOwn, k])
      · cases h
  | .d :: p, T, b0, o0, t, b, o, h => by
    cases T <;> simp only [walk, reduceCtorEq] at h
    exact .inr rfl
/-- Headers that stand as they stood lead the same way. -/
theorem walk_same {w w' : World} {ow : Own} {bs : Fl} {v : Value} {s : Nat} : ∀ (p : List Step) {p0 : List Step} {T : Ty} {x : T.den} {b0 : Option Nat} {o0 : Nat} {r : Ty × Option Nat × Nat},
    (∀ b q, b < w.heap.size → ow b = some (s, p0 ++ q) → w'.heap[b]? = w.heap[b]?) → Rd w ow bs T s p0 (cellAt w v b0) o0 x → walk w v p T b0 o0 = some r →
    (∀ i, i < T.sz → cellAt w' v b0 (o0 + i) = cellAt w v b0 (o0 + i)) → walk w' v p T b0 o0 = some r ∧ ∀ i, i < r.1.sz → cellAt w' v r.2.1 (r.2.2 + i) = cellAt w v r.2.1 (r.2.2 + i)
  | [], p0, T, x, b0, o0, r, hl, hR, h, hb => by
    simp only [walk, Option.some.injEq] at h ⊢
    subst h
    exact ⟨rfl, hb⟩
  | .l :: p, p0, T, x, b0, o0, r, hl, hR, h, hb => by
    cases T <;> simp only [walk, reduceCtorEq] at h ⊢
    simp only [Rd] at hR
    exact walk_same p (fun b q hb hq => hl b (.l :: q) hb (by rw [List.append_assoc] at hq; exact hq)) hR.1 h (fun i hi => hb i (by simp only [Ty.sz]; omega))
  | .r :: p, p0, T, x, b0, o0, r, hl, hR, h, hb => by
    cases T <;> simp only [walk, reduceCtorEq] at h ⊢
    simp only [Rd] at hR
    refine walk_same p (fun b q hb hq => hl b (.r :: q) hb (by rw [List.append_assoc] at hq; exact hq)) hR.2 h (fun i hi => ?_)
    rw [Nat.add_assoc]; exact hb _ (by simp only [Ty.sz]; omega)
  | .i n :: p, p0, T, x, b0, o0, r, hl, hR, h, hb => by
    cases T <;> simp only [walk, reduceCtorEq] at h ⊢
    · simp only [Rd] at hR
      obtain ⟨a, len, cap, h1, h2, hle, h3⟩ := hR
      rw [show cellAt w' v b0 o0 = cellAt w v b0 o0 from hb 0 (by simp [Ty.sz])]
      simp only [h1] at h ⊢
      split at h
      · rename_i b1 o1 len' cap' e
        simp only [Option.some.injEq, Value.slice.injEq] at e
        obtain ⟨rfl, rfl, rfl⟩ := e
        split at h
        · rename_i hn
          obtain ⟨b2, o2, e, hb1, _, hw, hi⟩ := h3 (by omega)
          simp only [Option.some.injEq, Addr.mk.injEq] at e
          obtain ⟨rfl, rfl, _⟩ := e
          rw [if_pos hn]
          refine walk_same p (b0 := some b1) (fun b q hb hq => hl b (.i n :: q) hb (by rw [List.append_assoc] at hq; exact hq)) (hi n hn) h (fun j _ => ?_)
          show mem w' b1 _ = mem w b1 _
          rw [mem_of (hl b1 [] hw.lt (by simpa using hb1))]
        · cases h
      · cases h
    · rename_i m u
      split at h
      · rename_i hn
        rw [if_pos hn]
        simp only [Rd] at hR
        refine walk_same p (fun b q hb hq => hl b (.i n :: q) hb (by rw [List.append_assoc] at hq; exact hq)) (hR.2 n hn) h (fun i hi => ?_)
        have := Nat.mul_le_mul_right u.sz (show n + 1 ≤ m by omega)
        rw [Nat.succ_mul] at this
        rw [Nat.add_assoc]; exact hb _ (by simp only [Ty.sz]; omega)
      · cases h
  | .d :: p, p0, T, x, b0, o0, r, hl, hR, h, hb => by
    cases T <;> simp only [walk, reduceCtorEq] at h ⊢
    simp only [Rd] at hR
    obtain ⟨b1, h1, h2, _, hw, h3⟩ := hR
    rw [show cellAt w' v b0 o0 = cellAt w v b0 o0 from hb 0 (by simp [Ty.sz])]
    simp only [h1] at h ⊢
    refine walk_same p (b0 := some b1) (fun b q hb hq => hl b (.d :: q) hb (by rw [List.append_assoc] at hq; exact hq)) h3 h (fun j _ => ?_)
    show mem w' b1 _ = mem w b1 _
    rw [mem_of (hl b1 [] hw.lt (by simpa using h2))]
theorem VR.walk_same {w w' : World} {ow : Own} {bs : Fl} {d : Dv} {s : Nat} {v : Value} (h : VR w ow bs d s [] v) (hl : ∀ b q, b < w.heap.size → ow b = some (s, q) → w'.heap[b]? = w.heap[b]?)
    {p : List Step} {r : Ty × Option Nat × Nat} (hw : walk w v p d.1 none 0 = some r) : walk w' v p d.1 none 0 = some r ∧ ∀ i, i < r.1.sz → cellAt w' v r.2.1 (r.2.2 + i) = cellAt w v r.2.1 (r.2.2 + i) :=
  Rf.walk_same p (b0 := none) hl h.2.2 hw (fun _ _ => rfl)
/-- An entry in another world, and another state: what it says of is as it was. -/
theorem ER.keep {w w' : World} {ow ow' : Own} {bs : Fl} {tf tf' : Nat → Value} {st st' : St} {s : Nat} {e : Ent} (hs : w.heap.size ≤ w'.heap.size)
    (hv : tf' s = tf s)
    (hn : ∀ b, b < w.heap.size → ow b = none → ow' b = none ∧ w'.heap[b]? = w.heap[b]?)
    (hl : ∀ b q, b < w.heap.size → ow b = some (s, q) → ow' b = some (s, q) ∧ w'.heap[b]? = w.heap[b]?)
    (hr : ∀ s' d, e.names = some s' → st s' = .val d → st' s' = .val d ∧ tf' s' = tf s' ∧ VR w ow bs d s' [] (tf s') ∧ ∀ b q, b < w.heap.size → ow b = some (s', q) → w'.heap[b]? = w.heap[b]?)
    (h : ER w ow bs tf st s e) : ER w' ow' bs tf' st' s e := by
  cases e with
  | val d => simp only [ER] at h ⊢; rw [hv]; exact VR.frame hs hn (fun b q hb hq => hl b _ hb hq) h
  | tup l =>
    simp only [ER] at h ⊢
    obtain ⟨vs, h1, h2, h3⟩ := h
    exact ⟨vs, by rw [hv]; exact h1, h2, fun j d v hd hv' hne => VR.frame hs hn (fun b q hb hq => hl b _ hb hq) (h3 j d v hd hv' hne)⟩
  | ref s' p t =>
    simp only [ER] at h ⊢
    obtain ⟨d, h1, t', b, o, h2, h3⟩ := h
    obtain ⟨k1, k2, k3, k4⟩ := hr s' d rfl h1
    exact ⟨d, k1, t', b, o, by rw [k2]; exact (k3.walk_same k4 h2).1, by rw [hv]; exact h3⟩
  | al s' p t =>
    simp only [ER] at h ⊢
    obtain ⟨d, h1, f, t', b, o, h2, h3⟩ := h
    obtain ⟨k1, k2, k3, k4⟩ := hr s' d rfl h1
    obtain ⟨j1, j2⟩ := k3.walk_same k4 h2
    exact ⟨d, k1, f, t', b, o, by rw [k2]; exact j1, by rw [hv, k2, show cellAt w' (tf s') b o = cellAt w (tf s') b o from j2 0 (by simp [Ty.sz])]; exact h3⟩
  | fn f caps =>
    simp only [ER] at h ⊢
    obtain ⟨vs, h1, h2, h3⟩ := h
    exact ⟨vs, by rw [hv]; exact h1, h2, fun j d v hd hv' => ⟨(h3 j d v hd hv').1, VR.flat (h3 j d v hd hv').1 hs hn (h3 j d v hd hv').2⟩⟩
  | dead => trivial
/-- Who is named owns something. -/
theorem ER.names_own {w : World} {ow : Own} {bs : Fl} {tf : Nat → Value} {st : St} {s s' : Nat} {e : Ent} (h : ER w ow bs tf st s e) (hn : e.names = some s') : (st s').owns = true ∧ ∃ d, st s' = .val d := by
  cases e <;> simp only [Ent.names, Option.some.injEq, reduceCtorEq] at hn <;> subst hn
  · simp only [ER] at h
    obtain ⟨d, h1, t', b, o, h2, h3⟩ := h
    refine ⟨?_, d, h1⟩
    rw [h1]
    rcases walk_own _ h2 with ⟨e, _⟩ | k
    · cases e
    · exact k
  · simp only [ER] at h
    obtain ⟨d, h1, f, t', b, o, h2, h3⟩ := h
    refine ⟨?_, d, h1⟩
    rw [h1]
    rcases walk_own _ h2 with ⟨_, k⟩ | k
    · exact k rfl
    · exact k
variable {M : Sc} {W w w' : World} {ow ow' : Own} {tf tf' : Nat → Value} {st st' : St}
theorem Rel.vr (h : Rel M W w ow tf st) {s : Nat} {d : Dv} (hs : st s = .val d) : VR w ow M.f d s [] (tf s) := by
  have := h.ent s; rw [hs] at this; exact this
/-- Another world in which all that was there stands as it stood. -/
theorem Rel.world (h : Rel M W w ow tf st) (hF : Kp M W w') (hs : w.heap.size ≤ w'.heap.size) (hw : ∀ b, b < w.heap.size → w'.heap[b]? = w.heap[b]?) : Rel M W w' ow tf st where
  fr := hF
  ent s := ER.keep hs rfl (fun b hb hn => ⟨hn, hw b hb⟩) (fun b q hb hq => ⟨hq, hw b hb⟩) (fun s' d _ hd => ⟨hd, rfl, h.vr hd, fun b q hb _ => hw b hb⟩) (h.ent s)
  own b l hl := ⟨(h.own b l hl).1, by have := (h.own b l hl).2; omega⟩
  top := h.top
/-- Some slots are forgotten, others that name them too. -/
theorem Rel.weaken (h : Rel M W w ow tf st) (hst : ∀ s, st' s = st s ∨ st' s = .dead) (hn : ∀ s s', st' s ≠ .dead → (st' s).names = some s' → st' s' = st s') : Rel M W w ow tf st' where
  fr := h.fr
  ent s := by
    rcases hst s with e | e
    · by_cases hd : st' s = .dead
      · rw [hd]; trivial
      · rw [e]
        refine ER.keep (Nat.le_refl _) rfl (fun b _ k => ⟨k, rfl⟩) (fun b q _ k => ⟨k, rfl⟩) (fun s' d hs' hd' => ?_) (h.ent s)
        rw [← e] at hs'
        exact ⟨by rw [hn s s' hd hs']; exact hd', rfl, h.vr hd', fun _ _ _ _ => rfl⟩
    · rw [e]; trivial
  own := h.own
  top := h.top
/-- Names of a box that are known again. -/
theorem Rel.back (h : Rel M W w ow tf st) {s : Nat} {f : Bool} {u : Ty} {y : u.den} (hs : st s = .val ⟨.optr f u, y⟩) (hst : ∀ x, st' x = st x ∨ (st x = .dead ∧ st' x = .ref s [.d] u ∧ tf x = tf s)) : Rel M W w ow tf st' where
  fr := h.fr
  ent x := by
    have hv : ∀ z dd, st z = .val dd → st' z = .val dd := fun z dd hz => by
      rcases hst z with k | k
      · rw [k]; exact hz
      · rw [hz] at k; cases k.1
    rcases hst x with e | ⟨e1, e2, e3⟩
    · rw [e]
      exact ER.keep (Nat.le_refl _) rfl (fun b _ k => ⟨k, rfl⟩) (fun b q _ k => ⟨k, rfl⟩) (fun s' dd hs' hdd => ⟨hv s' dd hdd, rfl, h.vr hdd, fun _ _ _ _ => rfl⟩) (h.ent x)
    · rw [e2]
      obtain ⟨k1, k2, k3⟩ := h.vr hs
      simp only [Rd] at k3
      obtain ⟨b, g1, _⟩ := k3
      refine ⟨⟨.optr f u, y⟩, hv s _ hs, u, b, 0, by simp only [walk, cellAt, g1], ?_⟩
      rw [e3]
      have hna : ¬ ∃ cs, tf s = .agg cs := fun k => by have := k1.2 k; cases this
      cases hv' : tf s <;> rw [hv'] at g1 hna <;> first | exact absurd ⟨_, rfl⟩ hna | (simp [Value.cells] at g1; done) | (simp [Value.cells] at g1; rw [g1])
  own := h.own
  top := h.top
/-- A slot that holds nothing, and that nobody names. -/
def Free (st : St) (n : Nat) : Prop := st n = .dead ∧ ∀ x, (st x).names ≠ some n
theorem Rel.free (h : Rel M W w ow tf st) {n : Nat} (hn : st n = .dead) : Free st n :=
  ⟨hn, fun x hx => by obtain ⟨_, d, hd⟩ := (h.ent x).names_own hx; rw [hn] at hd; cases hd⟩
theorem drop_free {e : Ent} {n : Nat} (h : e.names ≠ some n) : e.drop n = e := by
  cases e with
  | ref s p t => simp only [Ent.names, ne_eq, Option.some.injEq] at h; simp [Ent.drop, beq_ne h]
  | al s p t => simp only [Ent.names, ne_eq, Option.some.injEq] at h; simp [Ent.drop, beq_ne h]
  | _ => rfl
/-- A value in hand is put into a slot. -/
theorem Rel.place {n d : Nat} {v : Value} {e : Ent} (h : Rel M W w ow (upd tf n v) (setS st (some n) e)) (hn : Free st n) (hen : e.names ≠ some n) (hd : d ≠ n) :
    ∃ ow', Rel M W w ow' (upd tf d v) (setS st (some d) e) := by
  let ow' : Own := fun b => match ow b with
    | some (s, q) => if s = n then some (d, q) else some (s, q)
    | none => none
  have hnone : ∀ b, ow b = none → ow' b = none := fun b hb => by simp only [ow', hb]
  have hlab : ∀ b s q, s ≠ n → ow b = some (s, q) → ow' b = some (s, q) := fun b s q hs hb => by simp only [ow', hb, if_neg hs]
  have hmov : ∀ b q, ow b = some (n, q) → ow' b = some (d, q) := fun b q hb => by simp only [ow', hb, if_true]
  have hown : (st n).owns = false := by rw [hn.1]; rfl
  have hset : ∀ x, x ≠ n → setS st (some n) e x = st x := fun x hx => by rw [setS_ne st e hx, hown]; rfl
  have hst : ∀ x, x ≠ n → ER w ow M.f (upd tf n v) (setS st (some n) e) x (st x) := fun x hx => by have := h.ent x; rw [hset x hx] at this; exact this
  -- what a name leads to stands as it stood
  have href : ∀ s' dd, s' ≠ d → s' ≠ n → setS st (some n) e s' = .val dd → setS st (some d) e s' = .val dd ∧ upd tf d v s' = upd tf n v s' ∧ VR w ow M.f dd s' [] (upd tf n v s') ∧
      ∀ b q, b < w.heap.size → ow b = some (s', q) → w.heap[b]? = w.heap[b]? := fun s' dd h1 h2 h3 => by
    refine ⟨?_, by rw [upd_ne _ _ h1, upd_ne _ _ h2], h.vr h3, fun _ _ _ _ => rfl⟩
    rw [hset s' h2] at h3
    rw [setS_ne st e h1, h3]; split <;> rfl
  refine ⟨ow', h.fr, fun x => ?_, fun b l hl => ?_, h.top⟩
  · by_cases hxd : x = d
    · subst hxd
      rw [setS_same]
      have he := h.ent n
      rw [setS_same, drop_free hen] at he
      by_cases hdead : e.drop x = .dead
      · rw [hdead]; trivial
      · obtain ⟨e1, e2⟩ := drop_names hdead
        rw [e1]
        cases e with
        | val dd =>
          simp only [ER, upd_same] at he ⊢
          exact VR.frame (Nat.le_refl _) (fun b _ hb => ⟨hnone b hb, rfl⟩) (fun b q _ hq => ⟨hmov b _ hq, rfl⟩) he
        | tup l =>
          simp only [ER, upd_same] at he ⊢
          obtain ⟨vs, h1, h2, h3⟩ := he
          exact ⟨vs, h1, h2, fun j dd vv hd' hv' hne => VR.frame (Nat.le_refl _) (fun b _ hb => ⟨hnone b hb, rfl⟩) (fun b q _ hq => ⟨hmov b _ hq, rfl⟩) (h3 j dd vv hd' hv' hne)⟩
        | ref s' p t =>
          simp only [Ent.names, ne_eq, Option.some.injEq] at e2 hen
          simp only [ER, upd_same] at he ⊢
          obtain ⟨dd, h1, t', b, o, h2, h3⟩ := he
          obtain ⟨k1, k2, k3, k4⟩ := href s' dd e2 hen h1
          exact ⟨dd, k1, t', b, o, by rw [k2]; exact h2, h3⟩
        | al s' p t =>
          simp only [Ent.names, ne_eq, Option.some.injEq] at e2 hen
          simp only [ER, upd_same] at he ⊢
          obtain ⟨dd, h1, f, t', b, o, h2, h3⟩ := he
          obtain ⟨k1, k2, k3, k4⟩ := href s' dd e2 hen h1
          exact ⟨dd, k1, f, t', b, o, by rw [k2]; exact h2, by rw [k2]; exact h3⟩
        | fn f caps =>
          simp only [ER, upd_same] at he ⊢
          obtain ⟨vs, h1, h2, h3⟩ := he
          exact ⟨vs, h1, h2, fun j dd vv hd' hv' => ⟨(h3 j dd vv hd' hv').1, VR.flat (h3 j dd vv hd' hv').1 (Nat.le_refl _) (fun b _ hb => ⟨hnone b hb, rfl⟩) (h3 j dd vv hd' hv').2⟩⟩
        | dead => trivial
    · by_cases hxn : x = n
      · subst hxn
        rw [setS_ne st e hxd, hn.1]; split <;> trivial
      · by_cases hdead : setS st (some d) e x = .dead
        · rw [hdead]; trivial
        · have hx : setS st (some d) e x = st x ∧ (st x).names ≠ some d := by
            rw [setS_ne st e hxd] at hdead ⊢
            split
            · rename_i ho; rw [if_pos ho] at hdead; exact drop_names hdead
            · rename_i ho
              refine ⟨rfl, fun hs => ho ?_⟩
              obtain ⟨k, _⟩ := (hst x hxn).names_own hs
              rwa [hset d hd] at k
          rw [hx.1]
          refine ER.keep (Nat.le_refl _) (by rw [upd_ne _ _ hxd, upd_ne _ _ hxn]) (fun b _ hb => ⟨hnone b hb, rfl⟩) (fun b q _ hq => ⟨hlab b x q hxn hq, rfl⟩) (fun s' dd hs' hdd => ?_) (hst x hxn)
          exact href s' dd (fun e => hx.2 (e ▸ hs')) (fun e => hn.2 x (e ▸ hs')) hdd
  · obtain ⟨l', hl'⟩ : ∃ l', ow b = some l' := by
      cases hb : ow b with
      | none => rw [hnone b hb] at hl; cases hl
      | some l' => exact ⟨l', rfl⟩
    exact h.own b l' hl'
/-- A value, and what the walk knows of it, in hand. -/
def Hand (M : Sc) (W w : World) (ow : Own) (tf : Nat → Value) (st : St) (n : Nat) (e : Ent) (v : Value) : Prop :=
  Free st n ∧ e.names ≠ some n ∧ Rel M W w ow (upd tf n v) (setS st (some n) e)
/-- .. of what owns nothing. -/
theorem Rel.hand {n : Nat} {v : Value} {e : Ent} (h : Rel M W w ow tf st) (hn : st n = .dead) (hen : e.names ≠ some n)
    (he : ER w ow M.f (upd tf n v) (setS st (some n) e) n e) : Hand M W w ow tf st n e v := by
  have hf := h.free hn
  refine ⟨hf, hen, h.fr, fun x => ?_, h.own, h.top⟩
  by_cases hx : x = n
  · subst hx; rw [setS_same, drop_free hen]; exact he
  · have hown : (st n).owns = false := by rw [hn]; rfl
    rw [setS_ne st e hx, hown]
    refine ER.keep (Nat.le_refl _) (upd_ne _ _ hx) (fun b _ hb => ⟨hb, rfl⟩) (fun b q _ hq => ⟨hq, rfl⟩) (fun s' dd hs' hdd => ?_) (h.ent x)
    have hsn : s' ≠ n := fun e => hf.2 x (e ▸ hs')
    exact ⟨by rw [setS_ne st e hsn, hown]; exact hdd, upd_ne _ _ hsn, h.vr hdd, fun _ _ _ _ => rfl⟩
theorem ER.move {w : World} {ow ow' : Own} {bs : Fl} {tf tf' : Nat → Value} {st st' : St} {s n : Nat} {e : Ent} (he : e.names = none) (hv : tf' n = tf s) (hnone : ∀ b, ow b = none → ow' b = none)
    (hmov : ∀ b q, ow b = some (s, q) → ow' b = some (n, q)) (h : ER w ow bs tf st s e) : ER w ow' bs tf' st' n e := by
  cases e with
  | val dd =>
    simp only [ER] at h ⊢; rw [hv]
    exact VR.frame (Nat.le_refl _) (fun b _ hb => ⟨hnone b hb, rfl⟩) (fun b q _ hq => ⟨hmov b _ hq, rfl⟩) h
  | tup l =>
    simp only [ER] at h ⊢
    obtain ⟨vs, h1, h2, h3⟩ := h
    exact ⟨vs, by rw [hv]; exact h1, h2, fun j dd vv hd' hv' hne => VR.frame (Nat.le_refl _) (fun b _ hb => ⟨hnone b hb, rfl⟩) (fun b q _ hq => ⟨hmov b _ hq, rfl⟩) (h3 j dd vv hd' hv' hne)⟩
  | ref s' p t => cases he
  | al s' p t => cases he
  | fn f caps =>
    simp only [ER] at h ⊢
    obtain ⟨vs, h1, h2, h3⟩ := h
    exact ⟨vs, by rw [hv]; exact h1, h2, fun j dd vv hd' hv' => ⟨(h3 j dd vv hd' hv').1, VR.flat (h3 j dd vv hd' hv').1 (Nat.le_refl _) (fun b _ hb => ⟨hnone b hb, rfl⟩) (h3 j dd vv hd' hv').2⟩⟩
  | dead => trivial
/-- A slot's value moves into the hand. -/
theorem Rel.take {s n : Nat} {e : Ent} (h : Rel M W w ow tf st) (hs : st s = e) (he : e.names = none) (hn : st n = .dead) (hsn : s ≠ n) : ∃ ow', Hand M W w ow' tf (takeS st s) n e (tf s) := by
  let ow' : Own := fun b => match ow b with
    | some (s', q) => if s' = s then some (n, q) else some (s', q)
    | none => none
  have hnone : ∀ b, ow b = none → ow' b = none := fun b hb => by simp only [ow', hb]
  have hlab : ∀ b s' q, s' ≠ s → ow b = some (s', q) → ow' b = some (s', q) := fun b s' q hs hb => by simp only [ow', hb, if_neg hs]
  have hmov : ∀ b q, ow b = some (s, q) → ow' b = some (n, q) := fun b q hb => by simp only [ow', hb, if_true]
  have hf := h.free hn
  have hf' : Free (takeS st s) n := by
    refine ⟨by rw [takeS_ne st (Ne.symm hsn), hn]; rfl, fun x hx => ?_⟩
    by_cases hxs : x = s
    · subst hxs; rw [takeS_same] at hx; cases hx
    · rw [takeS_ne st hxs] at hx
      rcases drop_cases s (st x) with k | k
      · rw [k] at hx; exact hf.2 x hx
      · rw [k] at hx; cases hx
  refine ⟨ow', hf', by rw [he]; simp, h.fr, fun x => ?_, fun b l hl => ?_, h.top⟩
  · have hown : (takeS st s n).owns = false := by rw [hf'.1]; rfl
    by_cases hx : x = n
    · subst hx
      rw [setS_same, drop_free (by rw [he]; simp)]
      have k := h.ent s
      rw [hs] at k
      exact ER.move he (upd_same _ _ _) hnone hmov k
    · rw [setS_ne _ e hx, hown]
      by_cases hxs : x = s
      · subst hxs; simp only [takeS_same]; trivial
      · simp only [takeS_ne st hxs, Bool.false_eq_true, if_false]
        by_cases hdead : (st x).drop s = .dead
        · rw [hdead]; trivial
        · obtain ⟨e1, e2⟩ := drop_names hdead
          rw [e1]
          refine ER.keep (Nat.le_refl _) (upd_ne _ _ hx) (fun b _ hb => ⟨hnone b hb, rfl⟩) (fun b q _ hq => ⟨hlab b x q hxs hq, rfl⟩) (fun s' dd hs' hdd => ?_) (h.ent x)
          have h1 : s' ≠ s := fun e => e2 (e ▸ hs')
          have h2 : s' ≠ n := fun e => hf.2 x (e ▸ hs')
          refine ⟨?_, upd_ne _ _ h2, h.vr hdd, fun _ _ _ _ => rfl⟩
          rw [setS_ne _ e h2, hown]
          simp only [takeS_ne st h1, hdd, Bool.false_eq_true, if_false, drop_val]
  · obtain ⟨l', hl'⟩ : ∃ l', ow b = some l' := by
      cases hb : ow b with
      | none => rw [hnone b hb] at hl; cases hl
      | some l' => exact ⟨l', rfl⟩
    exact h.own b l' hl'
end Go.Proofs.Ytlmcalffemklnaa.Rf
namespace Go.Proofs.Ytlmcalffemklnaa.Rf
theorem walk_flat {w w' : World} {v : Value} : ∀ (p : List Step) {T : Ty} {b : Option Nat} {o : Nat}, T.hasOwn = false → walk w v p T b o = walk w' v p T b o
  | [], T, b, o, h => rfl
  | .l :: p, T, b, o, h => by
    cases T <;> simp only [walk]
    simp only [Ty.hasOwn, Bool.or_eq_false_iff] at h
    exact walk_flat p h.1
  | .r :: p, T, b, o, h => by
    cases T <;> simp only [walk]
    simp only [Ty.hasOwn, Bool.or_eq_false_iff] at h
    exact walk_flat p h.2
  | .i n :: p, T, b, o, h => by
    cases T <;> simp only [walk]
    · cases h
    · split
      · exact walk_flat p h
      · rfl
  | .d :: p, T, b, o, h => by
    cases T <;> simp only [walk]
    cases h
section
variable {w w' : World} {ow ow' : Own} {bs : Fl} {v : Value} {s : Nat} {b o : Nat} {d : Dv}
theorem loc_label {p0 : List Step} {T : Ty} {x : T.den} {b0 : Option Nat} {o0 : Nat} {t : Ty} {st : Step} {p : List Step} (hR : Rd w ow bs T s p0 (cellAt w v b0) o0 x)
    (hw : walk w v (st :: p) T b0 o0 = some (t, some b, o)) (hb0 : ∀ b1, b0 = some b1 → ∃ q0, ow b1 = some (s, q0) ∧ q0.length < p0.length) :
    ∃ lb, ow b = some (s, lb) ∧ (lb.length ≤ p0.length ∨ ∃ q, lb = p0 ++ st :: q) := by
  rcases walk_where (st :: p) hR hw with ⟨e, _⟩ | ⟨q, r, e, hr, h1, _⟩
  · obtain ⟨q0, h1, h2⟩ := hb0 _ e; exact ⟨q0, h1, .inl (by omega)⟩
  · cases q with
    | nil => exact ⟨_, h1, .inl (by simp)⟩
    | cons a q => simp only [List.cons_append, List.cons.injEq] at e; rw [← e.1] at h1; exact ⟨_, h1, .inr ⟨q, rfl⟩⟩
theorem cells_beside (hP : Put w w' b o d.1.sz) {b0 : Option Nat} {j : Nat} (hj : b0 = some b → j < o ∨ o + d.1.sz ≤ j) : cellAt w' v b0 j = cellAt w v b0 j := by
  cases b0 with
  | none => rfl
  | some b1 =>
    by_cases hbb : b1 = b
    · subst hbb; exact hP.outside j (hj rfl)
    · show mem w' b1 j = mem w b1 j
      rw [mem_of (hP.other b1 hbb)]
theorem not_here {p0 : List Step} {b0 : Option Nat} (hb0 : ∀ b1, b0 = some b1 → ∃ q0, ow b1 = some (s, q0) ∧ q0.length < p0.length) {q : List Step} (h1 : ow b = some (s, p0 ++ q)) : b0 ≠ some b := by
  intro e
  obtain ⟨q0, k1, k2⟩ := hb0 _ e
  rw [h1] at k1
  simp only [Option.some.injEq, Prod.mk.injEq, true_and] at k1
  have := congrArg List.length k1
  simp at this; omega
/-- Where a place lies behind a store at another. -/
theorem walk_put (hP : Put w w' b o d.1.sz) : ∀ (p' p : List Step) {p0 : List Step} {T : Ty} {x : T.den} {b0 : Option Nat} {o0 : Nat} {T' : Ty} {x' : T'.den} {t : Ty} {r : Ty × Option Nat × Nat},
    Rd w ow bs T s p0 (cellAt w v b0) o0 x → walk w v p T b0 o0 = some (t, some b, o) → d.1.sz = t.sz → put p T x d = some ⟨T', x'⟩ →
    (∀ b1, b0 = some b1 → ∃ q0, ow b1 = some (s, q0) ∧ q0.length < p0.length) → walk w v p' T b0 o0 = some r → ((∃ c q, p' = p ++ c :: q) → d.1 = t ∧ t.hasOwn = false) →
    ∃ t', walk w' v p' T' b0 o0 = some (t', r.2) ∧ ((¬ ∃ q, p' = p ++ q) → ∀ f u, r.1 = .osl f u → t' = .osl f u ∧ cellAt w' v r.2.1 r.2.2 = cellAt w v r.2.1 r.2.2)
  | [], p, p0, T, x, b0, o0, T', x', t, r, hR, hw, hd, hp, hb0, hr, hext => by
    simp only [walk, Option.some.injEq] at hr
    subst hr
    refine ⟨T', rfl, fun hn f u e => ?_⟩
    dsimp only at e
    subst e
    cases p with
    | nil => exact absurd ⟨[], rfl⟩ hn
    | cons st p =>
      cases st with
      | i n =>
        simp only [put] at hp
        split at hp
        · split at hp
          · obtain ⟨⟩ := Option.some.inj hp
            refine ⟨rfl, cells_beside hP (fun e => ?_)⟩
            have hW := walk_where _ hR hw
            rcases hW with ⟨e1, _⟩ | ⟨q, r, _, _, h1, _⟩
            · -- the way crosses at once
              have := walk_own _ hw
              exfalso
              simp only [Rd] at hR
              obtain ⟨a, len, cap, h1, h2, hle, h3⟩ := hR
              simp only [walk, h1] at hw
              split at hw
              · rename_i b1 o1 len' cap' ee
                simp only [Option.some.injEq, Value.slice.injEq] at ee
                obtain ⟨rfl, rfl, rfl⟩ := ee
                split at hw
                · rename_i hn'
                  obtain ⟨b2, o2, ee, hb1, _, _, hi⟩ := h3 (by omega)
                  simp only [Option.some.injEq, Addr.mk.injEq] at ee
                  obtain ⟨rfl, rfl, _⟩ := ee
                  rcases walk_where p (b0 := some b1) (hi n hn') hw with ⟨e2, _⟩ | ⟨q, r, _, _, k1, _⟩
                  · simp only [Option.some.injEq] at e2; subst e2
                    exact not_here hb0 (q := []) (by simpa using hb1) e
                  · rw [List.append_assoc] at k1; exact not_here hb0 k1 e
                · cases hw
              · cases hw
            · exact absurd e (not_here hb0 h1)
          · cases hp
        · cases hp
      | _ => simp only [walk, reduceCtorEq] at hw
  | c :: p', [], p0, T, x, b0, o0, T', x', t, r, hR, hw, hd, hp, hb0, hr, hext => by
    obtain ⟨h1, h2⟩ := hext ⟨c, p', rfl⟩
    simp only [walk, Option.some.injEq, Prod.mk.injEq] at hw
    obtain ⟨rfl, _, _⟩ := hw
    simp only [put, Option.some.injEq] at hp
    have e : T' = T := by rw [← h1, hp]
    subst e
    exact ⟨r.1, by rw [← walk_flat (w := w) _ h2]; exact hr, fun hn => absurd ⟨_, rfl⟩ hn⟩
  | c :: p', st :: p, p0, T, x, b0, o0, T', x', t, r, hR, hw, hd, hp, hb0, hr, hext => by
    obtain ⟨lb, hb, hlb⟩ := loc_label hR hw hb0
    have hext' : c = st → ((∃ c q, p' = p ++ c :: q) → d.1 = t ∧ t.hasOwn = false) := fun e ⟨c', q, h⟩ => hext ⟨c', q, by rw [e, h]; rfl⟩
    have hn' : c = st → (¬ ∃ q, c :: p' = st :: p ++ q) → ¬ ∃ q, p' = p ++ q := fun e h ⟨q, k⟩ => h ⟨q, by rw [e, k]; rfl⟩
    have hoth : ∀ st', st' ≠ st → ∀ b' q, b' < w.heap.size → ow b' = some (s, (p0 ++ [st']) ++ q) → w'.heap[b']? = w.heap[b']? := by
      intro st' hne b' q _ h
      refine hP.other _ ?_
      rintro rfl
      rw [hb] at h
      simp only [Option.some.injEq, Prod.mk.injEq, true_and] at h
      rcases hlb with hl | ⟨q', e⟩
      · have := congrArg List.length h; simp at this; omega
      · rw [e, List.append_assoc, List.append_cancel_left_eq] at h
        simp only [List.cons_append, List.nil_append, List.cons.injEq] at h
        exact hne h.1.symm
    cases T with
    | pair a e =>
      simp only [Rd] at hR
      cases st with
      | l =>
        simp only [walk] at hw
        simp only [put] at hp
        split at hp
        · rename_i a' y ea
          obtain ⟨⟩ := Option.some.inj hp
          have hsz := put_sz p hw hd ea
          cases c with
          | l =>
            simp only [walk] at hr ⊢
            obtain ⟨t', k1, k2⟩ := walk_put hP p' p hR.1 hw hd ea (fun b1 h => by obtain ⟨q0, h1, h2⟩ := hb0 b1 h; exact ⟨q0, h1, by simp; omega⟩) hr (hext' rfl)
            exact ⟨t', k1, fun hn => k2 (hn' rfl hn)⟩
          | r =>
            simp only [walk] at hr ⊢
            rw [hsz]
            obtain ⟨k1, k2⟩ := walk_same (w' := w') p' (hoth .r (by simp)) hR.2 hr (fun i hi => cells_beside hP (fun e => by
              rcases walk_where p hR.1 hw with ⟨_, h1, h2⟩ | ⟨q, r, e1, hr, h1, _⟩
              · right; omega
              · rw [List.append_assoc] at h1; exact absurd e (not_here hb0 h1)))
            exact ⟨r.1, k1, fun _ f u er => ⟨er, by simpa using k2 0 (by rw [er]; simp [Ty.sz])⟩⟩
          | _ => simp only [walk, reduceCtorEq] at hr
        · cases hp
      | r =>
        simp only [walk] at hw
        simp only [put] at hp
        split at hp
        · rename_i a' y ea
          obtain ⟨⟩ := Option.some.inj hp
          cases c with
          | r =>
            simp only [walk] at hr ⊢
            obtain ⟨t', k1, k2⟩ := walk_put hP p' p hR.2 hw hd ea (fun b1 h => by obtain ⟨q0, h1, h2⟩ := hb0 b1 h; exact ⟨q0, h1, by simp; omega⟩) hr (hext' rfl)
            exact ⟨t', k1, fun hn => k2 (hn' rfl hn)⟩
          | l =>
            simp only [walk] at hr ⊢
            obtain ⟨k1, k2⟩ := walk_same (w' := w') p' (hoth .l (by simp)) hR.1 hr (fun i hi => cells_beside hP (fun e => by
              rcases walk_where p hR.2 hw with ⟨_, h1, h2⟩ | ⟨q, r, e1, hr, h1, _⟩
              · left; omega
              · rw [List.append_assoc] at h1; exact absurd e (not_here hb0 h1)))
            exact ⟨r.1, k1, fun _ f u er => ⟨er, by simpa using k2 0 (by rw [er]; simp [Ty.sz])⟩⟩
          | _ => simp only [walk, reduceCtorEq] at hr
        · cases hp
      | _ => simp only [walk, reduceCtorEq] at hw
    | arr m u =>
      cases st with
      | i n =>
        simp only [walk] at hw
        split at hw
        · rename_i hn
          simp only [put] at hp
          split at hp
          · rename_i t1 y ea
            split at hp
            · rename_i y' ey
              obtain ⟨⟩ := Option.some.inj hp
              have e0 := sz_castE ey
              subst e0
              have e1 := castE_eq ey
              subst e1
              simp only [Rd] at hR
              cases c with
              | i j =>
                simp only [walk] at hr ⊢
                split at hr
                · rename_i hj
                  rw [if_pos hj]
                  by_cases hjn : j = n
                  · subst hjn
                    obtain ⟨t', k1, k2⟩ := walk_put hP p' p (hR.2 j hn) hw hd ea (fun b1 h => by obtain ⟨q0, h1, h2⟩ := hb0 b1 h; exact ⟨q0, h1, by simp; omega⟩) hr (hext' rfl)
                    exact ⟨t', k1, fun hn => k2 (hn' rfl hn)⟩
                  · obtain ⟨k1, k2⟩ := walk_same (w' := w') p' (hoth (.i j) (by simp [hjn])) (hR.2 j hj) hr (fun i hi => cells_beside hP (fun e => by
                      rcases walk_where p (hR.2 n hn) hw with ⟨_, h1, h2⟩ | ⟨q, r, e1, hr, h1, _⟩
                      · have := apart_range (z := t1.sz) hjn; omega
                      · rw [List.append_assoc] at h1; exact absurd e (not_here hb0 h1)))
                    exact ⟨r.1, k1, fun _ f u er => ⟨er, by simpa using k2 0 (by rw [er]; simp [Ty.sz])⟩⟩
                · cases hr
              | _ => simp only [walk, reduceCtorEq] at hr
            · cases hp
          · cases hp
        · cases hw
      | _ => simp only [walk, reduceCtorEq] at hw
    | optr f u =>
      cases st with
      | d =>
        simp only [put] at hp
        split at hp
        · rename_i t1 y ea
          obtain ⟨⟩ := Option.some.inj hp
          simp only [Rd] at hR
          obtain ⟨b1, h1, h2, hf, hwr, h3⟩ := hR
          simp only [walk, h1] at hw
          have hhd : cellAt w' v b0 o0 = cellAt w v b0 o0 := cells_beside hP (fun e => by
            rcases walk_where p (b0 := some b1) h3 hw with ⟨e2, _⟩ | ⟨q, r, _, _, k1, _⟩
            · simp only [Option.some.injEq] at e2; subst e2
              exact absurd e (not_here hb0 (q := []) (by simpa using h2))
            · rw [List.append_assoc] at k1; exact absurd e (not_here hb0 k1))
          cases c with
          | d =>
            simp only [walk, h1] at hr
            simp only [walk, hhd, h1]
            obtain ⟨t', k1, k2⟩ := walk_put hP p' p (b0 := some b1) h3 hw hd ea (fun b2 h => by simp only [Option.some.injEq] at h; subst h; exact ⟨p0, h2, by simp⟩) hr (hext' rfl)
            exact ⟨t', k1, fun hn => k2 (hn' rfl hn)⟩
          | _ => simp only [walk, reduceCtorEq] at hr
        · cases hp
      | _ => simp only [walk, reduceCtorEq] at hw
    | osl f u =>
      cases st with
      | i n =>
        simp only [put] at hp
        split at hp
        · rename_i t1 y ea
          split at hp
          · rename_i y' ey
            obtain ⟨⟩ := Option.some.inj hp
            have e0 := sz_castE ey
            subst e0
            have e1 := castE_eq ey
            subst e1
            simp only [Rd] at hR
            obtain ⟨a, len, cap, h1, h2, hle, h3⟩ := hR
            simp only [walk, h1] at hw
            split at hw
            · rename_i b1 o1 len' cap' ee
              simp only [Option.some.injEq, Value.slice.injEq] at ee
              obtain ⟨rfl, rfl, rfl⟩ := ee
              split at hw
              · rename_i hn
                obtain ⟨b2, o2, ee, hb1, hf, hwr, hi⟩ := h3 (by omega)
                simp only [Option.some.injEq, Addr.mk.injEq] at ee
                obtain ⟨rfl, rfl, _⟩ := ee
                have hww := walk_where p (b0 := some b1) (hi n hn) hw
                have hhd : cellAt w' v b0 o0 = cellAt w v b0 o0 := cells_beside hP (fun e => by
                  rcases hww with ⟨e2, _⟩ | ⟨q, r, _, _, k1, _⟩
                  · simp only [Option.some.injEq] at e2; subst e2
                    exact absurd e (not_here hb0 (q := []) (by simpa using hb1))
                  · rw [List.append_assoc] at k1; exact absurd e (not_here hb0 k1))
                cases c with
                | i j =>
                  simp only [walk, h1] at hr
                  simp only [walk, hhd, h1]
                  split at hr
                  · rename_i hj
                    rw [if_pos hj]
                    have hb2 : ∀ b3, some b1 = some b3 → ∃ q0, ow b3 = some (s, q0) ∧ q0.length < (p0 ++ [Step.i j]).length := fun b3 h => by
                      simp only [Option.some.injEq] at h; subst h; exact ⟨p0, hb1, by simp⟩
                    by_cases hjn : j = n
                    · subst hjn
                      obtain ⟨t', k1, k2⟩ := walk_put hP p' p (b0 := some b1) (hi j hn) hw hd ea hb2 hr (hext' rfl)
                      exact ⟨t', k1, fun hn => k2 (hn' rfl hn)⟩
                    · obtain ⟨k1, k2⟩ := walk_same (w' := w') p' (b0 := some b1) (hoth (.i j) (by simp [hjn])) (hi j hj) hr (fun i hi' => cells_beside hP (fun e => by
                        rcases hww with ⟨_, j1, j2⟩ | ⟨q, r, e1, hr, k1, _⟩
                        · have := apart_range (z := t1.sz) hjn; omega
                        · simp only [Option.some.injEq] at e; subst e
                          rw [hb1] at k1; simp only [Option.some.injEq, Prod.mk.injEq, true_and] at k1
                          have := congrArg List.length k1; simp at this))
                      exact ⟨r.1, k1, fun _ f u er => ⟨er, by simpa using k2 0 (by rw [er]; simp [Ty.sz])⟩⟩
                  · cases hr
                | _ => simp only [walk, reduceCtorEq] at hr
              · cases hw
            · cases hw
          · cases hp
        · cases hp
      | _ => simp only [walk, reduceCtorEq] at hw
    | _ => cases st <;> simp only [walk, reduceCtorEq] at hw
end
end Go.Proofs.Ytlmcalffemklnaa.Rf
namespace Go.Proofs.Ytlmcalffemklnaa.Rf
theorem like_refl (a : Step) : a.like a = true := by cases a <;> rfl
theorem ext_append : ∀ (p q : List Step), ext p (p ++ q) = true
  | [], q => by simp [ext]
  | a :: p, q => by simp [ext, like_refl, ext_append p q]
/-- What still stands behind a store at place 'p' of slot 's'. -/
def Stands (s : Nat) (p : List Step) (flat : Prop) : Ent → Prop
  | .ref s' q _ => s' = s → (∃ c r, q = p ++ c :: r) → flat
  | .al s' q _ => s' = s → (∃ r, q = p ++ r) → flat
  | _ => True
theorem kill_stands (s : Nat) (p : List Step) (e : Ent) (flat : Prop) : (e.kill s p = e ∧ Stands s p flat e) ∨ (e.kill s p = .dead ∧ e.names ≠ none) := by
  cases e with
  | ref s' q t =>
    simp only [Ent.kill]
    generalize hb : (Nat.beq s' s && ext p q && Nat.blt p.length q.length) = b
    cases b
    · refine .inl ⟨rfl, ?_⟩
      rintro rfl ⟨c, r, rfl⟩
      have : Nat.blt p.length (p ++ c :: r).length = true := by simp [Nat.blt_eq]
      rw [beq_self, ext_append, this] at hb; cases hb
    · exact .inr ⟨rfl, by simp [Ent.names]⟩
  | al s' q t =>
    simp only [Ent.kill]
    generalize hb : (Nat.beq s' s && ext p q) = b
    cases b
    · refine .inl ⟨rfl, ?_⟩
      rintro rfl ⟨r, rfl⟩
      simp [beq_self, ext_append] at hb
    · exact .inr ⟨rfl, by simp [Ent.names]⟩
  | _ => exact .inl ⟨rfl, trivial⟩
theorem putP_spec {st st' : St} {s : Nat} {p : List Step} {d : Dv} (h : putP st s p d = some st') :
    ∃ (T : Ty) (x : T.den) (old : Dv) (new : Dv), st s = .val ⟨T, x⟩ ∧ get p T x = some old ∧ ptrTop p T = true ∧ put p T x d = some new ∧ st' s = .val new ∧
      ∀ x, x ≠ s → (st' x = .dead ∧ (st x).names ≠ none) ∨ (st' x = st x ∧ Stands s p (d.1 = old.1 ∧ old.1.hasOwn = false) (st x)) := by
  unfold putP at h
  split at h
  · rename_i T x hs
    split at h
    · rename_i old h1 h2
      split at h
      · rename_i new h3
        refine ⟨T, x, old, new, hs, h1, h2, h3, ?_⟩
        split at h
        · simp only [Option.some.injEq] at h
          subst h
          refine ⟨by simp [beq_self], fun y hy => ?_⟩
          simp only [beq_ne hy]
          rcases kill_stands s p (st y) (d.1 = old.1 ∧ old.1.hasOwn = false) with e | e
          · exact .inr e
          · exact .inl e
        · rename_i hf
          simp only [Option.some.injEq] at h
          subst h
          refine ⟨by simp [beq_self], fun y hy => .inr ⟨by simp only [beq_ne hy], ?_⟩⟩
          simp only [Bool.and_eq_true, Bool.not_eq_true'] at hf
          have hflat : d.1 = old.1 ∧ old.1.hasOwn = false := ⟨Ty.eq_of_beq _ _ hf.2, hf.1⟩
          cases st y <;> simp only [Stands]
          · exact fun _ _ => hflat
          · exact fun _ _ => hflat
      · cases h
    · cases h
  · cases h
variable {M : Sc} {W w w' : World} {ow ow' : Own} {tf tf' : Nat → Value} {st st' : St}
/-- A place of a slot holds something else: stored there, shared from here on, or taken away. -/
theorem Rel.putG {s n : Nat} {p : List Step} {d old new : Dv} {T : Ty} {x : T.den} {t : Ty} {b o : Nat} (h : Rel M W w ow tf st) (hs : st s = .val ⟨T, x⟩) (hsn : s ≠ n) (hnn : ∀ x, (st x).names ≠ some n)
    (hget : get p T x = some old) (hput : put p T x d = some new) (hw : walk w (tf s) p T none 0 = some (t, some b, o)) (hsz : d.1.sz = t.sz) (hP : Put w w' b o d.1.sz)
    (hD : Rd w' ow' M.f d.1 s p (mem w' b) o d.2) (hno : ∀ b', ow b' = none → ow' b' = none)
    (hkeep : ∀ b' s' q, ow b' = some (s', q) → s' ≠ n → ¬ (s' = s ∧ ∃ r, q = p ++ r) → ow' b' = some (s', q)) (hown : ∀ b' l, ow' b' = some l → ∃ l', ow b' = some l')
    (hK : Kp M W w') (hst : st' s = .val new) (hstn : st' n = .dead) (hst' : ∀ x, x ≠ s → x ≠ n → (st' x = .dead ∧ (st x).names ≠ none) ∨ (st' x = st x ∧ Stands s p (d.1 = old.1 ∧ old.1.hasOwn = false) (st x))) :
    Rel M W w' ow' tf st' := by
  have hv := h.vr hs
  have hR : Rd w ow M.f T s [] (cellAt w (tf s) none) 0 x := hv.2.2
  have hsize : w.heap.size ≤ w'.heap.size := by rw [hP.size]; exact Nat.le_refl _
  obtain ⟨lb, hb⟩ : ∃ lb, ow b = some (s, lb) := by
    rcases walk_where p hR hw with ⟨e, _⟩ | ⟨q, r, _, _, h1, _⟩
    · cases e
    · exact ⟨_, h1⟩
  have hoth : ∀ b', (∀ q, ow b' ≠ some (s, q)) → w'.heap[b']? = w.heap[b']? := fun b' hb' => hP.other _ (by rintro rfl; exact hb' _ hb)
  have htt : old.1 = t := by
    obtain ⟨y, h1, _⟩ := walk_read p (b := none) hR hw
    rw [hget] at h1
    simp only [Option.some.injEq] at h1; rw [h1]
  refine ⟨hK, fun y => ?_, fun b' l hl => ?_, h.top⟩
  · by_cases hys : y = s
    · subst hys
      rw [hst]
      refine ⟨?_, ?_, ?_⟩
      · -- the slot's own form stays
        have ha : new.1.agg = T.agg := by
          cases p with
          | nil => simp only [walk, Option.some.injEq, Prod.mk.injEq, reduceCtorEq, false_and, and_false] at hw
          | cons a p =>
            cases T <;> cases a <;> simp only [walk, reduceCtorEq] at hw <;> simp only [put] at hput
            all_goals
              split at hput
              · first
                | (obtain rfl := Option.some.inj hput; rfl)
                | (split at hput
                   · obtain rfl := Option.some.inj hput; rfl
                   · cases hput)
              · cases hput
        rw [ha]; exact hv.1
      · rw [show new.1.sz = T.sz from put_sz p hw hsz hput]; exact hv.2.1
      · exact put_sound (pt := p) hP hD hno (fun b' q hb' hq => hkeep b' _ q hb' hsn (fun ⟨_, r, e⟩ => hq ⟨r, e⟩)) p (p0 := []) (b0 := none) rfl hR hw hsz hput (fun b1 hb1 => by cases hb1)
    · by_cases hyn : y = n
      · subst hyn; rw [hstn]; trivial
      · rcases hst' y hys hyn with ⟨e, _⟩ | ⟨e, hk⟩
        · rw [e]; trivial
        · rw [e]
          have hent := h.ent y
          have hlab : ∀ b' q, b' < w.heap.size → ow b' = some (y, q) → ow' b' = some (y, q) ∧ w'.heap[b']? = w.heap[b']? := fun b' q _ hq =>
            ⟨hkeep _ _ _ hq hyn (fun ⟨e, _⟩ => hys e), hoth _ (fun q' hq' => by rw [hq] at hq'; simp only [Option.some.injEq, Prod.mk.injEq] at hq'; exact hys hq'.1)⟩
          have hnone : ∀ b', b' < w.heap.size → ow b' = none → ow' b' = none ∧ w'.heap[b']? = w.heap[b']? := fun b' _ hq =>
            ⟨hno _ hq, hoth _ (fun q' hq' => by rw [hq] at hq'; cases hq')⟩
          -- what a name leads to, where it is another slot's
          have href : ∀ s' dd, (st y).names = some s' → s' ≠ s → st s' = .val dd → st' s' = .val dd ∧ tf s' = tf s' ∧ VR w ow M.f dd s' [] (tf s') ∧
              ∀ b' q, b' < w.heap.size → ow b' = some (s', q) → w'.heap[b']? = w.heap[b']? := fun s' dd hs' hne hdd => by
            have hsn' : s' ≠ n := fun e => hnn y (e ▸ hs')
            refine ⟨?_, rfl, h.vr hdd, fun b' q _ hq => hoth _ (fun q' hq' => by rw [hq] at hq'; simp only [Option.some.injEq, Prod.mk.injEq] at hq'; exact hne hq'.1)⟩
            rcases hst' s' hne hsn' with ⟨_, k⟩ | ⟨k, _⟩
            · rw [hdd] at k; exact absurd rfl k
            · rw [k]; exact hdd
          generalize hey : st y = ey at hent hk href
          cases ey with
          | ref s' q tt =>
            by_cases hs' : s' = s
            · subst hs'
              simp only [ER] at hent ⊢
              obtain ⟨dd, h1, t', b1, o1, h2, h3⟩ := hent
              rw [hs] at h1
              simp only [Ent.val.injEq] at h1
              subst h1
              obtain ⟨t2, k1, _⟩ := walk_put hP q p (b0 := none) hR hw hsz hput (fun b1 hb1 => by cases hb1) h2 (fun hx => by rw [← htt]; exact hk rfl hx)
              exact ⟨_, hst, t2, b1, o1, k1, h3⟩
            · exact ER.keep hsize rfl hnone hlab (fun s'' dd h1 h2 => by simp only [Ent.names, Option.some.injEq] at h1; subst h1; exact href _ dd rfl hs' h2) hent
          | al s' q tt =>
            by_cases hs' : s' = s
            · subst hs'
              simp only [ER] at hent ⊢
              obtain ⟨dd, h1, f, t', b1, o1, h2, h3⟩ := hent
              rw [hs] at h1
              simp only [Ent.val.injEq] at h1
              subst h1
              have hnx : ¬ ∃ r, q = p ++ r := by
                intro hx
                obtain ⟨_, hf⟩ := hk rfl hx
                obtain ⟨r, rfl⟩ := hx
                rw [walk_append, hw] at h2
                simp only [Option.bind_some] at h2
                rw [htt] at hf
                rcases walk_own r h2 with ⟨_, k⟩ | k
                · rw [k rfl] at hf; cases hf
                · rw [k] at hf; cases hf
              obtain ⟨t2, k1, k2⟩ := walk_put hP q p (b0 := none) hR hw hsz hput (fun b1 hb1 => by cases hb1) h2 (fun ⟨c, r, hx⟩ => absurd ⟨_, hx⟩ hnx)
              obtain ⟨e1, e2⟩ := k2 hnx f t' rfl
              exact ⟨_, hst, f, t', b1, o1, by rw [k1, e1], by rw [e2]; exact h3⟩
            · exact ER.keep hsize rfl hnone hlab (fun s'' dd h1 h2 => by simp only [Ent.names, Option.some.injEq] at h1; subst h1; exact href _ dd rfl hs' h2) hent
          | _ => exact ER.keep hsize rfl hnone hlab (fun s'' dd h1 h2 => by simp only [Ent.names, reduceCtorEq] at h1) hent
  · obtain ⟨l', hl'⟩ := hown b' l hl
    exact ⟨(h.own b' l' hl').1, by rw [hP.size]; exact (h.own b' l' hl').2⟩
end Go.Proofs.Ytlmcalffemklnaa.Rf
namespace Go.Proofs.Ytlmcalffemklnaa.Rf
theorem VR.of_cell {w : World} {ow : Own} {bs : Fl} {t : Ty} {s : Nat} {p : List Step} {g : Nat → Option Value} {o : Nat} {x : t.den} {v : Value} (ha : t.agg = false)
    (h : Rd w ow bs t s p g o x) (hv : g o = some v) : VR w ow bs ⟨t, x⟩ s p v := by
  have key : (∀ cs, v ≠ .agg cs) ∧ t.sz = 1 := by
    cases t <;> simp only [Ty.agg, reduceCtorEq, Bool.true_eq_false] at ha <;> simp only [Rd] at h <;> refine ⟨?_, rfl⟩ <;> rintro cs rfl
    all_goals first
      | (rw [hv] at h; cases h; done)
      | (obtain ⟨a, h⟩ := h; rw [hv] at h; cases h; done)
      | (obtain ⟨a, h, h1⟩ := h; rw [hv] at h; simp only [Option.some.injEq] at h; subst h; cases h1; done)
      | (obtain ⟨a, h, _⟩ := h; rw [hv] at h; cases h; done)
      | (obtain ⟨a, b, h, _⟩ := h; rw [hv] at h; cases h; done)
      | (obtain ⟨a, b, c, h, _⟩ := h; rw [hv] at h; cases h; done)
  have hc : v.cells = #[v] := by
    cases v <;> first | rfl | exact absurd rfl (key.1 _)
  refine ⟨?_, by rw [hc]; exact key.2.symm, ?_⟩
  · constructor
    · intro hx; dsimp only at hx; rw [ha] at hx; cases hx
    · rintro ⟨cs, hx⟩; exact absurd hx (key.1 cs)
  · refine Rd.frame (Nat.le_refl _) t (fun i hi => ?_) (fun b _ h => ⟨h, rfl⟩) (fun b q _ h => ⟨h, rfl⟩) h
    have hi : i = 0 := by have := key.2; omega
    subst hi
    rw [hc]; simpa using hv.symm
theorem VR.cell {w : World} {ow : Own} {bs : Fl} {d : Dv} {s : Nat} {p : List Step} {v : Value} (ha : d.1.agg = false) (h : VR w ow bs d s p v) : v.cells = #[v] ∧ Rd w ow bs d.1 s p (fun o => (#[v] : Array Value)[o]?) 0 d.2 := by
  have hc : v.cells = #[v] := by
    cases v <;> first | rfl | (have := h.1.2 ⟨_, rfl⟩; rw [ha] at this; cases this)
  exact ⟨hc, by have := h.2.2; rw [hc] at this; exact this⟩
theorem VR.int {w : World} {ow : Own} {bs : Fl} {k : IntKind} {n : Int} {s : Nat} {p : List Step} {v : Value} (h : VR w ow bs ⟨.int k, n⟩ s p v) : v = .int k n := by
  have := (h.cell rfl).2; simp only [Rd] at this; simpa using this
theorem VR.bool {w : World} {ow : Own} {bs : Fl} {n : Bool} {s : Nat} {p : List Step} {v : Value} (h : VR w ow bs ⟨.bool, n⟩ s p v) : v = .bool n := by
  have := (h.cell rfl).2; simp only [Rd] at this; simpa using this
theorem VR.str {w : World} {ow : Own} {bs : Fl} {n : ByteArray} {s : Nat} {p : List Step} {v : Value} (h : VR w ow bs ⟨.str, n⟩ s p v) : v = .string n := by
  have := (h.cell rfl).2; simp only [Rd] at this; simpa using this
theorem VR.mk_int (w : World) (ow : Own) (bs : Fl) (k : IntKind) (n : Int) (s : Nat) (p : List Step) : VR w ow bs ⟨.int k, n⟩ s p (.int k n) :=
  VR.of_cell (g := fun _ => some (.int k n)) (o := 0) rfl (by simp only [Rd]) rfl
theorem VR.mk_bool (w : World) (ow : Own) (bs : Fl) (n : Bool) (s : Nat) (p : List Step) : VR w ow bs ⟨.bool, n⟩ s p (.bool n) :=
  VR.of_cell (g := fun _ => some (.bool n)) (o := 0) rfl (by simp only [Rd]) rfl
theorem VR.mk_str (w : World) (ow : Own) (bs : Fl) (n : ByteArray) (s : Nat) (p : List Step) : VR w ow bs ⟨.str, n⟩ s p (.string n) :=
  VR.of_cell (g := fun _ => some (.string n)) (o := 0) rfl (by simp only [Rd]) rfl
theorem VR.mk_nils (w : World) (ow : Own) (bs : Fl) (a : Option Addr) (s : Nat) (p : List Step) : VR w ow bs ⟨.nils, ()⟩ s p (.slice a 0 0) :=
  VR.of_cell (g := fun _ => some (.slice a 0 0)) (o := 0) rfl (by simp only [Rd]; exact ⟨a, rfl⟩) rfl
theorem VR.mk_nilp (w : World) (ow : Own) (bs : Fl) (s : Nat) (p : List Step) : VR w ow bs ⟨.nilp, ()⟩ s p (.pointer none) :=
  VR.of_cell (g := fun _ => some (.pointer none)) (o := 0) rfl (by simp only [Rd]) rfl
theorem cst_cases {v : Value} {e : Ent} (h : cst v = e) : e = .dead ∨ ∃ d, e = .val d ∧ d.1.hasOwn = false ∧ ∀ w ow bs s p, VR w ow bs d s p v := by
  subst h
  unfold cst
  split
  · exact .inr ⟨_, rfl, rfl, fun w ow bs s p => VR.mk_int w ow bs _ _ s p⟩
  · exact .inr ⟨_, rfl, rfl, fun w ow bs s p => VR.mk_bool w ow bs _ s p⟩
  · exact .inr ⟨_, rfl, rfl, fun w ow bs s p => VR.mk_str w ow bs _ s p⟩
  · exact .inr ⟨_, rfl, rfl, fun w ow bs s p => VR.mk_nils w ow bs none s p⟩
  · exact .inr ⟨_, rfl, rfl, fun w ow bs s p => VR.mk_nilp w ow bs s p⟩
  · exact .inl rfl
variable {M : Sc} {W w w' : World} {ow ow' : Own} {tf tf' : Nat → Value} {st st1 : St}
def ev (tf : Nat → Value) : Operand → Value
  | .tmp t => tf t
  | .const v => v
  | .global g => .pointer (some ⟨g, 0, none⟩)
  | .func f => .func (.func f) #[] #[]
/-- What a step leaves alone: what was dead. -/
def Deads (st st1 : St) : Prop := ∀ y, st y = .dead → st1 y = .dead
theorem Deads.refl (st : St) : Deads st st := fun _ h => h
theorem Deads.trans {a b c : St} (h : Deads a b) (k : Deads b c) : Deads a c := fun y hy => k y (h y hy)
theorem Deads.take (st : St) (s : Nat) : Deads st (takeS st s) := fun y hy => by
  by_cases h : y = s
  · subst h; exact takeS_same st y
  · rw [takeS_ne st h, hy]; rfl
theorem Deads.put {s : Nat} {p : List Step} {d : Dv} (h : putP st s p d = some st1) : Deads st st1 := fun y hy => by
  obtain ⟨T, x, old, new, h1, _, _, _, _, h6⟩ := putP_spec h
  by_cases hys : y = s
  · subst hys; rw [hy] at h1; cases h1
  · rcases h6 y hys with ⟨k, _⟩ | ⟨k, _⟩
    · exact k
    · rw [k, hy]
theorem getP_val {s : Nat} {p : List Step} {d : Dv} (h : getP st s p = some d) : ∃ T x, st s = .val ⟨T, x⟩ ∧ get p T x = some d := by
  unfold getP at h; split at h
  · rename_i d0 hs; exact ⟨d0.1, d0.2, hs, h⟩
  · cases h
theorem frzP_spec {s : Nat} {p : List Step} {d : Dv} (h : frzP st s p = some (d, st1)) : ∃ (t : Ty) (x : t.den), getP st s p = some ⟨t, x⟩ ∧ d.1 = t.frz ∧ castT t d.1 x = some d.2 ∧ d.1.hasOwn = false ∧ putP st s p d = some st1 := by
  unfold frzP at h
  split at h
  · rename_i t x hg
    split at h
    · cases h
    · rename_i hf
      split at h
      · rename_i d' hd
        split at h
        · rename_i st' hp
          simp only [Option.some.injEq, Prod.mk.injEq] at h
          obtain ⟨rfl, rfl⟩ := h
          unfold Ty.toFrz at hd
          split at hd
          · rename_i y hy
            simp only [Option.some.injEq] at hd
            subst hd
            exact ⟨t, x, hg, rfl, hy, hf, hp⟩
          · cases hd
        · cases h
      · cases h
  · cases h
theorem Deads.frz {s : Nat} {p : List Step} {d : Dv} (h : frzP st s p = some (d, st1)) : Deads st st1 := by
  obtain ⟨_, _, _, _, _, _, hp⟩ := frzP_spec h
  exact Deads.put hp
theorem Less.some {ow ow' : Own} {s : Nat} {p : List Step} (h : Less ow ow' s p) {b : Nat} {l : Nat × List Step} (hl : ow' b = some l) : ow b = some l := by
  cases hb : ow b with
  | none => rw [h.1 b hb] at hl; cases hl
  | some l0 =>
    rcases h.2 b l0 hb with k | ⟨k, _⟩
    · rw [k] at hl; exact hl
    · rw [k] at hl; cases hl
theorem Put.refl (w : World) (b o n : Nat) : Put w w b o n := ⟨rfl, fun _ _ => rfl, fun _ _ => rfl, fun _ h => h⟩
theorem walk_some {w : World} {v : Value} : ∀ (p : List Step) {T : Ty} {b1 o1 : Nat} {r : Ty × Option Nat × Nat}, walk w v p T (some b1) o1 = some r → ∃ b, r.2.1 = some b
  | [], T, b1, o1, r, h => by simp only [walk, Option.some.injEq] at h; subst h; exact ⟨b1, rfl⟩
  | .l :: p, T, b1, o1, r, h => by cases T <;> simp only [walk, reduceCtorEq] at h; exact walk_some p h
  | .r :: p, T, b1, o1, r, h => by cases T <;> simp only [walk, reduceCtorEq] at h; exact walk_some p h
  | .i n :: p, T, b1, o1, r, h => by
    cases T <;> simp only [walk, reduceCtorEq] at h
    · split at h
      · split at h
        · exact walk_some p h
        · cases h
      · cases h
    · split at h
      · exact walk_some p h
      · cases h
  | .d :: p, T, b1, o1, r, h => by
    cases T <;> simp only [walk, reduceCtorEq] at h
    split at h
    · exact walk_some p h
    · cases h
theorem walk_top {w : World} {v : Value} {p : List Step} {T : Ty} {r : Ty × Option Nat × Nat} (h : walk w v p T none 0 = some r) (ht : ptrTop p T = true) (hp : p ≠ []) : ∃ b, r.2.1 = some b := by
  cases p with
  | nil => exact absurd rfl hp
  | cons a p =>
    cases T <;> simp only [ptrTop, Bool.false_eq_true] at ht
    · cases a <;> simp only [walk, reduceCtorEq] at h
      split at h
      · split at h
        · exact walk_some p h
        · cases h
      · cases h
    · cases a <;> simp only [walk, reduceCtorEq] at h
      split at h
      · exact walk_some p h
      · cases h
/-- A whole slot is shared from here on. -/
theorem Rel.frzSlot {s : Nat} {d : Dv} (h : Rel M W w ow tf st) (hf : frzP st s [] = some (d, st1)) : ∃ ow', Rel M W w ow' tf st1 ∧ st1 s = .val d := by
  obtain ⟨t, x, hg, hd, hc, hown, hp⟩ := frzP_spec hf
  obtain ⟨T, x0, old, new, h1, h2, _, h4, h5, h6⟩ := putP_spec hp
  obtain ⟨T', x1, g1, g2⟩ := getP_val hg
  rw [h1] at g1; simp only [Ent.val.injEq, Sigma.mk.injEq] at g1
  obtain ⟨rfl, g1⟩ := g1
  obtain rfl := eq_of_heq g1
  simp only [get, Option.some.injEq] at g2 h2
  subst h2
  simp only [Sigma.mk.injEq] at g2
  obtain ⟨rfl, g2⟩ := g2
  obtain rfl := eq_of_heq g2
  simp only [put, Option.some.injEq] at h4
  subst h4
  have hv := h.vr h1
  obtain ⟨ow', hl, hr⟩ := Rd.castT (w := w) (ow := ow) (s := s) (p := []) hc hv.2.2
  refine ⟨ow', ⟨h.fr, fun y => ?_, fun b l hb => h.own b l (hl.some hb), h.top⟩, h5⟩
  by_cases hy : y = s
  · subst hy
    rw [h5]
    exact ⟨by rw [← agg_castT hc]; exact hv.1, by rw [← sz_castT hc]; exact hv.2.1, hr⟩
  · rcases h6 y hy with ⟨k, _⟩ | ⟨k, k2⟩
    · rw [k]; trivial
    · rw [k]
      have hlab : ∀ s', s' ≠ s → ∀ b q, b < w.heap.size → ow b = some (s', q) → ow' b = some (s', q) ∧ w.heap[b]? = w.heap[b]? := fun s' hs' b q _ hq => by
        rcases hl.2 b _ hq with j | ⟨_, q', e⟩
        · exact ⟨j, rfl⟩
        · simp only [Prod.mk.injEq] at e; exact absurd e.1 hs'
      refine ER.keep (Nat.le_refl _) rfl (fun b _ hb => ⟨hl.1 b hb, rfl⟩) (hlab y hy) (fun s' dd hs' hdd => ?_) (h.ent y)
      have hs'' : s' ≠ s := by
        rintro rfl
        -- it would name a place of the slot
        obtain ⟨ho, _⟩ := (h.ent y).names_own hs'
        rw [h1] at ho
        have hTo : T.hasOwn = true := ho
        generalize hey : st y = ey at hs' k2
        cases ey with
        | ref s1 q tt =>
          simp only [Ent.names, Option.some.injEq] at hs'
          subst hs'
          have hent := h.ent y
          rw [hey] at hent
          simp only [ER] at hent
          obtain ⟨dd', e1, t', b, o, e2, e3⟩ := hent
          cases q with
          | nil => simp only [walk, Option.some.injEq, Prod.mk.injEq, reduceCtorEq, false_and, and_false] at e2
          | cons c r =>
            have := (k2 rfl ⟨c, r, rfl⟩).2
            dsimp only at this; rw [hTo] at this; cases this
        | al s1 q tt =>
          simp only [Ent.names, Option.some.injEq] at hs'
          subst hs'
          have := (k2 rfl ⟨_, rfl⟩).2
          dsimp only at this; rw [hTo] at this; cases this
        | _ => simp only [Ent.names, reduceCtorEq] at hs'
      refine ⟨?_, rfl, h.vr hdd, fun _ _ _ _ => rfl⟩
      rcases h6 s' hs'' with ⟨_, j⟩ | ⟨j, _⟩
      · rw [hdd] at j; exact absurd rfl j
      · rw [j]; exact hdd
/-- A place in memory is shared from here on. -/
theorem Rel.frzPlace {s : Nat} {p : List Step} {d : Dv} {T : Ty} {x : T.den} {r : Ty × Option Nat × Nat} (h : Rel M W w ow tf st) (hf : frzP st s p = some (d, st1)) (hp : p ≠ []) (hs : st s = .val ⟨T, x⟩)
    (hw : walk w (tf s) p T none 0 = some r) {n : Nat} (hn : st n = .dead) : ∃ ow', Rel M W w ow' tf st1 ∧ d.1 = r.1.frz ∧ ∃ b, r.2.1 = some b ∧ Rd w ow' M.f d.1 s p (mem w b) r.2.2 d.2 := by
  obtain ⟨t, y, hg, hd, hc, hown, hput⟩ := frzP_spec hf
  obtain ⟨T0, x0, old, new, h1, h2, h3, h4, h5, h6⟩ := putP_spec hput
  rw [hs] at h1; simp only [Ent.val.injEq, Sigma.mk.injEq] at h1
  obtain ⟨rfl, h1⟩ := h1
  obtain rfl := eq_of_heq h1
  obtain ⟨T', x1, g1, g2⟩ := getP_val hg
  rw [hs] at g1; simp only [Ent.val.injEq, Sigma.mk.injEq] at g1
  obtain ⟨rfl, g1⟩ := g1
  obtain rfl := eq_of_heq g1
  rw [h2] at g2
  simp only [Option.some.injEq] at g2
  subst g2
  have hv := h.vr hs
  obtain ⟨b, hb⟩ := walk_top hw h3 hp
  obtain ⟨rt, rb, ro⟩ := r
  dsimp only at hb
  subst hb
  obtain ⟨z, k1, k2⟩ := walk_read p (b := none) hv.2.2 hw
  rw [h2] at k1
  simp only [Option.some.injEq, Sigma.mk.injEq] at k1
  obtain ⟨rfl, k1⟩ := k1
  obtain rfl := eq_of_heq k1
  rw [List.nil_append] at k2
  obtain ⟨ow', hl, hr⟩ := Rd.castT (p := p) hc k2
  have hf := h.free hn
  refine ⟨ow', ?_, hd, b, rfl, hr⟩
  have hsn : s ≠ n := by rintro rfl; rw [hs] at hn; cases hn
  refine Rel.putG (d := d) (n := n) h hs hsn hf.2 h2 h4 hw (sz_castT hc).symm (Put.refl _ _ _ _) hr hl.1 (fun b' s' q hq _ hne => ?_) (fun b' l hb' => ⟨l, hl.some hb'⟩) h.fr h5 (Deads.put hput n hn) (fun y hy _ => h6 y hy)
  rcases hl.2 b' _ hq with j | ⟨_, q', e⟩
  · exact j
  · simp only [Prod.mk.injEq] at e; exact absurd ⟨e.1, q', e.2⟩ hne
/-- What another name stood for, shared from here on, is in hand. -/
theorem Rel.frzAl {z s n : Nat} {p : List Step} {u : Ty} {d : Dv} (h : Rel M W w ow tf st) (hz : st z = .al s p u) (hf : frzP st s p = some (d, st1)) (hn : st n = .dead) :
    ∃ ow', Hand M W w ow' tf st1 n (.val d) (tf z) := by
  have hent := h.ent z
  rw [hz] at hent
  simp only [ER] at hent
  obtain ⟨dd, h1, f, t', b, o, h2, h3⟩ := hent
  have hdn : st1 n = .dead := Deads.frz hf n hn
  cases p with
  | nil =>
    obtain ⟨ow', hr, hs1⟩ := h.frzSlot hf
    simp only [walk, Option.some.injEq, Prod.mk.injEq] at h2
    obtain ⟨e1, rfl, rfl⟩ := h2
    have hv := hr.vr hs1
    obtain ⟨t, x, hg, hd, hc, hown, hput⟩ := frzP_spec hf
    obtain ⟨T', x1, g1, g2⟩ := getP_val hg
    rw [h1] at g1; simp only [Ent.val.injEq] at g1
    subst g1
    dsimp only at e1
    subst e1
    simp only [get, Option.some.injEq, Sigma.mk.injEq] at g2
    obtain ⟨rfl, _⟩ := g2
    have ha : d.1.agg = false := by rw [hd]; rfl
    have htf : tf s = tf z := by
      have := (hv.cell ha).1
      simp only [cellAt, this] at h3; simpa using h3
    refine ⟨ow', hr.hand hdn (by simp [Ent.names]) ?_⟩
    simp only [ER, upd_same]
    rw [← htf]
    exact VR.flat hown (Nat.le_refl _) (fun b _ hb => ⟨hb, rfl⟩) hv
  | cons a p =>
    obtain ⟨ow', hr, hd, b', hb, hrd⟩ := h.frzPlace hf (by simp) h1 h2 hn
    dsimp only at hd hb hrd
    subst hb
    refine ⟨ow', hr.hand hdn (by simp [Ent.names]) ?_⟩
    simp only [ER, upd_same]
    have ha : d.1.agg = false := by rw [hd]; rfl
    obtain ⟨_, _, _, _, _, hown, _⟩ := frzP_spec hf
    exact VR.flat hown (Nat.le_refl _) (fun b _ hb => ⟨hb, rfl⟩) (VR.of_cell ha hrd h3)
/-- An operand's value goes into the hand. -/
theorem useV_sound {x : Operand} {d : Dv} {n : Nat} (h : Rel M W w ow tf st) (hu : useV st x = some (d, st1)) (hn : st n = .dead) :
    (∃ ow', Hand M W w ow' tf st1 n (.val d) (ev tf x)) ∧ Deads st st1 := by
  unfold useV at hu
  split at hu
  · rename_i s
    split at hu
    · rename_i d0 hs
      have hsn : s ≠ n := by rintro rfl; rw [hs] at hn; cases hn
      split at hu
      · simp only [Option.some.injEq, Prod.mk.injEq] at hu
        obtain ⟨rfl, rfl⟩ := hu
        exact ⟨h.take hs rfl hn hsn, Deads.take st s⟩
      · rename_i hf
        simp only [Option.some.injEq, Prod.mk.injEq] at hu
        obtain ⟨rfl, rfl⟩ := hu
        refine ⟨⟨ow, h.hand hn (by simp [Ent.names]) ?_⟩, Deads.refl _⟩
        simp only [ER, upd_same]
        exact VR.flat hf (Nat.le_refl _) (fun b _ hb => ⟨hb, rfl⟩) (h.vr hs)
    · rename_i s' p u hs
      exact ⟨h.frzAl hs hu hn, Deads.frz hu⟩
    · cases hu
  · split at hu
    · rename_i d0 hs
      simp only [Option.some.injEq, Prod.mk.injEq] at hu
      obtain ⟨rfl, rfl⟩ := hu
      refine ⟨⟨ow, h.hand hn (by simp [Ent.names]) ?_⟩, Deads.refl _⟩
      simp only [ER, upd_same]
      cases x with
      | tmp s => rename_i hx; exact absurd rfl (hx s)
      | const v =>
        rcases cst_cases (v := v) rfl with e | ⟨d1, e, _, k⟩
        · simp only [opd] at hs; rw [e] at hs; cases hs
        · simp only [opd] at hs; rw [e] at hs; simp only [Ent.val.injEq] at hs; subst hs; exact k _ _ _ _ _
      | global g => simp only [opd, reduceCtorEq] at hs
      | func f => simp only [opd, reduceCtorEq] at hs
    · cases hu
end Go.Proofs.Ytlmcalffemklnaa.Rf
namespace Go.Proofs.Ytlmcalffemklnaa.Rf
variable {M : Sc} {W w w' : World} {ow ow' : Own} {tf tf' : Nat → Value} {st st1 : St} {ρ : Type}
/-- What an operation comes to: the walk goes on with a value in hand. -/
def Res (M : Sc) (W w' : World) (tf : Nat → Value) (st : St) (n : Nat) (v : Value) (κ : St → Ent → Option ρ) (r : ρ) : Prop :=
  ∃ st1 e, κ st1 e = some r ∧ Deads st st1 ∧ ∃ ow', Hand M W w' ow' tf st1 n e v
theorem Rel.handVal {n : Nat} {d : Dv} {v : Value} (h : Rel M W w ow tf st) (hn : st n = .dead) (hv : VR w ow M.f d n [] v) : Hand M W w ow tf st n (.val d) v :=
  h.hand hn (by simp [Ent.names]) (by simp only [ER, upd_same]; exact hv)
theorem VR.any {d : Dv} {s s' : Nat} {p p' : List Step} {v : Value} {bs : Fl} (hd : d.1.hasOwn = false) (h : VR w ow bs d s p v) : VR w ow bs d s' p' v :=
  VR.flat hd (Nat.le_refl _) (fun b _ hb => ⟨hb, rfl⟩) h
/-- Another copy of what owns nothing. -/
theorem Rel.copy {z n : Nat} {e : Ent} (h : Rel M W w ow tf st) (hz : st z = e) (ho : e.owns = false) (hn : st n = .dead) : Hand M W w ow tf st n e (tf z) := by
  have hf := h.free hn
  have hzn : e.names ≠ some n := by rw [← hz]; exact hf.2 z
  have hent := h.ent z
  rw [hz] at hent
  have hown : (st n).owns = false := by rw [hn]; rfl
  have hset : ∀ s', s' ≠ n → setS st (some n) e s' = st s' := fun s' h' => by rw [setS_ne st e h', hown]; rfl
  refine h.hand hn hzn ?_
  cases e with
  | val d => simp only [ER, upd_same] at hent ⊢; exact VR.any ho hent
  | tup l =>
    simp only [ER, upd_same] at hent ⊢
    obtain ⟨vs, h1, h2, h3⟩ := hent
    refine ⟨vs, h1, h2, fun j d v hd hv hne => VR.any ?_ (h3 j d v hd hv hne)⟩
    simp only [Ent.owns, List.any_eq_false] at ho
    have := ho d (List.mem_of_getElem? hd)
    simpa using this
  | ref s p t =>
    simp only [Ent.names, ne_eq, Option.some.injEq] at hzn
    simp only [ER, upd_same] at hent ⊢
    obtain ⟨d, h1, t', b, o, h2, h3⟩ := hent
    exact ⟨d, by rw [hset s hzn]; exact h1, t', b, o, by rw [upd_ne _ _ hzn]; exact h2, h3⟩
  | al s p t =>
    simp only [Ent.names, ne_eq, Option.some.injEq] at hzn
    simp only [ER, upd_same] at hent ⊢
    obtain ⟨d, h1, f, t', b, o, h2, h3⟩ := hent
    exact ⟨d, by rw [hset s hzn]; exact h1, f, t', b, o, by rw [upd_ne _ _ hzn]; exact h2, by rw [upd_ne _ _ hzn]; exact h3⟩
  | fn f caps =>
    simp only [ER, upd_same] at hent ⊢
    obtain ⟨vs, h1, h2, h3⟩ := hent
    exact ⟨vs, h1, h2, fun j d v hd hv => ⟨(h3 j d v hd hv).1, VR.any (h3 j d v hd hv).1 (h3 j d v hd hv).2⟩⟩
  | dead => trivial
theorem ER.al_self {s : Nat} {f : Bool} {t : Ty} {y : (Ty.osl f t).den} (h : Rel M W w ow tf st) (hs : st s = .val ⟨.osl f t, y⟩) : cellAt w (tf s) none 0 = some (tf s) := by
  have := ((h.vr hs).cell rfl).1
  show (tf s).cells[0]? = _
  rw [this]; rfl
theorem Rel.handAl {s n : Nat} {f : Bool} {t : Ty} {y : (Ty.osl f t).den} (h : Rel M W w ow tf st) (hs : st s = .val ⟨.osl f t, y⟩) (hn : st n = .dead) : Hand M W w ow tf st n (.al s [] t) (tf s) := by
  have hsn : s ≠ n := by rintro rfl; rw [hs] at hn; cases hn
  have hown : (st n).owns = false := by rw [hn]; rfl
  refine h.hand hn (by simpa [Ent.names] using hsn) ?_
  simp only [ER, upd_same]
  refine ⟨_, by rw [setS_ne st _ hsn, hown]; exact hs, f, t, none, 0, rfl, ?_⟩
  rw [upd_ne _ _ hsn]; exact ER.al_self h hs
theorem Rel.handRef {s n : Nat} {f : Bool} {t : Ty} {y : (Ty.optr f t).den} (h : Rel M W w ow tf st) (hs : st s = .val ⟨.optr f t, y⟩) (hn : st n = .dead) : Hand M W w ow tf st n (.ref s [.d] t) (tf s) := by
  have hsn : s ≠ n := by rintro rfl; rw [hs] at hn; cases hn
  have hown : (st n).owns = false := by rw [hn]; rfl
  refine h.hand hn (by simpa [Ent.names] using hsn) ?_
  simp only [ER, upd_same]
  obtain ⟨hc, hr⟩ := (h.vr hs).cell rfl
  simp only [Rd] at hr
  obtain ⟨b, h1, _⟩ := hr
  have h1' : tf s = .pointer (some ⟨b, 0, none⟩) := by simpa using h1
  refine ⟨_, by rw [setS_ne st _ hsn, hown]; exact hs, t, b, 0, ?_, h1'⟩
  rw [upd_ne _ _ hsn]
  simp only [walk, cellAt, hc, h1']
  rfl
theorem seen_sound {x : Operand} {e : Ent} {n : Nat} (h : Rel M W w ow tf st) (hu : seen st x = e) (he : e ≠ .dead) (hn : st n = .dead) : Hand M W w ow tf st n e (ev tf x) := by
  cases x with
  | tmp s =>
    simp only [seen] at hu
    split at hu
    · rename_i f t y hs; subst hu; exact h.handAl hs hn
    · rename_i f t y hs; subst hu; exact h.handRef hs hn
    · rename_i d hs
      split at hu
      · exact absurd hu.symm he
      · rename_i hf; subst hu; exact h.copy hs hf hn
    · rename_i l hs
      split at hu
      · exact absurd hu.symm he
      · rename_i hf; subst hu; exact h.copy hs hf hn
    · rename_i h1 h2 h3 h4
      refine hu ▸ h.copy rfl ?_ hn
      generalize hse : st s = z at h1 h2 h3 h4
      cases z with
      | val d => exact absurd rfl (h3 d)
      | tup l => exact absurd rfl (h4 l)
      | _ => rfl
  | const v =>
    simp only [seen, opd] at hu
    rcases cst_cases hu with e1 | ⟨d, e1, hf, k⟩
    · exact absurd e1 he
    · subst e1; exact h.handVal hn (k _ _ _ _ _)
  | global g => simp only [seen, opd] at hu; exact absurd hu.symm he
  | func f =>
    simp only [seen, opd] at hu
    subst hu
    exact h.hand hn (by simp [Ent.names]) ⟨[], by simp [ev], rfl, fun j d v hd => by simp at hd⟩
theorem takeV_sound {x : Operand} {d : Dv} {n : Nat} (h : Rel M W w ow tf st) (hu : takeV st x = some (d, st1)) (hn : st n = .dead) :
    (∃ ow', Hand M W w ow' tf st1 n (.val d) (ev tf x)) ∧ Deads st st1 := by
  unfold takeV at hu
  split at hu
  · rename_i s
    split at hu
    · rename_i d0 hs
      refine useV_sound h ?_ hn
      simp only [useV, hs]; exact hu
    · rename_i s' u hs
      split at hu
      · rename_i d0 hs'
        simp only [Option.some.injEq, Prod.mk.injEq] at hu
        obtain ⟨rfl, rfl⟩ := hu
        have hsn : s' ≠ n := by rintro rfl; rw [hs'] at hn; cases hn
        refine ⟨?_, Deads.take st s'⟩
        have hent := h.ent s
        rw [hs] at hent
        simp only [ER] at hent
        obtain ⟨dd, h1, f, t', b, o, h2, h3⟩ := hent
        rw [hs'] at h1
        simp only [Ent.val.injEq] at h1
        subst h1
        simp only [walk, Option.some.injEq, Prod.mk.injEq] at h2
        obtain ⟨e1, rfl, rfl⟩ := h2
        have hv := h.vr hs'
        have ha : d0.1.agg = false := by rw [e1]; rfl
        have htf : tf s' = tf s := by
          have := (hv.cell ha).1
          simp only [cellAt, this] at h3; simpa using h3
        obtain ⟨ow', k⟩ := h.take hs' rfl hn hsn
        exact ⟨ow', by rw [show ev tf (.tmp s) = tf s' from htf.symm]; exact k⟩
      · cases hu
    · rename_i s' p u hs
      exact ⟨h.frzAl hs hu hn, Deads.frz hu⟩
    · cases hu
  · rename_i hx
    refine useV_sound h ?_ hn
    cases x with
    | tmp s => exact absurd rfl (hx s)
    | _ => exact hu
/-- What is seen of an operand. -/
theorem lookV_sound {x : Operand} {d : Dv} (h : Rel M W w ow tf st) (hu : lookV st x = some d) : ∃ s p, VR w ow M.f d s p (ev tf x) := by
  unfold lookV at hu
  cases x with
  | tmp s =>
    simp only [opd] at hu
    split at hu
    · rename_i d0 hs
      simp only [Option.some.injEq] at hu; subst hu
      exact ⟨s, [], h.vr hs⟩
    · rename_i s' p u hs
      have hent := h.ent s
      rw [hs] at hent
      simp only [ER] at hent
      obtain ⟨dd, h1, f, t', b, o, h2, h3⟩ := hent
      obtain ⟨T, x, g1, g2⟩ := getP_val hu
      rw [h1] at g1; simp only [Ent.val.injEq] at g1; subst g1
      obtain ⟨y, k1, k2⟩ := walk_read p (b := none) (h.vr h1).2.2 h2
      rw [g2] at k1
      simp only [Option.some.injEq] at k1; subst k1
      exact ⟨s', p, VR.of_cell rfl k2 h3⟩
    · cases hu
  | const v =>
    simp only [opd] at hu
    rcases cst_cases (v := v) rfl with e1 | ⟨d1, e1, hf, k⟩
    · rw [e1] at hu; cases hu
    · rw [e1] at hu; simp only [Option.some.injEq] at hu; subst hu; exact ⟨0, [], k _ _ _ _ _⟩
  | global g => cases hu
  | func f => cases hu
theorem opd_val {x : Operand} {d : Dv} (h : Rel M W w ow tf st) (hu : opd st x = .val d) : ∃ s p, VR w ow M.f d s p (ev tf x) :=
  lookV_sound h (by simp only [lookV, hu])
theorem opd_int {x : Operand} {k : IntKind} {m : Int} (h : Rel M W w ow tf st) (hu : opd st x = .val ⟨.int k, m⟩) : ev tf x = .int k m := by
  obtain ⟨s, p, k⟩ := opd_val h hu; exact k.int
theorem opd_bool {x : Operand} {m : Bool} (h : Rel M W w ow tf st) (hu : opd st x = .val ⟨.bool, m⟩) : ev tf x = .bool m := by
  obtain ⟨s, p, k⟩ := opd_val h hu; exact k.bool
theorem opd_str {x : Operand} {m : ByteArray} (h : Rel M W w ow tf st) (hu : opd st x = .val ⟨.str, m⟩) : ev tf x = .string m := by
  obtain ⟨s, p, k⟩ := opd_val h hu; exact k.str
theorem brB_some {b : Bool} {f : Bool → Option ρ} {r : ρ} (h : brB b f = some r) : f b = some r := by cases b <;> exact h
theorem xMove_sound {x : Operand} {n : Nat} {κ : St → Ent → Option ρ} {r : ρ} (h : Rel M W w ow tf st) (hn : st n = .dead) (hx : xMove st x κ = some r) : Res M W w tf st n (ev tf x) κ r := by
  unfold xMove at hx
  split at hx
  · split at hx
    · rename_i d st1 hu
      obtain ⟨⟨ow', k1⟩, k2⟩ := takeV_sound h hu hn
      exact ⟨_, _, hx, k2, ow', k1⟩
    · split at hx
      · rename_i s hz1 hz
        split at hx
        · rename_i l hs
          have hsn : s ≠ n := by rintro rfl; rw [hs] at hn; cases hn
          obtain ⟨ow', k⟩ := h.take hs rfl hn hsn
          exact ⟨_, _, hx, Deads.take st s, ow', k⟩
        · cases hx
      · cases hx
  · rename_i he
    exact ⟨_, _, hx, Deads.refl _, ow, seen_sound h rfl (by simpa using he) hn⟩
theorem xAssign_sound {x : Operand} {n : Nat} {κ : St → Ent → Option ρ} {r : ρ} (h : Rel M W w ow tf st) (hn : st n = .dead) (hx : xAssign st x κ = some r) : Res M W w tf st n (ev tf x) κ r := by
  unfold xAssign at hx
  split at hx
  · rename_i s p t hs
    refine ⟨_, _, hx, Deads.refl _, ow, ?_⟩
    cases x with
    | tmp z => exact h.copy hs rfl hn
    | const v =>
      simp only [opd] at hs
      rcases cst_cases hs with e | ⟨d, e, _⟩ <;> cases e
    | global g => cases hs
    | func f => cases hs
  · rename_i f ds hs
    refine ⟨_, _, hx, Deads.refl _, ow, ?_⟩
    cases x with
    | tmp z => exact h.copy hs rfl hn
    | const v =>
      simp only [opd] at hs
      rcases cst_cases hs with e | ⟨d, e, _⟩ <;> cases e
    | global g => cases hs
    | func f => exact seen_sound h (x := .func f) (by simpa only [seen] using hs) (by simp) hn
  · split at hx
    · rename_i d st1 hu
      obtain ⟨⟨ow', k1⟩, k2⟩ := takeV_sound h hu hn
      exact ⟨_, _, hx, k2, ow', k1⟩
    · cases hx
theorem flatE_some {e : Ent} {d : Dv} (h : flatE e = some d) : e = .val d ∧ d.1.hasOwn = false := by
  unfold flatE at h; split at h
  · split at h
    · simp only [Option.some.injEq] at h; subst h; exact ⟨rfl, by assumption⟩
    · cases h
  · cases h
theorem Rel.handFlat {x : Operand} {d : Dv} {n : Nat} (h : Rel M W w ow tf st) (hu : opd st x = .val d) (hf : d.1.hasOwn = false) (hn : st n = .dead) : Hand M W w ow tf st n (.val d) (ev tf x) := by
  obtain ⟨s, p, k⟩ := opd_val h hu
  exact h.handVal hn (VR.any hf k)
theorem xPick_sound {c x y : Operand} {n : Nat} {κ : St → Ent → Option ρ} {r : ρ} (h : Rel M W w ow tf st) (hn : st n = .dead) (hx : xPick st c x y κ = some r) :
    ∃ z, ev tf c = .bool z ∧ Res M W w tf st n (ev tf (if z then x else y)) κ r := by
  unfold xPick at hx
  split at hx
  · rename_i z hc
    have := brB_some hx
    refine ⟨z, opd_bool h hc, ?_⟩
    split at this
    · rename_i d hd
      obtain ⟨e, hf⟩ := flatE_some hd
      refine ⟨_, _, this, Deads.refl _, ow, ?_⟩
      cases z
      · exact h.handFlat e hf hn
      · exact h.handFlat e hf hn
    · cases this
  · cases hx
theorem xNilCheck_sound {x : Operand} {n : Nat} {κ : St → Ent → Option ρ} {r : ρ} (h : Rel M W w ow tf st) (hn : st n = .dead) (hx : xNilCheck st x κ = some r) :
    Res M W w tf st n (ev tf x) κ r ∧ ((∃ a, ev tf x = .pointer (some a)) ∨ ∃ f l, ev tf x = .func (.func f) #[] l) := by
  unfold xNilCheck at hx
  have key : ∀ e, seen st x = e → e ≠ .dead → κ st e = some r → Res M W w tf st n (ev tf x) κ r := fun e h1 h2 h3 => ⟨_, _, h3, Deads.refl _, ow, seen_sound h h1 h2 hn⟩
  split at hx
  · rename_i s p t hs
    refine ⟨key _ hs (by simp) hx, .inl ?_⟩
    obtain ⟨_, _, k⟩ := seen_sound h hs (by simp) hn
    have := k.ent n
    rw [setS_same, drop_free (by assumption)] at this
    simp only [ER, upd_same] at this
    obtain ⟨d, _, t', b, o, _, h3⟩ := this
    exact ⟨_, h3⟩
  · rename_i f ds hs
    refine ⟨key _ hs (by simp) hx, .inr ?_⟩
    obtain ⟨_, _, k⟩ := seen_sound h hs (by simp) hn
    have := k.ent n
    rw [setS_same, drop_fn] at this
    simp only [ER, upd_same] at this
    obtain ⟨vs, h3, _⟩ := this
    exact ⟨f, _, h3⟩
  · rename_i t y hs
    refine ⟨key _ hs (by simp) hx, .inl ?_⟩
    obtain ⟨_, _, k⟩ := seen_sound h hs (by simp) hn
    have := k.ent n
    rw [setS_same, drop_val] at this
    simp only [ER, upd_same] at this
    have h2 := (this.cell rfl).2
    simp only [Rd] at h2
    obtain ⟨b, o, h3, _⟩ := h2
    exact ⟨_, by simpa using h3⟩
  · cases hx
end Go.Proofs.Ytlmcalffemklnaa.Rf
namespace Go.Proofs.Ytlmcalffemklnaa.Rf
variable {M : Sc} {W w w' : World} {ow ow' : Own} {tf tf' : Nat → Value} {st st1 : St} {ρ : Type} {P : Program}
theorem Rel.resFlat {n : Nat} {d : Dv} {v : Value} {κ : St → Ent → Option ρ} {r : ρ} (h : Rel M W w ow tf st) (hn : st n = .dead) (hv : VR w ow M.f d n [] v) (hx : κ st (.val d) = some r) : Res M W w tf st n v κ r :=
  ⟨_, _, hx, Deads.refl _, ow, h.handVal hn hv⟩
theorem binI_run {op : BinOp} {k : IntKind} {a b : Int} {d : Dv} (t : TypeId) (h : binI op k a b = some d) :
    ∃ v, (binOp op t (.int k a) (.int k b)).run P w = .ok v w ∧ d.1.agg = false ∧ ∀ ow bs s p, VR w ow bs d s p v := by
  cases op <;> simp only [binI, Option.some.injEq, reduceCtorEq] at h <;> subst h
  · exact ⟨_, by rw [binOp_add]; rfl, rfl, fun _ _ _ _ => VR.mk_int ..⟩
  · exact ⟨_, by rw [binOp_sub]; rfl, rfl, fun _ _ _ _ => VR.mk_int ..⟩
  · exact ⟨_, by rw [binOp_mul]; rfl, rfl, fun _ _ _ _ => VR.mk_int ..⟩
  · exact ⟨_, by rw [binOp_and]; rfl, rfl, fun _ _ _ _ => VR.mk_int ..⟩
  · exact ⟨_, by rw [binOp_or]; rfl, rfl, fun _ _ _ _ => VR.mk_int ..⟩
  · exact ⟨_, by rw [binOp_xor]; rfl, rfl, fun _ _ _ _ => VR.mk_int ..⟩
  · exact ⟨_, by rw [binOp_andNot]; rfl, rfl, fun _ _ _ _ => VR.mk_int ..⟩
  · exact ⟨_, by rw [binOp_eql]; rfl, rfl, fun _ _ _ _ => VR.mk_bool ..⟩
  · exact ⟨_, by rw [binOp_neq]; rfl, rfl, fun _ _ _ _ => VR.mk_bool ..⟩
  · exact ⟨_, by rw [binOp_lss]; rfl, rfl, fun _ _ _ _ => VR.mk_bool ..⟩
  · exact ⟨_, by rw [binOp_leq]; rfl, rfl, fun _ _ _ _ => VR.mk_bool ..⟩
  · exact ⟨_, by rw [binOp_gtr]; rfl, rfl, fun _ _ _ _ => VR.mk_bool ..⟩
  · exact ⟨_, by rw [binOp_geq]; rfl, rfl, fun _ _ _ _ => VR.mk_bool ..⟩
theorem shift_run {op : BinOp} {k yk : IntKind} {a b : Int} {κ : Dv → Option ρ} {r : ρ} (hx : shift op k a b κ = some r) :
    ∃ v d, (Op.shift op k a yk b).run P w = .ok v w ∧ κ d = some r ∧ ∀ ow bs s p, VR w ow bs d s p v := by
  unfold shift at hx
  have hx := brB_some hx
  by_cases hb : b < 0
  · simp only [hb, decide_true, reduceCtorEq] at hx
  · simp only [hb, decide_false] at hx
    unfold Op.shift
    rw [if_neg hb]
    cases op <;> simp only [reduceCtorEq] at hx
    · exact ⟨_, _, rfl, hx, fun _ _ _ _ => VR.mk_int ..⟩
    · exact ⟨_, _, rfl, hx, fun _ _ _ _ => VR.mk_int ..⟩
theorem binII_run {op : BinOp} {k k' : IntKind} {a b : Int} (t : TypeId) {κ : Dv → Option ρ} {r : ρ} (hx : binII op k k' a b κ = some r) :
    ∃ v d, (binOp op t (.int k a) (.int k' b)).run P w = .ok v w ∧ κ d = some r ∧ ∀ ow bs s p, VR w ow bs d s p v := by
  have hI : ∀ {k : IntKind}, (match binI op k a b with | some d => κ d | none => none) = some r → ∃ v d, (binOp op t (.int k a) (.int k b)).run P w = .ok v w ∧ κ d = some r ∧ ∀ ow bs s p, VR w ow bs d s p v := fun {k} hx => by
    split at hx
    · rename_i d hd
      obtain ⟨v, h1, _, h3⟩ := binI_run (P := P) (w := w) t hd
      exact ⟨v, d, h1, hx, h3⟩
    · cases hx
  unfold binII at hx
  split at hx
  · rw [binOp_shl]; exact shift_run hx
  · rw [binOp_shr]; exact shift_run hx
  · split at hx
    · rename_i hk
      have hk : k = k' := by simpa using hk
      subst hk
      split at hx
      · have hx := brB_some hx
        by_cases hb : b = 0
        · simp [hb] at hx
        · have hb' : (b == 0) = false := by simpa using hb
          rw [hb'] at hx
          refine ⟨_, _, ?_, hx, fun _ _ _ _ => VR.mk_int ..⟩
          rw [binOp_quo]; unfold Op.intDiv; rw [if_neg hb]; rfl
      · have hx := brB_some hx
        by_cases hb : b = 0
        · simp [hb] at hx
        · have hb' : (b == 0) = false := by simpa using hb
          rw [hb'] at hx
          refine ⟨_, _, ?_, hx, fun _ _ _ _ => VR.mk_int ..⟩
          rw [binOp_rem]; unfold Op.intDiv; rw [if_neg hb]; rfl
      · exact hI hx
    · cases hx
theorem both_some {a b : Option ρ} {r : ρ} (h : both a b = some r) : a = some r ∧ b = some r := by
  unfold both at h
  split at h
  · rename_i e; exact ⟨h, e ▸ h⟩
  · cases h
theorem unV_run {op : UnOp} {d e : Dv} {v : Value} {s : Nat} {p : List Step} {ow : Own} {bs : Fl} (h : unV op d = some e) (hv : VR w ow bs d s p v) :
    ∃ u, (Op.unary op v).run P w = .ok u w ∧ ∀ ow bs s p, VR w ow bs e s p u := by
  unfold unV at h
  split at h
  · rename_i b
    obtain rfl := hv.bool
    cases op <;> simp only [reduceCtorEq, Option.some.injEq] at h
    subst h
    exact ⟨_, rfl, fun _ _ _ _ => VR.mk_bool ..⟩
  · rename_i k m
    obtain rfl := hv.int
    cases op <;> simp only [reduceCtorEq, Option.some.injEq] at h
    · subst h; exact ⟨_, rfl, fun _ _ _ _ => VR.mk_int ..⟩
    · simp only [binI, Option.some.injEq] at h; subst h; exact ⟨_, rfl, fun _ _ _ _ => VR.mk_int ..⟩
  · cases h
theorem xConvert_sound {src dst : TypeId} {x : Operand} {n : Nat} {κ : St → Ent → Option ρ} {r : ρ} (h : Rel M W w ow tf st) (hn : st n = .dead) (hx : xConvert P st src dst x κ = some r) :
    ∃ v, (convert src dst (ev tf x)).run P w = .ok v w ∧ Res M W w tf st n v κ r := by
  unfold xConvert at hx
  split at hx
  · rename_i k m ho
    split at hx
    · rename_i k1 k2 h1 h2
      refine ⟨.int k2 (k2.wrap m), ?_, h.resFlat hn (VR.mk_int ..) hx⟩
      rw [opd_int h ho]
      simp [convert, run_underlying h1, run_underlying h2, Conv.intToInt]
    · cases hx
  · cases hx
/-- What a pointer to a place is. -/
theorem refOf_sound {x : Operand} {s : Nat} {p : List Step} (h : Rel M W w ow tf st) (hx : refOf st x = some (s, p)) :
    ∃ d t b o, st s = .val d ∧ walk w (tf s) p d.1 none 0 = some (t, some b, o) ∧ ev tf x = .pointer (some ⟨b, o, none⟩) ∧ p ≠ [] := by
  unfold refOf at hx
  split at hx
  · rename_i z
    split at hx
    · rename_i s' p' t' hs
      simp only [Option.some.injEq, Prod.mk.injEq] at hx
      obtain ⟨rfl, rfl⟩ := hx
      have hent := h.ent z
      rw [hs] at hent
      simp only [ER] at hent
      obtain ⟨d, h1, t, b, o, h2, h3⟩ := hent
      refine ⟨d, t, b, o, h1, h2, h3, ?_⟩
      rintro rfl
      simp only [walk, Option.some.injEq, Prod.mk.injEq, reduceCtorEq, false_and, and_false] at h2
    · rename_i f t y hs
      simp only [Option.some.injEq, Prod.mk.injEq] at hx
      obtain ⟨rfl, rfl⟩ := hx
      obtain ⟨hc, hr⟩ := (h.vr hs).cell rfl
      simp only [Rd] at hr
      obtain ⟨b, h1, _⟩ := hr
      have h1' : tf z = .pointer (some ⟨b, 0, none⟩) := by simpa using h1
      refine ⟨_, t, b, 0, hs, ?_, h1', by simp⟩
      simp only [walk, cellAt, hc, h1']
      rfl
    · cases hx
  · cases hx
/-- A pointer into a place, in hand. -/
theorem Rel.handPlace {s n : Nat} {p : List Step} {d : Dv} {t u : Ty} {b o : Nat} (h : Rel M W w ow tf st) (hs : st s = .val d) (hw : walk w (tf s) p d.1 none 0 = some (t, some b, o)) (hn : st n = .dead) :
    Hand M W w ow tf st n (.ref s p u) (.pointer (some ⟨b, o, none⟩)) := by
  have hsn : s ≠ n := by rintro rfl; rw [hs] at hn; cases hn
  have hown : (st n).owns = false := by rw [hn]; rfl
  refine h.hand hn (by simpa [Ent.names] using hsn) ?_
  simp only [ER, upd_same]
  exact ⟨d, by rw [setS_ne st _ hsn, hown]; exact hs, t, b, o, by rw [upd_ne _ _ hsn]; exact hw, rfl⟩
def offOf : Ty → Nat → Nat
  | .pair a b, n + 1 => a.sz + offOf b n
  | _, _ => 0
/-- A field's place. -/
theorem walk_field {v : Value} : ∀ (n : Nat) {t : Ty} {x : t.den} {d : Dv} (b : Option Nat) (o : Nat), get (fpath n) t x = some d → walk w v (fpath n) t b o = some (d.1, b, o + offOf t n)
  | 0, t, x, d, b, o, h => by
    cases t <;> simp only [fpath, get, reduceCtorEq] at h
    simp only [Option.some.injEq] at h
    subst h
    simp [fpath, walk, offOf]
  | n + 1, t, x, d, b, o, h => by
    cases t <;> simp only [fpath, get, reduceCtorEq] at h
    simp only [fpath, walk, offOf]
    rw [walk_field n b _ h]; rw [Nat.add_assoc]
theorem layF_field : ∀ (fs : List Field) (m : Nat) (t : Ty) (n : Nat) {x : t.den} {d : Dv}, layF P fs m t = true → get (fpath n) t x = some d → ∃ f, fs[n]? = some f ∧ f.offset = m + offOf t n ∧ fits P f.type d.1 = true
  | [], m, t, n, x, d, hl, h => by
    cases t <;> simp only [layF, reduceCtorEq] at hl
    · cases n <;> simp only [fpath, get, reduceCtorEq] at h
    all_goals cases hl
  | f :: fs, m, t, n, x, d, hl, h => by
    cases t with
    | pair a b =>
      simp only [layF, Bool.and_eq_true] at hl
      cases n with
      | zero =>
        simp only [fpath, get, Option.some.injEq] at h
        subst h
        exact ⟨f, rfl, by have := Nat.eq_of_beq_eq_true hl.1.1; simp [offOf, this], hl.1.2⟩
      | succ n =>
        simp only [fpath, get] at h
        obtain ⟨f', h1, h2, h3⟩ := layF_field fs _ b n hl.2 h
        exact ⟨f', by simpa using h1, by rw [h2]; simp only [offOf]; omega, h3⟩
    | _ => simp only [layF, Bool.false_eq_true] at hl
theorem layB_field {t : TypeId} {ty : Ty} {n : Nat} {x : ty.den} {d : Dv} (hl : layB P t ty = true) (h : get (fpath n) ty x = some d) :
    ∃ fs f, P.underlying t = some (.struct fs) ∧ fs[n]? = some f ∧ f.offset = offOf ty n ∧ fits P f.type d.1 = true := by
  unfold layB at hl
  split at hl
  · rename_i fs hu
    obtain ⟨f, h1, h2, h3⟩ := layF_field fs.toList 0 ty n hl h
    exact ⟨fs, f, hu, by simpa using h1, by simpa using h2, h3⟩
  · cases hl
theorem fits_spec {t : TypeId} {ty : Ty} (h : fits P t ty = true) : isAggB P t = ty.agg ∧ P.cellsOf t = ty.sz := by
  simp only [fits, Bool.and_eq_true] at h
  exact ⟨by simpa using h.1.2.1, Nat.eq_of_beq_eq_true h.1.2.2⟩
theorem fits_pos {t : TypeId} {ty : Ty} (h : fits P t ty = true) : ty.sz ≠ 0 := by
  simp only [fits, Bool.and_eq_true, Nat.blt_eq] at h
  omega
theorem fits_isAgg {t : TypeId} {ty : Ty} (h : fits P t ty = true) : (isAgg t).run P w = .ok ty.agg w := by
  have h1 := (fits_spec h).1
  simp only [fits, Bool.and_eq_true] at h
  obtain ⟨d, hd⟩ := Option.isSome_iff_exists.1 h.1.1
  unfold isAggB at h1
  rw [hd] at h1
  rw [← h1]
  simp only [isAgg, Sem.run_bind, run_underlying hd, Result.andThen_ok]
  cases d <;> rfl
theorem run_sizeOf_some {t : TypeId} {i : TypeInfo} (h : P.info? t = some i) : (sizeOf t).run P w = .ok i.size w := by
  simp [sizeOf, typeInfo, h]
theorem run_sizeOf {t : TypeId} {n : Nat} (h : P.cellsOf t = n) (hn : n ≠ 0) : (sizeOf t).run P w = .ok n w := by
  unfold Program.cellsOf at h
  cases hi : P.info? t with
  | none => rw [hi] at h; simp at h; exact absurd h.symm hn
  | some i => rw [hi] at h; simp at h; rw [run_sizeOf_some hi, h]
theorem run_fieldAt {t : TypeId} {fs : Array Field} {f : Field} {n b o : Nat} (hu : P.underlying t = some (.struct fs)) (hf : fs[n]? = some f) (hz : P.cellsOf f.type ≠ 0) :
    (Instr.fieldAt t (.pointer (some ⟨b, o, none⟩)) n).run P w = .ok (.pointer (some ⟨b, o + f.offset, none⟩)) w := by
  simp only [Instr.fieldAt, Sem.run_bind, run_underlying hu, Result.andThen_ok, hf, Instr.sureAddr, Sem.run_pure, fieldPlace, run_sizeOf rfl hz, if_neg hz]
  simp only [Addr.add]
  split
  · rename_i h0; simp [h0]
  · rfl
theorem xFieldAddr_sound {t : TypeId} {x : Operand} {f n : Nat} {κ : St → Ent → Option ρ} {r : ρ} (h : Rel M W w ow tf st) (hn : st n = .dead) (hx : xFieldAddr P st t x f κ = some r) :
    ∃ v, (Instr.fieldAt t (ev tf x) f).run P w = .ok v w ∧ Res M W w tf st n v κ r := by
  unfold xFieldAddr at hx
  split at hx
  · rename_i s p hr
    obtain ⟨d, t', b, o, hs, hw, he, hp⟩ := refOf_sound h hr
    split at hx
    · rename_i base hb
      split at hx
      · rename_i d' hl hg
        split at hx
        · rename_i hz
          obtain ⟨fs, fl, hu, hf, ho, hfit⟩ := layB_field hl hg
          obtain ⟨_, hsz⟩ := fits_spec hfit
          have hz' : 0 < d'.1.sz := by simpa [Nat.blt_eq] using hz
          obtain ⟨T, x0, g1, g2⟩ := getP_val hb
          rw [hs] at g1; simp only [Ent.val.injEq] at g1; subst g1
          obtain ⟨y, k1, _⟩ := walk_read p (b := none) (h.vr hs).2.2 hw
          rw [g2] at k1
          simp only [Option.some.injEq] at k1
          subst k1
          have hwalk : walk w (tf s) (p ++ fpath f) T none 0 = some (d'.1, some b, o + offOf t' f) := by
            rw [walk_append, hw]; exact walk_field f (some b) o hg
          refine ⟨_, by rw [he]; exact run_fieldAt hu hf (by omega), _, _, hx, Deads.refl _, ow, ?_⟩
          rw [ho]
          exact h.handPlace hs hwalk hn
        · cases hx
      · cases hx
    · cases hx
  · split at hx
    · rename_i ty y ho
      split at hx
      · rename_i d' hl hg
        split at hx
        · rename_i hz
          obtain ⟨fs, fl, hu, hf, hof, hfit⟩ := layB_field hl hg
          obtain ⟨_, hsz⟩ := fits_spec hfit
          simp only [Bool.and_eq_true, Bool.not_eq_true'] at hz
          have hz' : 0 < d'.1.sz := by simpa [Nat.blt_eq] using hz.1
          obtain ⟨s, p, hv⟩ := opd_val h ho
          obtain ⟨hc, hr⟩ := hv.cell rfl
          simp only [Rd] at hr
          obtain ⟨b, o, h1, h2, hcl, h3, h4⟩ := hr
          have h1' : ev tf x = .pointer (some ⟨b, o, none⟩) := by simpa using h1
          have hw := walk_field (w := w) (v := .nilFunc) f (some b) o hg
          obtain ⟨y', k1, k2⟩ := walk_read (fpath f) (b := some b) h4 hw
          obtain ⟨dt, dx⟩ := d'
          rw [hg] at k1
          simp only [Option.some.injEq, Sigma.mk.injEq, heq_eq_eq, true_and] at k1
          subst k1
          refine ⟨_, by rw [h1']; exact run_fieldAt hu hf (by omega), h.resFlat hn ?_ hx⟩
          refine VR.of_cell (g := fun _ => some (.pointer (some ⟨b, o + fl.offset, none⟩))) (o := 0) rfl ?_ rfl
          simp only [Rd]
          refine ⟨b, _, rfl, h2, hcl, h3, ?_⟩
          rw [hof]
          exact Rd.flat (Nat.le_refl _) _ hz.2 (fun _ _ => rfl) (fun b _ hb => ⟨hb, rfl⟩) k2
        · cases hx
      · cases hx
    · cases hx
end Go.Proofs.Ytlmcalffemklnaa.Rf
namespace Go.Proofs.Ytlmcalffemklnaa.Rf
variable {M : Sc} {W w w' : World} {ow ow' : Own} {tf tf' : Nat → Value} {st st1 : St} {ρ : Type} {P : Program}
/-- Every cell that is read is there. -/
theorem Rd.some {w : World} {ow : Own} {bs : Fl} : (t : Ty) → {s : Nat} → {p : List Step} → {g : Nat → Option Value} → {o : Nat} → {x : t.den} → Rd w ow bs t s p g o x →
    ∀ i, i < t.sz → ∃ v : Value, g (o + i) = .some v ∧ v.oneCell' = true
  | .int k, _, _, g, o, x, h, i, hi => by
    have : i = 0 := by simp only [Ty.sz] at hi; omega
    subst this; simp only [Rd] at h; exact ⟨_, h, rfl⟩
  | .bool, _, _, g, o, x, h, i, hi => by
    have : i = 0 := by simp only [Ty.sz] at hi; omega
    subst this; simp only [Rd] at h; exact ⟨_, h, rfl⟩
  | .str, _, _, g, o, x, h, i, hi => by
    have : i = 0 := by simp only [Ty.sz] at hi; omega
    subst this; simp only [Rd] at h; exact ⟨_, h, rfl⟩
  | .nils, _, _, g, o, x, h, i, hi => by
    have : i = 0 := by simp only [Ty.sz] at hi; omega
    subst this; simp only [Rd] at h; obtain ⟨a, h⟩ := h; exact ⟨_, h, rfl⟩
  | .nilp, _, _, g, o, x, h, i, hi => by
    have : i = 0 := by simp only [Ty.sz] at hi; omega
    subst this; simp only [Rd] at h; exact ⟨_, h, rfl⟩
  | .hole, _, _, g, o, x, h, i, hi => by
    have : i = 0 := by simp only [Ty.sz] at hi; omega
    subst this; simp only [Rd] at h; obtain ⟨v, h, h1⟩ := h; exact ⟨v, h, h1⟩
  | .unit, _, _, g, o, x, h, i, hi => by simp [Ty.sz] at hi
  | .pair a b, _, _, g, o, x, h, i, hi => by
    simp only [Rd] at h
    simp only [Ty.sz] at hi
    by_cases hlt : i < a.sz
    · exact Rd.some a h.1 i hlt
    · obtain ⟨v, h1, h2⟩ := Rd.some b h.2 (i - a.sz) (by omega)
      exact ⟨v, by rw [← h1]; congr 1; omega, h2⟩
  | .arr n t, _, _, g, o, x, h, i, hi => by
    simp only [Rd] at h
    simp only [Ty.sz] at hi
    have hz : 0 < t.sz := by
      rcases Nat.eq_zero_or_pos t.sz with e | e
      · rw [e] at hi; simp at hi
      · exact e
    have hq : i / t.sz < n := (Nat.div_lt_iff_lt_mul hz).2 hi
    obtain ⟨v, h1, h2⟩ := Rd.some t (h.2 _ hq) (i % t.sz) (Nat.mod_lt _ hz)
    refine ⟨v, ?_, h2⟩
    rw [← h1]; congr 1
    rw [Nat.add_assoc, Nat.div_mul_self_eq_mod_sub_self]
    have := Nat.div_add_mod i t.sz
    have := Nat.mod_lt i hz
    have := Nat.mod_le i t.sz
    omega
  | .sptr t, _, _, g, o, x, h, i, hi => by
    have : i = 0 := by simp only [Ty.sz] at hi; omega
    subst this; simp only [Rd] at h; obtain ⟨b, o1, h, _⟩ := h; exact ⟨_, h, rfl⟩
  | .optr f t, _, _, g, o, x, h, i, hi => by
    have : i = 0 := by simp only [Ty.sz] at hi; omega
    subst this; simp only [Rd] at h; obtain ⟨b, h, _⟩ := h; exact ⟨_, h, rfl⟩
  | .sl f t, _, _, g, o, x, h, i, hi => by
    have : i = 0 := by simp only [Ty.sz] at hi; omega
    subst this; simp only [Rd] at h; obtain ⟨a, l, c, h, _⟩ := h; exact ⟨_, h, rfl⟩
  | .osl f t, _, _, g, o, x, h, i, hi => by
    have : i = 0 := by simp only [Ty.sz] at hi; omega
    subst this; simp only [Rd] at h; obtain ⟨a, l, c, h, _⟩ := h; exact ⟨_, h, rfl⟩
/-- Cells read together are a value. -/
theorem VR.of_cells {w : World} {ow : Own} {bs : Fl} {t : Ty} {s : Nat} {p : List Step} {g : Nat → Option Value} {o : Nat} {x : t.den} {v : Value}
    (h : Rd w ow bs t s p g o x) (ha : t.agg = true → ∃ cs : Array Value, v = .agg cs ∧ cs.size = t.sz ∧ ∀ i, i < t.sz → cs[i]? = g (o + i)) (hs : t.agg = false → g o = .some v) : VR w ow bs ⟨t, x⟩ s p v := by
  cases hagg : t.agg with
  | false => exact VR.of_cell hagg h (hs hagg)
  | true =>
    obtain ⟨cs, rfl, h1, h2⟩ := ha hagg
    refine ⟨⟨fun _ => ⟨cs, rfl⟩, fun _ => hagg⟩, h1, ?_⟩
    exact Rd.frame (Nat.le_refl _) t (fun i hi => by simp only [Nat.zero_add]; exact h2 i hi) (fun b _ hb => ⟨hb, rfl⟩) (fun b q _ hb => ⟨hb, rfl⟩) h
/-- The value that cells make. -/
def Reads (v : Value) (t : Ty) (g : Nat → Option Value) (o : Nat) : Prop := (t.agg = true ↔ ∃ cs, v = .agg cs) ∧ v.cells.size = t.sz ∧ ∀ i, i < t.sz → v.cells[i]? = g (o + i)
theorem VR.of_reads {w : World} {ow : Own} {bs : Fl} {t : Ty} {s : Nat} {p : List Step} {g : Nat → Option Value} {o : Nat} {x : t.den} {v : Value} (h : Rd w ow bs t s p g o x) (hr : Reads v t g o) : VR w ow bs ⟨t, x⟩ s p v :=
  ⟨hr.1, hr.2.1, Rd.frame (Nat.le_refl _) t (fun i hi => by simp only [Nat.zero_add]; exact hr.2.2 i hi) (fun b _ hb => ⟨hb, rfl⟩) (fun b q _ hb => ⟨hb, rfl⟩) h⟩
theorem Reads.cell {v : Value} {t : Ty} {g : Nat → Option Value} {o : Nat} (h : Reads v t g o) (ha : t.agg = false) (hs : t.sz = 1) : g o = .some v := by
  have hc : v.cells = #[v] := by
    cases v <;> first | rfl | (have := h.1.2 ⟨_, rfl⟩; rw [ha] at this; cases this)
  have := h.2.2 0 (by omega)
  rw [hc] at this
  simpa using this.symm
/-- A variable read. -/
theorem run_loadVar {t : TypeId} {ty : Ty} {ow : Own} {bs : Fl} {s : Nat} {p : List Step} {b o : Nat} {x : ty.den} (hf : fits P t ty = true) (h : Rd w ow bs ty s p (mem w b) o x) :
    ∃ v, (loadVar t ⟨b, o, none⟩).run P w = .ok v w ∧ Reads v ty (mem w b) o := by
  have hadd : ∀ j, (⟨b, o, none⟩ : Addr).add j = ⟨b, o + j, none⟩ := fun j => by unfold Addr.add; split <;> simp_all
  cases hagg : ty.agg with
  | false =>
    have h1 : ty.sz = 1 := by cases ty <;> simp only [Ty.agg, reduceCtorEq, Bool.true_eq_false] at hagg <;> rfl
    obtain ⟨v, hv, hone⟩ := Rd.some ty h 0 (by omega)
    have hna : ∀ cs, v ≠ .agg cs := by rintro cs rfl; cases hone
    have hc : v.cells = #[v] := by
      cases v <;> first | rfl | exact absurd rfl (hna _)
    refine ⟨v, ?_, ⟨fun e => (by rw [hagg] at e; cases e), fun hx => (by obtain ⟨cs, e⟩ := hx; exact absurd e (hna cs))⟩, by rw [hc, h1]; rfl, fun i hi => ?_⟩
    · simp only [loadVar, Sem.run_bind, Sem.run_pure, Result.andThen_ok, fits_isAgg hf, hagg]
      simp only [Bool.false_eq_true, if_false, run_load]
      have : w.cell? ⟨b, o, none⟩ = .some v := hv
      rw [this]
    · have : i = 0 := by omega
      subst this
      rw [hc, hv]; rfl
  | true =>
    have hsz := (fits_spec hf).2
    let f : Nat → Value := fun j => (mem w b (o + j)).getD undef
    have hc : ∀ j, j < ty.sz → w.cell? ((⟨b, o, none⟩ : Addr).add j) = .some (f j) := fun j hj => by
      obtain ⟨v, hv, _⟩ := Rd.some ty h j hj
      rw [hadd]
      show mem w b (o + j) = _
      simp only [f, hv, Option.getD_some]
    have hr := run_loadCells (P := P) w ⟨b, o, none⟩ ty.sz f hc
    refine ⟨.agg ((List.range ty.sz).map f).toArray, ?_, ⟨fun _ => ⟨_, rfl⟩, fun _ => hagg⟩, by simp [Value.cells], fun i hi => ?_⟩
    · simp only [loadVar, Sem.run_bind, Sem.run_pure, Result.andThen_ok, fits_isAgg hf, hagg]
      simp only [if_true, Sem.run_bind, run_sizeOf hsz (fits_pos hf), Result.andThen_ok, hr, Sem.run_pure]
    · have := hc i hi
      rw [hadd] at this
      have e : mem w b (o + i) = .some (f i) := this
      rw [e]
      simp [Value.cells, hi]
theorem run_loadAt {t : TypeId} {a : Addr} {v : Value} (h : (loadVar t a).run P w = .ok v w) : (Instr.loadAt t (.pointer (.some a))).run P w = .ok v w := by
  simp only [Instr.loadAt, Instr.sureAddr, Sem.run_bind, Sem.run_pure, Result.andThen_ok, h]
theorem getP_walk {s : Nat} {p : List Step} {d d' : Dv} {t : Ty} {b : Option Nat} {o : Nat} (h : Rel M W w ow tf st) (hs : st s = .val d) (hw : walk w (tf s) p d.1 none 0 = .some (t, b, o)) (hg : getP st s p = .some d') :
    d'.1 = t ∧ Rd w ow M.f d'.1 s p (cellAt w (tf s) b) o d'.2 := by
  obtain ⟨T, x0, g1, g2⟩ := getP_val hg
  rw [hs] at g1; simp only [Ent.val.injEq] at g1; subst g1
  obtain ⟨y, k1, k2⟩ := walk_read p (b := none) (h.vr hs).2.2 hw
  obtain ⟨dt, dx⟩ := d'
  rw [g2] at k1
  simp only [Option.some.injEq, Sigma.mk.injEq] at k1
  obtain ⟨rfl, k1⟩ := k1
  obtain rfl := eq_of_heq k1
  exact ⟨rfl, k2⟩
theorem xLoad_sound {t : TypeId} {a : Operand} {n : Nat} {κ : St → Ent → Option ρ} {r : ρ} (h : Rel M W w ow tf st) (hn : st n = .dead) (hx : xLoad P st t a κ = .some r) :
    ∃ v, (Instr.loadAt t (ev tf a)).run P w = .ok v w ∧ Res M W w tf st n v κ r := by
  unfold xLoad at hx
  split at hx
  · rename_i s p hr
    obtain ⟨d, t', b, o, hs, hw, he, hp⟩ := refOf_sound h hr
    have hsn : s ≠ n := by rintro rfl; rw [hs] at hn; cases hn
    have hown : (st n).owns = false := by rw [hn]; rfl
    split at hx
    · rename_i ty x hg
      obtain ⟨rfl, hrd⟩ := getP_walk h hs hw hg
      dsimp only at hrd hw
      split at hx
      · rename_i hf
        obtain ⟨v, hrun, hreads⟩ := run_loadVar (P := P) hf (b := b) hrd
        refine ⟨v, by rw [he]; exact run_loadAt hrun, ?_⟩
        split at hx
        · rename_i f u x1
          have hv := hreads.cell rfl rfl
          refine ⟨_, _, hx, Deads.refl _, ow, h.hand hn (by simpa [Ent.names] using hsn) ?_⟩
          simp only [ER, upd_same]
          exact ⟨d, by rw [setS_ne st _ hsn, hown]; exact hs, f, u, .some b, o, by rw [upd_ne _ _ hsn]; exact hw, hv⟩
        · rename_i f u x1
          have hv := hreads.cell rfl rfl
          simp only [Rd] at hrd
          obtain ⟨b1, h1, h2, _⟩ := hrd
          have hv' : v = .pointer (.some ⟨b1, 0, none⟩) := by
            have : mem w b o = .some (.pointer (.some ⟨b1, 0, none⟩)) := h1
            rw [hv] at this; simpa using this
          refine ⟨_, _, hx, Deads.refl _, ow, ?_⟩
          rw [hv']
          refine h.handPlace hs (t := u) ?_ hn
          rw [walk_append, hw]
          simp only [Option.bind_some, walk]
          rw [h1]; rfl
        · rename_i hn1 hn2
          split at hx
          · split at hx
            · rename_i d' st1 hfz
              obtain ⟨ow', hrel, hd, b', hb, hrd'⟩ := h.frzPlace (T := d.1) (x := d.2) hfz hp hs hw hn
              dsimp only at hd hb hrd'
              simp only [Option.some.injEq] at hb
              subst hb
              obtain ⟨_, _, hg', hd', hc', hfl, _⟩ := frzP_spec hfz
              rw [hg] at hg'
              simp only [Option.some.injEq, Sigma.mk.injEq] at hg'
              obtain ⟨rfl, hg'⟩ := hg'
              refine ⟨_, _, hx, Deads.frz hfz, ow', hrel.handVal (Deads.frz hfz n hn) ?_⟩
              refine VR.any hfl (s := s) (p := p) (VR.of_reads hrd' ⟨?_, ?_, ?_⟩)
              · rw [← agg_castT hc']; exact hreads.1
              · rw [← sz_castT hc']; exact hreads.2.1
              · rw [← sz_castT hc']; exact hreads.2.2
            · cases hx
          · rename_i hfl
            exact h.resFlat hn (VR.any (d := ⟨ty, x⟩) hfl (VR.of_reads hrd hreads)) hx
      · cases hx
    · cases hx
  · split at hx
    · rename_i ty y ho
      split at hx
      · rename_i hf
        simp only [Bool.and_eq_true, Bool.not_eq_true'] at hf
        obtain ⟨s, p, hv⟩ := opd_val h ho
        obtain ⟨hc, hr⟩ := hv.cell rfl
        simp only [Rd] at hr
        obtain ⟨b, o, h1, h2, _, h3, h4⟩ := hr
        have h1' : ev tf a = .pointer (.some ⟨b, o, none⟩) := by simpa using h1
        obtain ⟨v, hrun, hreads⟩ := run_loadVar (P := P) hf.1 h4
        exact ⟨v, by rw [h1']; exact run_loadAt hrun, h.resFlat hn (VR.any (d := ⟨ty, y⟩) hf.2 (VR.of_reads h4 hreads)) hx⟩
      · cases hx
    · cases hx
end Go.Proofs.Ytlmcalffemklnaa.Rf
namespace Go.Proofs.Ytlmcalffemklnaa.Rf
variable {M : Sc} {W w w' : World} {ow ow' : Own} {tf tf' : Nat → Value} {st st1 : St} {ρ : Type} {P : Program}
theorem walk_inside {v : Value} : ∀ (n : Nat) {t : Ty} {x : t.den} {d : Dv}, get (fpath n) t x = some d → offOf t n + d.1.sz ≤ t.sz
  | 0, t, x, d, h => by
    cases t <;> simp only [fpath, get, reduceCtorEq] at h
    simp only [Option.some.injEq] at h
    subst h
    simp [offOf, Ty.sz]
  | n + 1, t, x, d, h => by
    cases t <;> simp only [fpath, get, reduceCtorEq] at h
    have := walk_inside (v := v) n h
    simp only [offOf, Ty.sz]; omega
theorem run_part {t : TypeId} {ty : Ty} {cs : Array Value} {off : Nat} {ow : Own} {bs : Fl} {s : Nat} {p : List Step} {x : ty.den} (hf : fits P t ty = true) (h : Rd w ow bs ty s p (fun i => cs[i]?) off x) (hin : off + ty.sz ≤ cs.size) :
    ∃ v, (part t cs off).run P w = .ok v w ∧ Reads v ty (fun i => cs[i]?) off := by
  cases hagg : ty.agg with
  | false =>
    have h1 : ty.sz = 1 := by cases ty <;> simp only [Ty.agg, reduceCtorEq, Bool.true_eq_false] at hagg <;> rfl
    obtain ⟨v, hv, hone⟩ := Rd.some ty h 0 (by omega)
    have hna : ∀ cs, v ≠ .agg cs := by rintro cs rfl; cases hone
    have hc : v.cells = #[v] := by
      cases v <;> first | rfl | exact absurd rfl (hna _)
    have hv' : cs[off]? = .some v := hv
    refine ⟨v, ?_, ⟨fun e => (by rw [hagg] at e; cases e), fun hx => (by obtain ⟨cs, e⟩ := hx; exact absurd e (hna cs))⟩, by rw [hc, h1]; rfl, fun i hi => ?_⟩
    · simp only [part, Sem.run_bind, fits_isAgg hf, hagg, Result.andThen_ok, Bool.false_eq_true, if_false, hv', Sem.run_pure]
    · have : i = 0 := by omega
      subst this
      rw [hc]; simpa using hv'.symm
  | true =>
    have hsz := (fits_spec hf).2
    refine ⟨.agg (cs.extract off (off + ty.sz)), ?_, ⟨fun _ => ⟨_, rfl⟩, fun _ => hagg⟩, ?_, fun i hi => ?_⟩
    · simp only [part, Sem.run_bind, fits_isAgg hf, hagg, Result.andThen_ok, if_true, run_sizeOf hsz (fits_pos hf), Sem.run_pure]
    · simp [Value.cells]; omega
    · simp only [Value.cells]
      rw [Array.getElem?_extract]
      rw [if_pos (by omega)]
theorem VR.agg_cells {d : Dv} {s : Nat} {p : List Step} {v : Value} {bs : Fl} (ha : d.1.agg = true) (h : VR w ow bs d s p v) : ∃ cs, v = .agg cs ∧ cs.size = d.1.sz ∧ Rd w ow bs d.1 s p (fun i => cs[i]?) 0 d.2 := by
  obtain ⟨cs, rfl⟩ := h.1.1 ha
  exact ⟨cs, rfl, h.2.1, h.2.2⟩
theorem get_pair {n : Nat} {t : Ty} {x : t.den} {d : Dv} (h : get (fpath n) t x = some d) : t.agg = true := by
  cases n <;> cases t <;> simp only [fpath, get, reduceCtorEq] at h <;> rfl
theorem xField_sound {t : TypeId} {x : Operand} {f n : Nat} {κ : St → Ent → Option ρ} {r : ρ} (h : Rel M W w ow tf st) (hn : st n = .dead) (hx : xField P st t x f κ = some r) :
    ∃ v, (Instr.field t (ev tf x) f).run P w = .ok v w ∧ Res M W w tf st n v κ r := by
  unfold xField at hx
  split at hx
  · rename_i ty y ho
    split at hx
    · rename_i d hl hg
      split at hx
      · rename_i hfl
        obtain ⟨fs, fl, hu, hf, hof, hfit⟩ := layB_field hl hg
        obtain ⟨s, p, hv⟩ := opd_val h ho
        obtain ⟨cs, he, hsz, hrd⟩ := hv.agg_cells (get_pair hg)
        have hw := walk_field (w := w) (v := .agg cs) f none 0 hg
        obtain ⟨y', k1, k2⟩ := walk_read (fpath f) (b := none) (v := .agg cs) hrd hw
        obtain ⟨dt, dx⟩ := d
        rw [hg] at k1
        simp only [Option.some.injEq, Sigma.mk.injEq, heq_eq_eq, true_and] at k1
        subst k1
        have k2' : Rd w ow M.f dt s (p ++ fpath f) (fun i => cs[i]?) (offOf ty f) dx := by
          have := k2; simp only [Nat.zero_add] at this; exact this
        have hin := walk_inside (v := .agg cs) f hg
        obtain ⟨v, hr1, hr2⟩ := run_part (P := P) hfit k2' (by have hin' : offOf ty f + dt.sz ≤ ty.sz := hin; have hsz' : cs.size = ty.sz := hsz; omega)
        refine ⟨v, ?_, h.resFlat hn (VR.any (d := ⟨dt, dx⟩) hfl (VR.of_reads k2' hr2)) hx⟩
        rw [he]
        simp only [Instr.field, Sem.run_bind, run_underlying hu, Result.andThen_ok, hf, asAgg, Sem.run_pure, hof, hr1]
      · cases hx
    · cases hx
  · cases hx
theorem inB_spec {i : Int} {n : Nat} (h : inB i n = true) : 0 ≤ i ∧ i < n ∧ i.toNat < n := by
  simp only [inB, Bool.and_eq_true, decide_eq_true_eq] at h
  exact ⟨h.1, h.2, by omega⟩
theorem isSl_spec {t : TypeId} {u : Ty} {e : TypeId} (h : isSl P t u = some e) : P.underlying t = some (.slice e) ∧ P.cellsOf e = u.sz ∧ u.sz ≠ 0 := by
  unfold isSl at h
  split at h
  · rename_i e' hu
    split at h
    · rename_i hb
      simp only [Option.some.injEq] at h
      subst h
      simp only [Bool.and_eq_true, Nat.blt_eq] at hb
      exact ⟨hu, Nat.eq_of_beq_eq_true hb.1, by omega⟩
    · cases h
  · cases h
theorem isArr_spec {t : TypeId} {m : Nat} {u : Ty} (h : isArr P t m u = true) : ∃ e, P.underlying t = some (.array m e) ∧ fits P e u = true := by
  unfold isArr at h
  split at h
  · rename_i m' e hu
    simp only [Bool.and_eq_true] at h
    have := Nat.eq_of_beq_eq_true h.1
    subst this
    exact ⟨e, hu, h.2⟩
  · cases h
theorem add_off (b o j : Nat) : (⟨b, o, none⟩ : Addr).add j = ⟨b, o + j, none⟩ := by unfold Addr.add; split <;> simp_all
theorem run_indexSl {t e : TypeId} {z b o len cap : Nat} {k : IntKind} {i : Int} (hu : P.underlying t = some (.slice e)) (hz : P.cellsOf e = z) (hz0 : z ≠ 0) (h0 : 0 ≤ i) (h1 : i < len) :
    (Instr.indexAt t (.slice (some ⟨b, o, none⟩) len cap) (.int k i)).run P w = .ok (.pointer (some ⟨b, o + i.toNat * z, none⟩)) w := by
  simp only [Instr.indexAt, asIntOf, Sem.run_bind, Sem.run_pure, Result.andThen_ok, run_underlying hu]
  rw [if_pos ⟨h0, h1⟩]
  simp only [Sem.run_bind, run_sizeOf hz hz0, Result.andThen_ok, Sem.run_pure, add_off]
theorem run_indexArr {t e : TypeId} {z m b o : Nat} {k : IntKind} {i : Int} (hu : P.underlying t = some (.array m e)) (hz : P.cellsOf e = z) (hz0 : z ≠ 0) (h0 : 0 ≤ i) (h1 : i < m) :
    (Instr.indexAt t (.pointer (some ⟨b, o, none⟩)) (.int k i)).run P w = .ok (.pointer (some ⟨b, o + i.toNat * z, none⟩)) w := by
  simp only [Instr.indexAt, asIntOf, Sem.run_bind, Sem.run_pure, Result.andThen_ok, run_underlying hu, Instr.sureAddr]
  rw [if_pos ⟨h0, h1⟩]
  simp only [Sem.run_bind, run_sizeOf hz hz0, Result.andThen_ok, Sem.run_pure, add_off]
theorem brB_true {b : Bool} {f : Bool → Option ρ} {r : ρ} (h : brB b f = some r) (hf : f false = none) : b = true ∧ f true = some r := by
  cases b
  · rw [show brB false f = f false from rfl, hf] at h; cases h
  · exact ⟨rfl, h⟩
theorem Rd.relab {w : World} {ow : Own} {bs : Fl} {t : Ty} (hf : t.hasOwn = false) {s s' : Nat} {p p' : List Step} {g : Nat → Option Value} {o : Nat} {x : t.den} (h : Rd w ow bs t s p g o x) : Rd w ow bs t s' p' g o x :=
  Rd.flat (Nat.le_refl _) t hf (fun _ _ => rfl) (fun b _ hb => ⟨hb, rfl⟩) h
theorem VR.sptr {b o : Nat} {u : Ty} {y : u.den} {s n : Nat} {p : List Step} {bs : Fl} (hf : u.hasOwn = false) (hb : ow b = none) (hcl : bs.at false b) (hlt : b < w.heap.size) (h : Rd w ow bs u s p (mem w b) o y) : VR w ow bs ⟨.sptr u, y⟩ n [] (.pointer (some ⟨b, o, none⟩)) := by
  refine VR.of_cell (g := fun _ => some (.pointer (some ⟨b, o, none⟩))) (o := 0) rfl ?_ rfl
  simp only [Rd]
  exact ⟨b, o, rfl, hb, hcl, hlt, Rd.relab hf h⟩
theorem idxV_sound {t : TypeId} {x : Operand} {k : IntKind} {i : Int} {n : Nat} {κ : St → Ent → Option ρ} {r : ρ} (h : Rel M W w ow tf st) (hn : st n = .dead) (hx : idxV P st t (opd st x) (slotOf x) i κ = some r) :
    ∃ v, (Instr.indexAt t (ev tf x) (.int k i)).run P w = .ok v w ∧ Res M W w tf st n v κ r := by
  unfold idxV at hx
  split at hx
  · rename_i f u l ho
    split at hx
    · rename_i e hs hfl
      obtain ⟨hu, hz, hz0⟩ := isSl_spec hs
      obtain ⟨hb, hx⟩ := brB_true hx rfl
      obtain ⟨h0, h1, h2⟩ := inB_spec hb
      obtain ⟨s, p, hv⟩ := opd_val h ho
      obtain ⟨hc, hr⟩ := hv.cell rfl
      simp only [Rd] at hr
      obtain ⟨a, len, cap, e1, e2, e3, e4⟩ := hr
      obtain ⟨b, o, rfl, hob, hcl, hlt, hi⟩ := e4 (by omega)
      have he : ev tf x = .slice (some ⟨b, o, none⟩) len cap := by simpa using e1
      refine ⟨_, by rw [he]; exact run_indexSl hu hz hz0 h0 (by omega), h.resFlat hn ?_ hx⟩
      exact VR.sptr hfl hob (M.f.mono (f := f) (by cases f <;> rfl) hcl) hlt (hi i.toNat (by omega))
    · cases hx
  · rename_i f u l ho
    split at hx
    · rename_i e s hs hsl
      obtain ⟨hu, hz, hz0⟩ := isSl_spec hs
      obtain ⟨hb, hx⟩ := brB_true hx rfl
      obtain ⟨h0, h1, h2⟩ := inB_spec hb
      have hxs : x = .tmp s := by cases x <;> simp only [slotOf, reduceCtorEq, Option.some.injEq] at hsl; rw [hsl]
      subst hxs
      have hst : st s = .val ⟨.osl f u, l⟩ := ho
      obtain ⟨hc, hr⟩ := (h.vr hst).cell rfl
      simp only [Rd] at hr
      obtain ⟨a, len, cap, e1, e2, e3, e4⟩ := hr
      obtain ⟨b, o, rfl, hob, _, _, hi⟩ := e4 (by omega)
      have he : tf s = .slice (some ⟨b, o, none⟩) len cap := by simpa using e1
      refine ⟨_, by show (Instr.indexAt t (tf s) _).run P w = _; rw [he]; exact run_indexSl hu hz hz0 h0 (by omega), _, _, hx, Deads.refl _, ow, h.handPlace hst (t := u) ?_ hn⟩
      simp only [walk, cellAt, hc, he]
      show (if i.toNat < len then _ else _) = _
      rw [if_pos (by omega)]
    · cases hx
  · rename_i s p u0 ho
    split at hx
    · rename_i f u l hg
      split at hx
      · rename_i e hs
        obtain ⟨hu, hz, hz0⟩ := isSl_spec hs
        obtain ⟨hb, hx⟩ := brB_true hx rfl
        obtain ⟨h0, h1, h2⟩ := inB_spec hb
        have hxs : ∃ z, x = .tmp z := by
          cases x with
          | tmp z => exact ⟨z, rfl⟩
          | const v => simp only [opd] at ho; rcases cst_cases ho with e | ⟨d, e, _⟩ <;> cases e
          | global g => cases ho
          | func f => cases ho
        obtain ⟨z, rfl⟩ := hxs
        have hent := h.ent z
        rw [show st z = .al s p u0 from ho] at hent
        simp only [ER] at hent
        obtain ⟨dd, h3, f', t', b', o', h4, h5⟩ := hent
        obtain ⟨e1, hrd⟩ := getP_walk h h3 h4 hg
        simp only [Ty.osl.injEq] at e1
        obtain ⟨rfl, rfl⟩ := e1
        simp only [Rd] at hrd
        obtain ⟨a, len, cap, j1, j2, j3, j4⟩ := hrd
        obtain ⟨b, o, rfl, hob, _, _, hi⟩ := j4 (by omega)
        rw [j1] at h5
        have he : tf z = .slice (some ⟨b, o, none⟩) len cap := by simpa using h5.symm
        refine ⟨_, by show (Instr.indexAt t (tf z) _).run P w = _; rw [he]; exact run_indexSl hu hz hz0 h0 (by omega), _, _, hx, Deads.refl _, ow, h.handPlace h3 (t := u) ?_ hn⟩
        rw [walk_append, h4]
        simp only [Option.bind_some, walk, j1]
        rw [if_pos (by omega)]
      · cases hx
    · cases hx
  · cases hx
theorem xIndexAddr_sound {t : TypeId} {x i : Operand} {n : Nat} {κ : St → Ent → Option ρ} {r : ρ} (h : Rel M W w ow tf st) (hn : st n = .dead) (hx : xIndexAddr P st t x i κ = some r) :
    ∃ v, (Instr.indexAt t (ev tf x) (ev tf i)).run P w = .ok v w ∧ Res M W w tf st n v κ r := by
  unfold xIndexAddr at hx
  split at hx
  · rename_i k m hi
    rw [opd_int h hi]
    split at hx
    · rename_i s p hr
      obtain ⟨d, t', b, o, hs, hw, he, hp⟩ := refOf_sound h hr
      split at hx
      · rename_i mm u l hg
        split at hx
        · rename_i ha
          obtain ⟨e, hu, hfit⟩ := isArr_spec ha
          obtain ⟨hb, hx⟩ := brB_true hx rfl
          obtain ⟨h0, h1, h2⟩ := inB_spec hb
          obtain ⟨e1, hrd⟩ := getP_walk h hs hw hg
          dsimp only at e1
          subst e1
          refine ⟨_, by rw [he]; exact run_indexArr hu (fits_spec hfit).2 (fits_pos hfit) h0 h1, _, _, hx, Deads.refl _, ow, h.handPlace hs (t := u) ?_ hn⟩
          rw [walk_append, hw]
          simp only [Option.bind_some, walk]
          rw [if_pos h2]
        · cases hx
      · cases hx
    · split at hx
      · rename_i mm u l ho
        split at hx
        · rename_i ha
          simp only [Bool.and_eq_true, Bool.not_eq_true'] at ha
          obtain ⟨e, hu, hfit⟩ := isArr_spec ha.1
          obtain ⟨hb, hx⟩ := brB_true hx rfl
          obtain ⟨h0, h1, h2⟩ := inB_spec hb
          obtain ⟨s, p, hv⟩ := opd_val h ho
          obtain ⟨hc, hr⟩ := hv.cell rfl
          simp only [Rd] at hr
          obtain ⟨b, o, e1, e2, ecl, e3, e4, e5⟩ := hr
          have he : ev tf x = .pointer (some ⟨b, o, none⟩) := by simpa using e1
          refine ⟨_, by rw [he]; exact run_indexArr hu (fits_spec hfit).2 (fits_pos hfit) h0 h1, h.resFlat hn ?_ hx⟩
          exact VR.sptr ha.2 e2 ecl e3 (e5 _ h2)
        · cases hx
      · exact idxV_sound h hn hx
  · cases hx
theorem run_indexStr {t : TypeId} {k : IntKind} {s : ByteArray} {m : Int} (hu : P.underlying t = some .string) (h0 : 0 ≤ m) (h2 : m.toNat < s.size) :
    (Instr.index t (.string s) (.int k m)).run P w = .ok (.int .u8 (byteN s m.toNat)) w := by
  have hs : s[m.toNat]? = some s[m.toNat] := by simp [h2]
  simp only [Instr.index, asIntOf, Sem.run_bind, Sem.run_pure, Result.andThen_ok, run_underlying hu, if_pos h0, hs, byteN, Option.getD_some]
theorem xIndex_sound {t : TypeId} {x i : Operand} {n : Nat} {κ : St → Ent → Option ρ} {r : ρ} (h : Rel M W w ow tf st) (hn : st n = .dead) (hx : xIndex P st t x i κ = some r) :
    ∃ v, (Instr.index t (ev tf x) (ev tf i)).run P w = .ok v w ∧ Res M W w tf st n v κ r := by
  unfold xIndex at hx
  split at hx
  · rename_i k m s hi ho
    rw [opd_int h hi, opd_str h ho]
    split at hx
    · rename_i ht
      obtain ⟨hb, hx⟩ := brB_true hx rfl
      obtain ⟨h0, h1, h2⟩ := inB_spec hb
      have hu : P.underlying t = some .string := by
        unfold isStrT at ht; split at ht
        · assumption
        · cases ht
      exact ⟨_, run_indexStr hu h0 h2, h.resFlat hn (VR.mk_int ..) hx⟩
    · cases hx
  · rename_i k m mm u l hi ho
    rw [opd_int h hi]
    split at hx
    · rename_i ha
      simp only [Bool.and_eq_true, Bool.not_eq_true'] at ha
      obtain ⟨e, hu, hfit⟩ := isArr_spec ha.1
      obtain ⟨hb, hx⟩ := brB_true hx rfl
      obtain ⟨h0, h1, h2⟩ := inB_spec hb
      obtain ⟨s, p, hv⟩ := opd_val h ho
      obtain ⟨cs, he, hsz, hrd⟩ := hv.agg_cells rfl
      simp only [Rd] at hrd
      have k2 := hrd.2 m.toNat h2
      rw [Nat.zero_add] at k2
      have hin : m.toNat * u.sz + u.sz ≤ cs.size := by
        rw [hsz]; simp only [Ty.sz]
        have := Nat.mul_le_mul_right u.sz (show m.toNat + 1 ≤ mm by omega)
        rw [Nat.succ_mul] at this; exact this
      obtain ⟨v, hr1, hr2⟩ := run_part (P := P) hfit k2 hin
      refine ⟨v, ?_, h.resFlat hn (VR.any (d := ⟨u, _⟩) ha.2 (VR.of_reads k2 hr2)) hx⟩
      rw [he]
      simp only [Instr.index, asIntOf, Sem.run_bind, Sem.run_pure, Result.andThen_ok, run_underlying hu]
      rw [if_pos ⟨h0, h1⟩]
      simp only [Sem.run_bind, run_sizeOf (fits_spec hfit).2 (fits_pos hfit), Result.andThen_ok, hr1]
    · cases hx
  · cases hx
end Go.Proofs.Ytlmcalffemklnaa.Rf
namespace Go.Proofs.Ytlmcalffemklnaa.Rf
variable {M : Sc} {W w w' : World} {ow ow' : Own} {tf tf' : Nat → Value} {st st1 : St} {ρ : Type} {P : Program}
theorem eqf_nil {d : Nat} {xs ys : Array Value} : (Op.eqFields d xs ys []).run P w = .ok true w := by simp [Op.eqFields]
theorem eqf_cons {d : Nat} {xs ys : Array Value} {f : Field} {fs : List Field} {a b : Value} {r s : Bool} (hn : (f.name == "_") = false) (ha : (part f.type xs f.offset).run P w = .ok a w) (hb : (part f.type ys f.offset).run P w = .ok b w)
    (he : (Op.equalIn d f.type a b).run P w = .ok r w) (hr : (Op.eqFields d xs ys fs).run P w = .ok s w) : (Op.eqFields d xs ys (f :: fs)).run P w = .ok (r && s) w := by
  have hn' : f.name ≠ "_" := by simpa using hn
  rw [Op.eqFields]
  simp only [if_pos hn', Sem.run_bind, ha, hb, he, Result.andThen_ok]
  cases r
  · simp
  · simpa using hr
/-- Fields held against each other. -/
theorem eqF_sound {d : Nat} {one : Ty → TypeId → Bool}
    (hone : ∀ (ty : Ty) (t : TypeId) (x y : ty.den) (r : Bool) (v v' : Value) (g g' : Nat → Option Value) (o o' : Nat) (s : Nat) (p : List Step) (bs : Fl), one ty t = true → eqV ty x y = some r → Rd w ow bs ty s p g o x → Rd w ow bs ty s p g' o' y →
      Reads v ty g o → Reads v' ty g' o' → (Op.equalIn d t v v').run P w = .ok r w) :
    ∀ (fs : List Field) (o : Nat) (ty : Ty) {x y : ty.den} {r : Bool} {cs cs' : Array Value} {s : Nat} {p : List Step} {bs : Fl}, eqF P one fs o ty = true → eqV ty x y = some r →
    Rd w ow bs ty s p (fun i => cs[i]?) o x → Rd w ow bs ty s p (fun i => cs'[i]?) o y → o + ty.sz ≤ cs.size → o + ty.sz ≤ cs'.size → (Op.eqFields d cs cs' fs).run P w = .ok r w
  | [], o, ty, x, y, r, cs, cs', s, p, bs, hF, hV, hx, hy, h1, h2 => by
    cases ty <;> simp only [eqF, Bool.false_eq_true] at hF
    simp only [eqV, Option.some.injEq] at hV
    subst hV
    exact eqf_nil
  | f :: fs, o, ty, x, y, r, cs, cs', s, p, bs, hF, hV, hx, hy, h1, h2 => by
    cases ty with
    | pair a b =>
      simp only [eqF, Bool.and_eq_true, Bool.not_eq_true'] at hF
      obtain ⟨⟨⟨⟨hn, ho⟩, hfit⟩, hon⟩, hrest⟩ := hF
      have ho := Nat.eq_of_beq_eq_true ho
      simp only [Ty.sz] at h1 h2
      simp only [eqV] at hV
      split at hV
      · rename_i p1 q1 e1 e2
        simp only [Option.some.injEq] at hV
        simp only [Rd] at hx hy
        obtain ⟨v, r1, r2⟩ := run_part (P := P) hfit hx.1 (by omega)
        obtain ⟨v', r1', r2'⟩ := run_part (P := P) hfit hy.1 (by omega)
        rw [← ho] at r1 r1'
        have he := hone a f.type x.1 y.1 p1 v v' _ _ o o s (p ++ [.l]) bs hon e1 hx.1 hy.1 r2 r2'
        have hr := eqF_sound hone fs (o + a.sz) b hrest e2 hx.2 hy.2 (by omega) (by omega)
        have hall := eqf_cons hn r1 r1' he hr
        rw [hall]
        congr 1
        rw [← hV]
        split
        · simp only [eqV, Option.some.injEq] at e2; rw [← e2, Bool.and_true]
        · rfl
      · cases hV
    | _ => simp only [eqF, Bool.false_eq_true] at hF
theorem eqT_sound : ∀ (n m : Nat), n ≤ m → ∀ (ty : Ty) (t : TypeId) (x y : ty.den) (r : Bool) (v v' : Value) (g g' : Nat → Option Value) (o o' : Nat) (s : Nat) (p : List Step) (bs : Fl), eqT P n ty t = true → eqV ty x y = some r →
    Rd w ow bs ty s p g o x → Rd w ow bs ty s p g' o' y → Reads v ty g o → Reads v' ty g' o' → (Op.equalIn m t v v').run P w = .ok r w
  | 0, m, hm, ty, t, x, y, r, v, v', g, g', o, o', s, p, bs, hT, hV, hx, hy, hv, hv' => by simp only [eqT, Bool.false_eq_true] at hT
  | n + 1, m, hm, ty, t, x, y, r, v, v', g, g', o, o', s, p, bs, hT, hV, hx, hy, hv, hv' => by
    obtain ⟨m, rfl⟩ : ∃ k, m = k + 1 := ⟨m - 1, by omega⟩
    have structs : ty.agg = true → (match P.underlying t with | some (.struct fs) => !P.stoodInHeld t && eqF P (eqT P n) fs.toList 0 ty | _ => false) = true → (Op.equalIn (m + 1) t v v').run P w = .ok r w := fun ha hT => by
      split at hT
      · rename_i fs hu
        simp only [Bool.and_eq_true, Bool.not_eq_true'] at hT
        obtain ⟨cs, rfl⟩ := hv.1.1 ha
        obtain ⟨cs', rfl⟩ := hv'.1.1 ha
        have hfs : P.fieldsOf t = fs := by simp [Program.fieldsOf, hu]
        rw [run_equalIn_struct w m t cs cs' (by rw [hfs]; exact hu) hT.1, hfs]
        have e1 : Rd w ow bs ty s p (fun i => cs[i]?) 0 x := Rd.frame (Nat.le_refl _) ty (fun i hi => by simpa [Value.cells] using hv.2.2 i hi) (fun b _ hb => ⟨hb, rfl⟩) (fun b q _ hb => ⟨hb, rfl⟩) hx
        have e2 : Rd w ow bs ty s p (fun i => cs'[i]?) 0 y := Rd.frame (Nat.le_refl _) ty (fun i hi => by simpa [Value.cells] using hv'.2.2 i hi) (fun b _ hb => ⟨hb, rfl⟩) (fun b q _ hb => ⟨hb, rfl⟩) hy
        have s1 : cs.size = ty.sz := hv.2.1
        have s2 : cs'.size = ty.sz := hv'.2.1
        exact eqF_sound (eqT_sound n m (by omega)) fs.toList 0 ty hT.2 hV e1 e2 (by omega) (by omega)
      · cases hT
    cases ty with
    | int k =>
      simp only [eqT] at hT
      split at hT
      · rename_i k' hu
        have c1 := hv.cell rfl rfl
        have c2 := hv'.cell rfl rfl
        simp only [Rd] at hx hy
        rw [c1] at hx; rw [c2] at hy
        simp only [Option.some.injEq] at hx hy
        subst hx hy
        rw [run_equalIn_int w m t k k' x y hu]
        simp only [eqV, eqI, Option.some.injEq] at hV
        rw [← hV]
      · cases hT
    | bool =>
      simp only [eqT] at hT
      split at hT
      · rename_i hu
        have c1 := hv.cell rfl rfl
        have c2 := hv'.cell rfl rfl
        simp only [Rd] at hx hy
        rw [c1] at hx; rw [c2] at hy
        simp only [Option.some.injEq] at hx hy
        subst hx hy
        rw [run_equalIn_bool' w m t x y hu]
        simp only [eqV, eqB, Option.some.injEq] at hV
        rw [← hV]
      · cases hT
    | str =>
      simp only [eqT] at hT
      split at hT
      · rename_i hu
        have c1 := hv.cell rfl rfl
        have c2 := hv'.cell rfl rfl
        simp only [Rd] at hx hy
        rw [c1] at hx; rw [c2] at hy
        simp only [Option.some.injEq] at hx hy
        subst hx hy
        refine (run_equalIn_string w m t x y hu).trans ?_
        have e := beq_toListBytes x y
        simp only [eqV, eqS, Option.some.injEq] at hV
        rw [← hV]
        exact congrArg (fun b => Result.ok b w) e.symm
      · cases hT
    | unit => simp only [eqT] at hT; exact structs rfl hT
    | pair a b => simp only [eqT] at hT; exact structs rfl hT
    | _ => simp only [eqV, reduceCtorEq] at hV
theorem run_strs {op : BinOp} {t : TypeId} {a b : ByteArray} {κ : Dv → Option ρ} {r : ρ} (hx : binSS op a b κ = some r) :
    ∃ v d, (binOp op t (.string a) (.string b)).run P w = .ok v w ∧ κ d = some r ∧ ∀ ow bs s p, VR w ow bs d s p v := by
  unfold binSS at hx
  cases op <;> simp only [reduceCtorEq] at hx
  · obtain ⟨hb, hx⟩ := brB_true hx rfl
    have hle := Nat.le_of_ble_eq_true hb
    refine ⟨_, _, ?_, hx, fun _ _ _ _ => VR.mk_str ..⟩
    show (Op.stringOp .add a b).run P w = _
    unfold Op.stringOp
    dsimp only
    rw [if_neg (by have : IntKind.i64.max = 9223372036854775807 := by decide
                   omega)]
    rfl
  · exact ⟨_, _, rfl, hx, fun _ _ _ _ => VR.mk_bool ..⟩
  · exact ⟨_, _, rfl, hx, fun _ _ _ _ => VR.mk_bool ..⟩
theorem eqGuard_agg {op : BinOp} {t : TypeId} {x y : Operand} {xs ys : Array Value} (h : P.eqGuardType P.depth t = false) : (eqGuard op t x y (.agg xs) (.agg ys)).run P w = .ok () w := by
  have key : (do if !(← program).eqGuardType (← program).depth t then return
                 if ← Op.eqGuardIn Op.maxDepth t (.agg xs) (.agg ys) then unsupported (.noEntry "binop/eql: two nil values of an interface type with methods, in a part of a struct or an array") : Sem Unit).run P w = .ok () w := by
    simp only [Sem.run_bind, run_program, Result.andThen_ok, h, Bool.not_false, if_true]
    rfl
  cases op <;> first | rfl | exact key
theorem eqGuard_plain {op : BinOp} {t : TypeId} {x y : Operand} {a b : Value} (h1 : ∀ xs, a ≠ .agg xs) (h2 : a ≠ .nilIface) : (eqGuard op t x y a b).run P w = .ok () w := by
  cases op <;> first | rfl | (cases a <;> first | exact absurd rfl h2 | exact absurd rfl (h1 _) | rfl)
theorem sz_of_agg {t u : Ty} {x : t.den} {y : u.den} (h : castT t u x = some y) : t.agg = u.agg := agg_castT h
theorem VR.castT {d : Dv} {u : Ty} {y : u.den} {s : Nat} {p : List Step} {v : Value} {bs : Fl} (h : castT d.1 u d.2 = some y) (hu : u.hasOwn = false) (hv : VR w ow bs d s p v) : ∃ ow', VR w ow' bs ⟨u, y⟩ s p v := by
  obtain ⟨ow', hl, hr⟩ := Rd.castT h hv.2.2
  exact ⟨ow', by rw [← agg_castT h]; exact hv.1, by rw [← sz_castT h]; exact hv.2.1, hr⟩
theorem VR.reads {d : Dv} {s : Nat} {p : List Step} {v : Value} {bs : Fl} (h : VR w ow bs d s p v) : Reads v d.1 (fun i => v.cells[i]?) 0 := ⟨h.1, h.2.1, fun i hi => by rw [Nat.zero_add]⟩
theorem eqV_flat : (t : Ty) → {x y : t.den} → {r : Bool} → eqV t x y = some r → t.hasOwn = false
  | .int _, _, _, _, _ => rfl | .bool, _, _, _, _ => rfl | .str, _, _, _, _ => rfl | .unit, _, _, _, _ => rfl
  | .pair a b, x, y, r, h => by
    simp only [eqV] at h
    split at h
    · rename_i p q e1 e2
      simp [Ty.hasOwn, eqV_flat a e1, eqV_flat b e2]
    · cases h
end Go.Proofs.Ytlmcalffemklnaa.Rf
namespace Go.Proofs.Ytlmcalffemklnaa.Rf
variable {M : Sc} {W w w' : World} {ow ow' : Own} {tf tf' : Nat → Value} {st st1 : St} {ρ : Type} {P : Program}
/-- Labels play no part in what owns nothing: one map of labels may be any other with the same free blocks .. -/
theorem run_eqAgg {op : BinOp} {t : TypeId} {a b : Ty} {x y : (Ty.pair a b).den} {r : Bool} {v v' : Value} {s s' : Nat} {p p' : List Step} {bs : Fl} {ow1 ow2 : Own} (hT : eqT P 20 (.pair a b) t = true) (hV : eqV (.pair a b) x y = some r)
    (hx : VR w ow1 bs ⟨.pair a b, x⟩ s p v) (hy : VR w ow2 bs ⟨.pair a b, y⟩ s' p' v') : (Op.equalIn 10000 t v v').run P w = .ok r w := by
  have hf := eqV_flat _ hV
  have flatten : ∀ {ow : Own} {s p} {z : (Ty.pair a b).den} {v : Value}, VR w ow bs ⟨.pair a b, z⟩ s p v → Rd w ow bs (.pair a b) s p (fun i => v.cells[i]?) 0 z := fun h => h.2.2
  -- the types here have no memory at all
  have nomem : ∀ (u : Ty) {z z' : u.den} {q : Bool} {ow ow' : Own} {s s'} {p p'} {g : Nat → Option Value} {o : Nat}, eqV u z z' = some q → (Rd w ow bs u s p g o z → Rd w ow' bs u s' p' g o z) ∧ (Rd w ow bs u s p g o z' → Rd w ow' bs u s' p' g o z') := by
    intro u
    induction u with
    | int k => intro z z' q ow ow' s s' p p' g o _; exact ⟨id, id⟩
    | bool => intro z z' q ow ow' s s' p p' g o _; exact ⟨id, id⟩
    | str => intro z z' q ow ow' s s' p p' g o _; exact ⟨id, id⟩
    | unit => intro z z' q ow ow' s s' p p' g o _; exact ⟨id, id⟩
    | pair a b iha ihb =>
      intro z z' q ow ow' s s' p p' g o hq
      simp only [eqV] at hq
      split at hq
      · rename_i e1 e2
        simp only [Rd]
        exact ⟨fun h => ⟨(iha e1).1 h.1, (ihb e2).1 h.2⟩, fun h => ⟨(iha e1).2 h.1, (ihb e2).2 h.2⟩⟩
      · cases hq
    | _ => intro z z' q ow ow' s s' p p' g o hq; simp only [eqV, reduceCtorEq] at hq
  have k2 := (nomem (.pair a b) (ow := ow2) (ow' := ow1) (s := s') (s' := s) (p := p') (p' := p) hV).2 hy.2.2
  exact eqT_sound (ow := ow1) 20 10000 (by omega) (.pair a b) t x y r v v' _ _ 0 0 s p bs hT hV hx.2.2 k2 hx.reads hy.reads
theorem binV_sound {op : BinOp} {t : TypeId} {x y : Operand} {a b : Dv} {n : Nat} {κ : Dv → Option ρ} {r : ρ} (h : Rel M W w ow tf st) (ha : lookV st x = some a) (hb : lookV st y = some b) (hx : binV P op t a b κ = some r) :
    ∃ v d, (do eqGuard op t x y (ev tf x) (ev tf y); binOp op t (ev tf x) (ev tf y) : Sem Value).run P w = .ok v w ∧ κ d = some r ∧ ∀ ow bs s p, VR w ow bs d s p v := by
  obtain ⟨s1, p1, v1⟩ := lookV_sound h ha
  obtain ⟨s2, p2, v2⟩ := lookV_sound h hb
  unfold binV at hx
  split at hx
  · rename_i k m k' m'
    obtain ⟨v, d, h1, h2, h3⟩ := binII_run (P := P) (w := w) t hx
    refine ⟨v, d, ?_, h2, h3⟩
    rw [v1.int, v2.int]
    simp only [Sem.run_bind, eqGuard_plain (a := .int k m) (by simp) (by simp), Result.andThen_ok, h1]
  · rename_i m m'
    split at hx
    · rename_i d hd ht
      have hu : P.underlying t = some .bool := by
        simp only [eqT] at ht
        split at ht
        · assumption
        · cases ht
      cases op <;> simp only [binBB, reduceCtorEq, Option.some.injEq] at hd
      · subst hd
        refine ⟨_, _, ?_, hx, fun _ _ _ _ => VR.mk_bool ..⟩
        rw [v1.bool, v2.bool]
        simp only [Sem.run_bind, eqGuard_plain (a := .bool m) (by simp) (by simp), Result.andThen_ok, run_eql_bool (P := P) w t m m' hu]
      · subst hd
        refine ⟨_, _, ?_, hx, fun _ _ _ _ => VR.mk_bool ..⟩
        rw [v1.bool, v2.bool]
        simp only [Sem.run_bind, eqGuard_plain (a := .bool m) (by simp) (by simp), Result.andThen_ok, run_neq_bool (P := P) w t m m' hu]
    · cases hx
  · rename_i m m'
    obtain ⟨v, d, h1, h2, h3⟩ := run_strs (P := P) (w := w) (t := t) hx
    refine ⟨v, d, ?_, h2, h3⟩
    rw [v1.str, v2.str]
    simp only [Sem.run_bind, eqGuard_plain (a := .string m) (by simp) (by simp), Result.andThen_ok, h1]
  · rename_i ta tb xa tb' yb
    split at hx
    · rename_i y' hc hq
      simp only [Bool.and_eq_true, Bool.not_eq_true'] at hq
      split at hx
      · rename_i q hV
        have hfl := eqV_flat _ hV
        obtain ⟨ow2, v2'⟩ := v2.castT hc hfl
        have hrun := run_eqAgg (op := op) hq.1 hV v1 v2'
        obtain ⟨cs, e1, _⟩ := v1.agg_cells rfl
        obtain ⟨cs', e2, _⟩ := v2'.agg_cells rfl
        rw [e1, e2] at hrun ⊢
        cases op <;> simp only [reduceCtorEq] at hx
        · refine ⟨_, _, ?_, hx, fun _ _ _ _ => VR.mk_bool ..⟩
          simp only [Sem.run_bind, eqGuard_agg hq.2, Result.andThen_ok, run_eql_struct, hrun]
        · refine ⟨_, _, ?_, hx, fun _ _ _ _ => VR.mk_bool ..⟩
          simp only [Sem.run_bind, eqGuard_agg hq.2, Result.andThen_ok, run_neq_struct, hrun]
      · cases hx
    · cases hx
  · cases hx
end Go.Proofs.Ytlmcalffemklnaa.Rf
