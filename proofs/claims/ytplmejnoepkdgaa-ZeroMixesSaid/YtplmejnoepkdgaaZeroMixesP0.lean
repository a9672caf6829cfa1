/- A walk by reckoning: what a Go function comes to, reckoned out of its operations, and why that is so. -/
import Derived.Test.YtplmejnoepkdgaaZeroMixesH
import Derived.Test.YtplmejnoepkdgaaRf4
import Derived.IntWalk
set_option linter.unusedVariables false
set_option linter.unusedSimpArgs false
namespace Go.Proofs.Ytplmejnoepkdgaa.H1
open Go Go.Proofs.Ytplmejnoepkdgaa.Rf
/-- What a function comes to, from some fuel on. -/
def Ev {α : Type} (g : Nat → Option α) (r : α) : Prop := ∃ K, ∀ k, K ≤ k → g k = some r
def T {α : Type} (g : Nat → Option α) (p : α → Prop) : Prop := ∃ r, p r ∧ Ev g r
theorem Ev.uniq {α : Type} {g : Nat → Option α} {a b : α} (h : Ev g a) (k : Ev g b) : a = b := by
  obtain ⟨K, hK⟩ := h; obtain ⟨L, hL⟩ := k
  have := (hK (K + L) (Nat.le_add_right _ _)).symm.trans (hL (K + L) (Nat.le_add_left _ _))
  exact Option.some.inj this
theorem T.of {α : Type} {g : Nat → Option α} {p : α → Prop} {a : α} (h : T g p) (k : Ev g a) : p a := by
  obtain ⟨r, h1, h2⟩ := h; rw [k.uniq h2]; exact h1
theorem T.pure {α : Type} {p : α → Prop} {r : α} (h : p r) : T (fun _ => some r) p := ⟨r, h, 0, fun _ _ => rfl⟩
theorem T.mono {α : Type} {g : Nat → Option α} {p q : α → Prop} (h : T g p) (k : ∀ a, p a → q a) : T g q := let ⟨r, h1, h2⟩ := h; ⟨r, k r h1, h2⟩
theorem T.eq {α : Type} {f g : Nat → Option α} {p : α → Prop} (he : ∀ k, f (k + 1) = g k) (h : T g p) : T f p := by
  obtain ⟨r, h1, K, h2⟩ := h
  exact ⟨r, h1, K + 1, fun k hk => by obtain ⟨j, rfl⟩ := Nat.exists_eq_add_of_le hk; rw [show K + 1 + j = (K + j) + 1 by omega, he]; exact h2 _ (Nat.le_add_right _ _)⟩
theorem T.bind {α β : Type} {g : Nat → Option α} {h : Nat → α → Option β} {p : α → Prop} {q : β → Prop} (h1 : T g p) (h2 : ∀ a, p a → T (fun k => h k a) q) : T (fun k => (g k).bind (h k)) q := by
  obtain ⟨a, ha, K, hK⟩ := h1
  obtain ⟨b, hb, L, hL⟩ := h2 a ha
  exact ⟨b, hb, K + L, fun k hk => by show (g k).bind (h k) = _; rw [hK k (by omega)]; exact hL k (by omega)⟩
/-- .. where what is bound is known again. -/
theorem T.bindE {α β : Type} {g : Nat → Option α} {h : Nat → α → Option β} {p : α → Prop} {q : β → Prop} (h1 : T g p) (h2 : ∀ a, p a → Ev g a → T (fun k => h k a) q) : T (fun k => (g k).bind (h k)) q := by
  obtain ⟨a, ha, hE⟩ := h1
  obtain ⟨b, hb, L, hL⟩ := h2 a ha hE
  obtain ⟨K, hK⟩ := hE
  exact ⟨b, hb, K + L, fun k hk => by show (g k).bind (h k) = _; rw [hK k (by omega)]; exact hL k (by omega)⟩
theorem T.ite {α : Type} {g h : Nat → Option α} {b : Bool} {p : α → Prop} (h1 : b = true → T g p) (h2 : b = false → T h p) : T (fun k => bif b then g k else h k) p := by
  cases b
  · exact h2 rfl
  · exact h1 rfl
theorem T.yes {α : Type} {g h : Nat → Option α} {b : Bool} {p : α → Prop} (hb : b = true) (h1 : T g p) : T (fun k => bif b then g k else h k) p := T.ite (fun _ => h1) (fun h => by rw [hb] at h; cases h)
theorem T.no {α : Type} {g h : Nat → Option α} {b : Bool} {p : α → Prop} (hb : b = false) (h1 : T h p) : T (fun k => bif b then g k else h k) p := T.ite (fun h => by rw [hb] at h; cases h) (fun _ => h1)
/-- A count from one number up to another. -/
theorem T.loop {α σ : Type} {f : Nat → σ → Int → Option α} {p : α → Prop} (n : Nat) (I : σ → Nat → Prop) (body : ∀ s i, i ≤ n → I s i → (∀ s', i < n → I s' (i + 1) → T (fun k => f k s' ((i : Int) + 1)) p) → T (fun k => f k s (i : Int)) p) :
    ∀ (m : Nat) (s : σ) (i : Nat), n - i = m → i ≤ n → I s i → T (fun k => f k s (i : Int)) p := by
  intro m
  induction m with
  | zero => intro s i hm hi hI; exact body s i hi hI (fun s' hlt _ => absurd hlt (by omega))
  | succ m ih => intro s i hm hi hI; exact body s i hi hI (fun s' hlt hI' => by have := ih s' (i + 1) (by omega) (by omega) hI'; simpa using this)
theorem T.loop0 {α σ : Type} {f : Nat → σ → Int → Option α} {p : α → Prop} (n : Nat) (I : σ → Nat → Prop) (s : σ) (h0 : I s 0) (body : ∀ s i, i ≤ n → I s i → (∀ s', i < n → I s' (i + 1) → T (fun k => f k s' ((i : Int) + 1)) p) → T (fun k => f k s (i : Int)) p) :
    T (fun k => f k s 0) p := by
  have := T.loop n I body n s 0 (by omega) (by omega) h0
  simpa using this
theorem w64_in {n : Int} (h1 : -9223372036854775808 ≤ n) (h2 : n ≤ 9223372036854775807) : w64 n = n := Go.IntWalk.i64_in n ⟨h1, h2⟩
theorem inB_nat {i n : Nat} (h : i < n) : inB (i : Int) n = true := by simp [inB]; omega
theorem inB_int {i : Int} {n : Nat} (h1 : 0 ≤ i) (h2 : i < n) : inB i n = true := by simp [inB]; omega
theorem room_ok {n b : Nat} (h : n * b ≤ 140737488355328) : room n b = true := Nat.ble_eq_true_of_le h
abbrev E := Int × Int × Unit
abbrev O := Int × Int × Int × E × Unit
def z : E := (0, 0, ())
/-- Whether an element is of a level. -/
def ofB (l : Int) (x : E) : Bool :=
  if l < 0 then false else if l > 7 then false else if l = 7 then true else if l = 6 then x.1 == 0 else if x.1 == 0 then (shrI .u64 x.2.1 (shlI .u64 1 l)) == 0 else false
theorem shl_u64_pos {a b : Int} : ¬ shlI .u64 a b < 0 := by
  unfold shlI
  have : IntKind.u64.wrap (a * 2 ^ min b.toNat IntKind.u64.bits) = (a * 2 ^ min b.toNat IntKind.u64.bits) % 2 ^ 64 := by
    unfold IntKind.wrap; simp [IntKind.signed, IntKind.bits]
  rw [this]
  have := Int.emod_nonneg (a * 2 ^ min b.toNat IntKind.u64.bits) (show (2 ^ 64 : Int) ≠ 0 by decide)
  omega
theorem of_T (l : Int) (x : E) : T (fun k => octet_Of.f k l x) (fun b => b = ofB l x) := by
  refine T.eq (octet_Of.f_eq · l x) ?_
  unfold ofB
  by_cases h1 : l < 0
  · exact T.yes (by simp [h1]) (T.pure (by simp [h1]))
  refine T.no (by simp [h1]) ?_
  by_cases h2 : l > 7
  · exact T.yes (by simp [h2]) (T.pure (by simp [h1, h2]))
  refine T.no (by simp [h2]) ?_
  by_cases h3 : l = 7
  · exact T.yes (by simp [h3]) (T.pure (by simp [h1, h2, h3]))
  refine T.no (by simpa using h3) ?_
  by_cases h4 : l = 6
  · exact T.yes (by simp [h4]) (T.pure (by simp [h4]))
  refine T.no (by simpa using h4) (T.ite (fun h => ?_) (fun h => T.pure (by simp [h1, h2, h3, h4, h])))
  exact T.no (by simp [h1]) (T.no (by simpa using shl_u64_pos) (T.pure (by simp [h1, h2, h3, h4, h])))
theorem wide_T (l : Int) : T (fun k => octet_Wide.f k l) (fun _ => True) := by
  refine T.eq (octet_Wide.f_eq · l) (T.ite (fun _ => T.pure trivial) fun h1 => T.ite (fun _ => T.pure trivial) fun h2 => T.ite (fun _ => T.pure trivial) fun h3 => T.no ?_ (T.pure trivial))
  simp only [decide_eq_false_iff_not] at *
  rw [w64_in (by omega) (by omega)]; omega
theorem add_T (a b : E) : T (fun k => tower_Add.f k a b) (fun r => r = (xorI .u64 a.1 b.1, xorI .u64 a.2.1 b.2.1, ())) := T.eq (tower_Add.f_eq · a b) (T.pure rfl)
theorem halves_T {l : Nat} (h1 : 1 ≤ l) (h2 : l ≤ 7) (a : Int) : T (fun k => tower_halves.f k l a) (fun r => a = 0 → r = (0, 0)) := by
  have hl : l = 1 ∨ l = 2 ∨ l = 3 ∨ l = 4 ∨ l = 5 ∨ l = 6 ∨ l = 7 := by omega
  rcases hl with rfl | rfl | rfl | rfl | rfl | rfl | rfl <;>
  exact T.eq (tower_halves.f_eq · _ a) (T.no (by decide) (T.no (by decide) (T.no (by decide) (T.pure (by rintro rfl; decide)))))
theorem join_T {l : Nat} (h1 : 1 ≤ l) (h2 : l ≤ 7) (a b : Int) : T (fun k => tower_join.f k l a b) (fun r => a = 0 → b = 0 → r = 0) := by
  have hl : l = 1 ∨ l = 2 ∨ l = 3 ∨ l = 4 ∨ l = 5 ∨ l = 6 ∨ l = 7 := by omega
  rcases hl with rfl | rfl | rfl | rfl | rfl | rfl | rfl <;>
  exact T.eq (tower_join.f_eq · _ a b) (T.no (by decide) (T.no (by decide) (T.pure (by rintro rfl rfl; decide))))
theorem lev {l : Nat} (h : l ≤ 7) : w64 (((l + 1 : Nat) : Int) - 1) = (l : Int) := by rw [w64_in (by omega) (by omega)]; omega
theorem mulX_T : ∀ (l : Nat), l ≤ 6 → ∀ a, T (fun k => tower_mulX.f k l a) (fun r => a = 0 → r = 0)
  | 0, h, a => T.eq (tower_mulX.f_eq · _ a) (T.yes (by simp) (T.pure id))
  | l + 1, h, a => by
    refine T.eq (tower_mulX.f_eq · _ a) (T.no (by simp; omega) (T.bind (halves_T (by omega) (by omega) a) fun r hr => ?_))
    rw [lev (by omega)]
    refine T.bind (mulX_T l (by omega) r.1) fun s hs => T.bind (join_T (by omega) (by omega) _ _) fun t ht => T.pure fun ha => ?_
    have e := hr ha
    have e1 : r.1 = 0 := by rw [e]
    have e2 : r.2 = 0 := by rw [e]
    exact ht (by rw [e2, hs e1]; decide) e1
theorem and0 (a : Int) : andI .u64 (andI .u64 a 0) 1 = 0 := by
  have e : andI .u64 a 0 = 0 := by unfold andI; simp [IntKind.wrap, IntKind.signed]
  rw [e]; decide
theorem mul_T : ∀ (l : Nat), l ≤ 6 → ∀ a b, T (fun k => tower_mul.f k l a b) (fun r => b = 0 → r = 0)
  | 0, h, a, b => T.eq (tower_mul.f_eq · _ a b) (T.yes (by simp) (T.pure (by rintro rfl; exact and0 a)))
  | l + 1, h, a, b => by
    refine T.eq (tower_mul.f_eq · _ a b) (T.no (by simp; omega) (T.ite (fun _ => T.pure (by rintro rfl; exact and0 a)) fun _ => T.ite (fun _ => T.pure (by rintro rfl; exact and0 a)) fun hb => ?_))
    refine T.bind (halves_T (by omega) (by omega) a) fun r _ => T.bind (halves_T (by omega) (by omega) b) fun s _ => ?_
    rw [lev (by omega)]
    refine T.bind (mul_T l (by omega) _ _) fun t1 _ => T.bind (mul_T l (by omega) _ _) fun t2 _ => T.bind (mul_T l (by omega) _ _) fun t3 _ => T.bind (mulX_T l (by omega) _) fun t4 _ => T.bind (join_T (by omega) (by omega) _ _) fun t5 _ => T.pure fun h0 => ?_
    subst h0; simp at hb
theorem Mul_T (l : Int) (a b : E) : T (fun k => tower_Mul.f k l a b) (fun r => b = z → r = z) := by
  refine T.eq (tower_Mul.f_eq · l a b) (T.bind (of_T l a) fun o1 h1 => T.ite (fun _ => T.pure fun _ => rfl) fun g1 => T.bind (of_T l b) fun o2 h2 => T.ite (fun _ => T.pure fun _ => rfl) fun g2 => ?_)
  have h0 : 0 ≤ l ∧ l ≤ 7 := by
    rw [h1] at g1
    unfold ofB at g1
    by_cases k1 : l < 0
    · simp [k1] at g1
    · by_cases k2 : l > 7
      · simp [k1, k2] at g1
      · omega
  refine T.ite (fun g => ?_) (fun g => ?_)
  · obtain ⟨n, rfl⟩ := Int.eq_ofNat_of_zero_le h0.1
    simp only [decide_eq_true_eq] at g
    exact T.bind (mul_T n (by omega) _ _) fun r hr => T.pure fun hb => by rw [hr (by rw [hb]; rfl)]; rfl
  · refine T.bind (mul_T 6 (by omega) _ _) fun r1 q1 => T.bind (mul_T 6 (by omega) _ _) fun r2 q2 => T.bind (mul_T 6 (by omega) _ _) fun r3 q3 => T.bind (mulX_T 6 (by omega) _) fun r4 q4 => T.pure fun hb => ?_
    subst hb
    have e1 := q1 rfl
    have e2 := q2 rfl
    have e3 := q3 (by decide)
    have e4 := q4 e1
    rw [e1, e2, e3, e4]; decide
end Go.Proofs.Ytplmejnoepkdgaa.H1
namespace Go.Proofs.Ytplmejnoepkdgaa.H1
open Go Go.Proofs.Ytplmejnoepkdgaa.Rf
def zo : O := (0, 0, 0, (0, 0, ()), ())
/-- A step that may be. -/
def okS (vars : Int) (j : Nat) (o : O) : Prop :=
  (o.1 = 1 ∨ o.1 = 2 ∨ o.1 = 3 ∨ o.1 = 4) ∧ (o.1 = 2 → 0 ≤ o.2.1 ∧ o.2.1 < vars) ∧ (o.1 = 3 ∨ o.1 = 4 → 0 ≤ o.2.1 ∧ o.2.1 < j ∧ 0 ≤ o.2.2.1 ∧ o.2.2.1 < j)
theorem ahead_T (o : O) (i : Int) : T (fun k => expr_ahead.f k o i) (fun b => b = true → 0 ≤ o.2.1 ∧ o.2.1 < i ∧ 0 ≤ o.2.2.1 ∧ o.2.2.1 < i) := by
  refine T.eq (expr_ahead.f_eq · o i) (T.ite (fun h1 => T.ite (fun h2 => T.ite (fun h3 => T.pure fun h4 => ?_) (fun _ => T.pure (by simp))) (fun _ => T.pure (by simp))) (fun _ => T.pure (by simp)))
  simp only [decide_eq_true_eq] at *
  omega
theorem step_T (lv vars : Int) (o : O) (ds : List Int) : T (fun k => expr_step.f k lv vars o ds) (fun r => r.2 = 0 → okS vars ds.length o) := by
  refine T.eq (expr_step.f_eq · lv vars o ds) ?_
  repeat' (first
    | exact T.pure (fun h => absurd h (by decide))
    | refine T.bind (of_T _ _) fun _ _ => ?_
    | refine T.bind (ahead_T _ _) fun b hb => ?_
    | refine T.ite (fun _ => ?_) (fun _ => ?_))
  all_goals first
    | (refine T.pure fun _ => ?_; simp only [inB, beq_iff_eq, decide_eq_true_eq, decide_eq_false_iff_not, Bool.and_eq_true, beq_eq_false_iff_ne, ne_eq] at *; unfold okS; omega)
    | (exfalso; rename_i b hb h1 h2; obtain ⟨a1, a2, a3, a4⟩ := hb h1; rw [inB_int a1 a2] at h2; cases h2)
    | (exfalso; rename_i b hb h1 h2 h3; obtain ⟨a1, a2, a3, a4⟩ := hb h1; rw [inB_int a3 a4] at h3; cases h3)
theorem getD_app_lt {α : Type} (l : List α) (a d : α) {j : Nat} (h : j < l.length) : (l ++ [a]).getD j d = l.getD j d := by
  simp [List.getD_eq_getElem?_getD, List.getElem?_append_left h]
theorem lt_dec {i n : Nat} : decide ((i : Int) < (n : Int)) = true → i < n := fun h => by simpa using h
theorem nlt_dec {i n : Nat} : decide ((i : Int) < (n : Int)) = false → n ≤ i := fun h => by simpa using h
theorem inc {i : Nat} (h : i ≤ 100000000) : w64 ((i : Int) + 1) = (i : Int) + 1 := w64_in (by omega) (by omega)
/-- Steps that may be. -/
def okL (vars : Int) (l : List O) : Prop := ∀ j, j < l.length → okS vars j (l.getD j zo)
theorem degrees_T (lv vars : Int) (l : List O) : T (fun k => expr_degrees.f k lv vars l) (fun r => r.2 = 0 → r.1.length = l.length ∧ 0 < l.length ∧ l.length ≤ 200 ∧ okL vars l) := by
  refine T.eq (expr_degrees.f_eq · lv vars l) (T.bind (wide_T lv) fun _ _ => T.ite (fun _ => T.pure fun h => absurd h (by decide)) fun _ => T.ite (fun _ => T.pure fun h => absurd h (by decide)) fun _ => T.ite (fun _ => T.pure fun h => absurd h (by decide)) fun h0 => T.ite (fun _ => T.pure fun h => absurd h (by decide)) fun h1 => ?_)
  have hpos : 0 < l.length := by have : ¬ ((l.length : Int) = 0) := by simpa using h0
                                 omega
  have hle : l.length ≤ 200 := by have : ¬ ((l.length : Int) > 200) := by simpa using h1
                                  omega
  refine T.loop0 (f := fun k s i => expr_degrees.l122 k lv vars s l (l.length : Int) i) l.length (fun s i => s.length = i ∧ ∀ j, j < i → okS vars j (l.getD j zo)) [] ⟨rfl, fun j h => absurd h (by omega)⟩ fun s i hi hI ih => ?_
  refine T.eq (expr_degrees.l122_eq · lv vars s l _ _) (T.ite (fun hlt => ?_) (fun hge => ?_))
  · have hlt := lt_dec hlt
    have hroom : ∀ t : Int, room (s.length + ([t] : List Int).length) 8 = true := fun t => room_ok (by have := hI.1; simp only [List.length_singleton]; omega)
    refine T.yes (inB_nat hlt) (T.bind (step_T _ _ _ _) fun r hr => ?_)
    rw [inc (by omega)]
    have go : r.2 = 0 → T (fun k => expr_degrees.l122 k lv vars (s ++ [r.1]) l (l.length : Int) ((i : Int) + 1)) _ := fun h => ih _ hlt ⟨by simp [hI.1], fun j hj => by
      by_cases e : j = i
      · subst e; have := hr h; rw [hI.1] at this; simpa [zo] using this
      · exact hI.2 j (by omega)⟩
    have bad : ∀ {g : List Int} {e : Int}, e ≠ 0 → T (fun _ : Nat => (some (g, e) : Option (List Int × Int))) (fun r => r.2 = 0 → r.1.length = l.length ∧ 0 < l.length ∧ l.length ≤ 200 ∧ okL vars l) := fun he => T.pure fun h => absurd h he
    refine T.ite (fun h2 => T.ite (fun _ => T.yes (by decide) (bad (by decide))) (fun _ => T.ite (fun h => ?_) (fun _ => T.yes (hroom _) (go (by simpa using h2))))) (fun h2 => T.ite (fun h => bad (by simpa using h)) (fun h => T.yes (hroom _) (go (by simpa using h))))
    simp at h h2; exact absurd h2 h
  · have hge := nlt_dec hge
    have e : i = l.length := by omega
    subst e
    exact T.pure fun _ => ⟨hI.1, hpos, hle, hI.2⟩
theorem Check_T (lv vars : Int) (l : List O) : T (fun k => expr_Check.f k lv vars l) (fun e => e = 0 → 0 < l.length ∧ l.length ≤ 200 ∧ okL vars l) :=
  T.eq (expr_Check.f_eq · lv vars l) (T.bind (degrees_T lv vars l) fun r hr => T.pure fun h => (hr h).2)
end Go.Proofs.Ytplmejnoepkdgaa.H1
namespace Go.Proofs.Ytplmejnoepkdgaa.H1
open Go Go.Proofs.Ytplmejnoepkdgaa.Rf
noncomputable def Mv (lv : Int) (a b : E) : E := (Mul_T lv a b).choose
theorem Mv_ev (lv : Int) (a b : E) : Ev (fun k => tower_Mul.f k lv a b) (Mv lv a b) := (Mul_T lv a b).choose_spec.2
theorem Mv_T (lv : Int) (a b : E) : T (fun k => tower_Mul.f k lv a b) (fun r => r = Mv lv a b) := ⟨_, rfl, Mv_ev lv a b⟩
def Av (a b : E) : E := (xorI .u64 a.1 b.1, xorI .u64 a.2.1 b.2.1, ())
/-- A step's value. -/
noncomputable def nxt (lv : Int) (v out : List E) (o : O) : E :=
  if o.1 = 1 then o.2.2.2.1 else if o.1 = 2 then v.getD o.2.1.toNat z else if o.1 = 3 then Av (out.getD o.2.1.toNat z) (out.getD o.2.2.1.toNat z) else if o.1 = 4 then Mv lv (out.getD o.2.1.toNat z) (out.getD o.2.2.1.toNat z) else z
noncomputable def outs (lv : Int) (v : List E) : List E → List O → List E
  | out, [] => out
  | out, o :: l => outs lv v (out ++ [nxt lv v out o]) l
theorem outs_append (lv : Int) (v : List E) : ∀ (l m : List O) (out : List E), outs lv v out (l ++ m) = outs lv v (outs lv v out l) m
  | [], m, out => rfl
  | o :: l, m, out => outs_append lv v l m _
theorem take_snoc {α : Type} (l : List α) (d : α) {i : Nat} (h : i < l.length) : l.take (i + 1) = l.take i ++ [l.getD i d] := by
  rw [List.take_add_one, List.getElem?_eq_getElem h, List.getD_eq_getElem?_getD, List.getElem?_eq_getElem h]; rfl
theorem Eval_T (lv : Int) (l : List O) (v : List E) (hv : v.length ≤ 100000) : T (fun k => expr_Eval.f k lv l v) (fun r =>
    (Ev (fun k => expr_Check.f k lv (v.length : Int) l) 0 → (∀ i, i < v.length → ofB lv (v.getD i z) = true) → r.1 = (outs lv v [] l).getD (l.length - 1) z) ∧
    (r.1 = z ∨ (Ev (fun k => expr_Check.f k lv (v.length : Int) l) 0 ∧ ∀ i, i < v.length → ofB lv (v.getD i z) = true))) := by
  refine T.eq (expr_Eval.f_eq · lv l v) (T.bindE (Check_T lv _ l) fun e he hE => T.ite (fun h => T.pure ⟨fun h0 _ => ?_, .inl rfl⟩) fun h => ?_)
  · have := hE.uniq h0; subst this; simp at h
  have h : e = 0 := by simpa using h
  subst h
  obtain ⟨q1, q2, q3⟩ := he rfl
  refine T.loop0 (σ := Unit) (f := fun k _ i => expr_Eval.l58 k lv l v (0, 0, ()) v (v.length : Int) i) v.length (fun _ i => ∀ j, j < i → ofB lv (v.getD j z) = true) () (fun j h => absurd h (by omega)) fun s i hi hI ih => ?_
  refine T.eq (expr_Eval.l58_eq · lv l v _ v _ _) (T.ite (fun h => ?_) (fun h => ?_))
  · have hlt := lt_dec h
    simp only [Int.toNat_natCast]
    refine T.yes (inB_nat hlt) (T.bind (of_T _ _) fun b hb => T.ite (fun hn => T.pure ⟨fun _ ho => ?_, .inl rfl⟩) fun hy => ?_)
    · have := ho i hlt
      rw [show ofB lv (v.getD i z) = b from hb.symm] at this
      subst this; simp at hn
    · rw [inc (by omega)]
      refine ih () hlt fun j hj => ?_
      by_cases e : j = i
      · subst e
        rw [show ofB lv (v.getD j z) = b from hb.symm]; simpa using hy
      · exact hI j (by omega)
  · have e : i = v.length := by have := nlt_dec h; omega
    subst e
    refine T.loop0 (f := fun k s i => expr_Eval.l250 k lv v (0, 0, ()) s l (l.length : Int) i) l.length (fun s i => s = outs lv v [] (l.take i) ∧ s.length = i) [] ⟨rfl, rfl⟩ fun s i hi hI' ih => ?_
    refine T.eq (expr_Eval.l250_eq · lv v _ s l _ _) (T.ite (fun h => ?_) (fun h => ?_))
    · have hlt := lt_dec h
      simp only [Int.toNat_natCast]
      have hok := q3 i hlt
      obtain ⟨o, ho⟩ : ∃ o, o = l.getD i zo := ⟨_, rfl⟩
      have ho' : l.getD i (0, 0, 0, (0, 0, ()), ()) = o := ho.symm
      rw [← ho] at hok
      have hroom : ∀ t : E, room (s.length + ([t] : List E).length) 16 = true := fun t => room_ok (by have := hI'.2; simp only [List.length_singleton]; omega)
      have go : ∀ t, t = nxt lv v s o → T (fun k => expr_Eval.l250 k lv v (0, 0, ()) (s ++ [t]) l (l.length : Int) (w64 ((i : Int) + 1))) _ := fun t ht => by
        rw [inc (by omega)]
        refine ih _ hlt ⟨?_, by simp [hI'.2]⟩
        rw [take_snoc l zo hlt, outs_append, ← hI'.1, ht, ho]; rfl
      simp only [ho']
      obtain ⟨u1, u2, u3⟩ := hok
      rw [← hI'.2] at u3
      refine T.yes (inB_nat hlt) (T.ite (fun k1 => T.yes (hroom _) (go _ ?_)) fun k1 => T.ite (fun k2 => T.yes ?_ (T.yes (hroom _) (go _ ?_))) fun k2 => T.ite (fun k3 => T.yes ?_ (T.yes ?_ (T.bind (add_T _ _) fun t ht => T.yes (hroom _) (go _ ?_)))) fun k3 => T.ite (fun k4 => T.yes ?_ (T.yes ?_ (T.bind (Mv_T _ _ _) fun t ht => T.yes (hroom _) (go _ ?_)))) fun k4 => T.yes (hroom _) (go _ ?_))
      all_goals simp only [beq_iff_eq, beq_eq_false_iff_ne, ne_eq] at *
      · rw [nxt, if_pos k1]
      · exact inB_int (u2 k2).1 (u2 k2).2
      · rw [nxt, if_neg k1, if_pos k2]; rfl
      · exact inB_int (u3 (.inl k3)).1 (u3 (.inl k3)).2.1
      · exact inB_int (u3 (.inl k3)).2.2.1 (u3 (.inl k3)).2.2.2
      · rw [nxt, if_neg k1, if_neg k2, if_pos k3, ht]; rfl
      · exact inB_int (u3 (.inr k4)).1 (u3 (.inr k4)).2.1
      · exact inB_int (u3 (.inr k4)).2.2.1 (u3 (.inr k4)).2.2.2
      · rw [nxt, if_neg k1, if_neg k2, if_neg k3, if_pos k4, ht]; rfl
      · rw [nxt, if_neg k1, if_neg k2, if_neg k3, if_neg k4]; rfl
    · have e : i = l.length := by have := nlt_dec h; omega
      subst e
      rw [List.take_length] at hI'
      have hw : w64 ((s.length : Int) - 1) = ((l.length - 1 : Nat) : Int) := by rw [w64_in (by omega) (by omega)]; omega
      rw [hw]
      refine T.yes (inB_nat (by omega)) (T.pure ⟨fun _ _ => ?_, .inr ⟨hE, hI⟩⟩)
      rw [Int.toNat_natCast, hI'.1]; rfl
end Go.Proofs.Ytplmejnoepkdgaa.H1
namespace Go.Proofs.Ytplmejnoepkdgaa.H1
open Go Go.Proofs.Ytplmejnoepkdgaa.Rf
theorem set_get {α : Type} (l : List α) (i j : Nat) (a d : α) (hi : i < l.length) : (l.set i a).getD j d = if j = i then a else l.getD j d := by
  by_cases h : j = i
  · subst h; simp [List.getD_eq_getElem?_getD, hi]
  · simp [List.getD_eq_getElem?_getD, h, List.getElem?_set_ne (Ne.symm h)]
theorem list_eq {α : Type} {l m : List α} (d : α) (hl : l.length = m.length) (h : ∀ j, j < m.length → l.getD j d = m.getD j d) : l = m := by
  apply List.ext_getElem hl
  intro j h1 h2
  have := h j h2
  simpa [List.getD_eq_getElem?_getD, h1, h2] using this
end Go.Proofs.Ytplmejnoepkdgaa.H1
namespace Go.Proofs.Ytplmejnoepkdgaa.H1
open Go Go.Proofs.Ytplmejnoepkdgaa.Rf
/-- A step behind so many others. -/
def shiftO (n : Int) (o : O) : O := if o.1 = 3 ∨ o.1 = 4 then (o.1, w64 (o.2.1 + n), w64 (o.2.2.1 + n), o.2.2.2) else o
theorem nilB_same {α β : Type} (l : List α) (a b : Option β) (h : l.isEmpty = true → b = a) : nilB l a b = b := by
  unfold nilB
  cases hl : l.isEmpty with
  | false => rfl
  | true => rw [h hl]; simp [both]
theorem clone_T (l : List O) (hl : l.length ≤ 1000) : T (fun k => slices_Clone_Op.f k l) (fun r => r = l) := by
  refine T.eq (slices_Clone_Op.f_eq · l) ?_
  have hr : room l.length 40 = true := room_ok (by omega)
  have : nilB l (some []) (bif room l.length 40 then some l else none) = some l := by
    rw [hr]
    exact nilB_same l _ _ fun h => by rw [List.isEmpty_iff.1 h]; rfl
  rw [this]
  exact T.pure rfl
theorem behind_T (n : Int) (l : List O) (hl : l.length ≤ 1000) : T (fun k => zero_behind.f k n l) (fun r => r = l.map (shiftO n)) := by
  refine T.eq (zero_behind.f_eq · n l) (T.bind (clone_T l hl) fun r hr => ?_)
  subst hr
  refine T.loop0 (f := fun k s i => zero_behind.l58 k n s (r.length : Int) i) r.length (fun s i => s.length = r.length ∧ ∀ j, s.getD j zo = if j < i then shiftO n (r.getD j zo) else r.getD j zo) r ⟨rfl, fun j => by simp⟩ fun s i hi hI ih => ?_
  refine T.eq (zero_behind.l58_eq · n s _ _) (T.ite (fun h => ?_) (fun h => ?_))
  · have hlt := lt_dec h
    simp only [Int.toNat_natCast, List.length_set]
    have hb : inB (i : Int) s.length = true := inB_nat (by omega)
    have hget : s.getD i (0, 0, 0, (0, 0, ()), ()) = r.getD i zo := by have := hI.2 i; rw [if_neg (Nat.lt_irrefl i)] at this; exact this
    obtain ⟨o, ho⟩ : ∃ o, o = r.getD i zo := ⟨_, rfl⟩
    rw [← ho] at hget
    simp only [hget]
    have hset : ∀ a, (s.set i a).getD i (0, 0, 0, (0, 0, ()), ()) = a := fun a => by rw [set_get _ _ _ _ _ (by omega), if_pos rfl]
    simp only [hset, List.set_set]
    rw [inc (by omega)]
    have go : ∀ s', s'.length = r.length → s'.getD i zo = shiftO n o → (∀ j, j ≠ i → s'.getD j zo = s.getD j zo) → T (fun k => zero_behind.l58 k n s' (r.length : Int) ((i : Int) + 1)) _ := fun s' h1 h2 h3 => ih s' hlt ⟨h1, fun j => by
      by_cases e : j = i
      · subst e; rw [h2, if_pos (Nat.lt_succ_self j), ho]
      · rw [h3 j e, hI.2 j]
        by_cases h' : j < i
        · rw [if_pos h', if_pos (by omega)]
        · rw [if_neg h', if_neg (by omega)]⟩
    have upd : ∀ a : O, a = shiftO n o → T (fun k => zero_behind.l58 k n (s.set i a) (r.length : Int) ((i : Int) + 1)) _ := fun a ha => go _ (by simp [hI.1]) (by rw [set_get _ _ _ _ _ (by omega), if_pos rfl, ha]) (fun j hj => by rw [set_get _ _ _ _ _ (by omega), if_neg hj])
    refine T.yes hb (T.ite (fun k3 => T.yes hb (T.yes hb (T.yes hb (T.yes hb (upd _ ?_))))) fun k3 => T.yes hb (T.ite (fun k4 => T.yes hb (T.yes hb (T.yes hb (T.yes hb (upd _ ?_))))) fun k4 => go s hI.1 ?_ (fun j _ => rfl)))
    · rw [shiftO, if_pos (.inl (by simpa using k3))]
    · rw [shiftO, if_pos (.inr (by simpa using k4))]
    · have : s.getD i zo = o := hget
      rw [this, shiftO, if_neg]
      simp only [beq_eq_false_iff_ne, ne_eq] at k3 k4
      omega
  · have e : i = r.length := by have := nlt_dec h; omega
    subst e
    refine T.pure (list_eq zo (by simp [hI.1]) fun j hj => ?_)
    rw [List.length_map] at hj
    rw [hI.2 j, if_pos hj]
    simp [List.getD_eq_getElem?_getD, hj]
theorem getD_app_l {α : Type} (l m : List α) (d : α) {j : Nat} (h : j < l.length) : (l ++ m).getD j d = l.getD j d := by simp [List.getD_eq_getElem?_getD, List.getElem?_append_left h]
theorem getD_app_r {α : Type} (l m : List α) (d : α) (j : Nat) : (l ++ m).getD (l.length + j) d = m.getD j d := by simp [List.getD_eq_getElem?_getD, List.getElem?_append_right]
def fewC (c : List (List O)) : Prop := c.length ≤ 50 ∧ ∀ j, (c.getD j []).length ≤ 12
end Go.Proofs.Ytplmejnoepkdgaa.H1
namespace Go.Proofs.Ytplmejnoepkdgaa.H1
open Go Go.Proofs.Ytplmejnoepkdgaa.Rf
theorem few9_T (t : List (List E)) : T (fun k => steeplelaw09_Few.f k t 5 16) (fun b => b = true → t.length ≤ 5 ∧ ∀ i, (t.getD i []).length ≤ 16) := by
  refine T.eq (steeplelaw09_Few.f_eq · t 5 16) (T.ite (fun _ => T.pure (by simp)) fun h5 => ?_)
  have h5 : t.length ≤ 5 := by simp only [gt_iff_lt, decide_eq_false_iff_not] at h5; omega
  refine T.loop0 (σ := Unit) (f := fun k _ i => steeplelaw09_Few.l58 k t 16 i) t.length (fun _ i => ∀ j, j < i → (t.getD j []).length ≤ 16) () (fun j h => absurd h (by omega)) fun s i hi hI ih => ?_
  refine T.eq (steeplelaw09_Few.l58_eq · t 16 _) (T.ite (fun h => ?_) (fun h => ?_))
  · have hlt := lt_dec h
    simp only [Int.toNat_natCast]
    refine T.yes (inB_nat hlt) (T.ite (fun _ => T.pure (by simp)) fun h16 => ?_)
    rw [inc (by omega)]
    refine ih () hlt fun j hj => ?_
    by_cases e : j = i
    · subst e
      simp only [gt_iff_lt, decide_eq_false_iff_not] at h16
      omega
    · exact hI j (by omega)
  · have e : i = t.length := by have := nlt_dec h; omega
    subst e
    refine T.pure fun _ => ⟨h5, fun i => ?_⟩
    by_cases hi : i < t.length
    · exact hI i hi
    · rw [List.getD_eq_getElem?_getD, List.getElem?_eq_none (by omega)]; simp
theorem few21_T (x : List (List O) × List (List E) × Unit) : T (fun k => steeplelaw21_Few.f k x) (fun b => b = true → fewC x.1 ∧ x.2.1.length ≤ 5 ∧ ∀ i, (x.2.1.getD i []).length ≤ 16) := by
  refine T.eq (steeplelaw21_Few.f_eq · x) (T.ite (fun _ => T.pure (by simp)) fun h50 => T.bind (few9_T x.2.1) fun b hb => T.ite (fun _ => T.pure (by simp)) fun hb' => ?_)
  have h50 : x.1.length ≤ 50 := by simp only [gt_iff_lt, decide_eq_false_iff_not] at h50; omega
  obtain ⟨k1, k2⟩ := hb (by simpa using hb')
  refine T.loop0 (σ := Unit) (f := fun k _ i => steeplelaw21_Few.l58 k x i) x.1.length (fun _ i => ∀ j, j < i → (x.1.getD j []).length ≤ 12) () (fun j h => absurd h (by omega)) fun s i hi hI ih => ?_
  refine T.eq (steeplelaw21_Few.l58_eq · x _) (T.ite (fun h => ?_) (fun h => ?_))
  · have hlt := lt_dec h
    simp only [Int.toNat_natCast]
    refine T.yes (inB_nat hlt) (T.ite (fun _ => T.pure (by simp)) fun h16 => ?_)
    rw [inc (by omega)]
    refine ih () hlt fun j hj => ?_
    by_cases e : j = i
    · subst e
      simp only [gt_iff_lt, decide_eq_false_iff_not] at h16
      omega
    · exact hI j (by omega)
  · have e : i = x.1.length := by have := nlt_dec h; omega
    subst e
    have fin : fewC x.1 ∧ x.2.1.length ≤ 5 ∧ ∀ i, (x.2.1.getD i []).length ≤ 16 := ⟨⟨h50, fun i => by
      by_cases hi : i < x.1.length
      · exact hI i hi
      · rw [List.getD_eq_getElem?_getD, List.getElem?_eq_none (by omega)]; simp⟩, k1, k2⟩
    exact T.ite (fun _ => T.pure fun _ => fin) (fun _ => T.pure fun _ => fin)
theorem awake_ev (k : Nat) : steeplelaw21_awake.f (k + 100) = some true := by kernel_rfl
theorem awake_T : T (fun k => steeplelaw21_awake.f k) (fun b => b = true) := ⟨true, rfl, 100, fun k hk => by obtain ⟨j, rfl⟩ := Nat.exists_eq_add_of_le hk; rw [Nat.add_comm]; exact awake_ev j⟩
end Go.Proofs.Ytplmejnoepkdgaa.H1
namespace Go.Proofs.Ytplmejnoepkdgaa.H1
open Go Go.Proofs.Ytplmejnoepkdgaa.Rf
end Go.Proofs.Ytplmejnoepkdgaa.H1
namespace Go.Proofs.Ytplmejnoepkdgaa.H1
open Go Go.Proofs.Ytplmejnoepkdgaa.Rf
def rng (n : Int) : Prop := 0 ≤ n ∧ n < 18446744073709551616
theorem wrap_rng (n : Int) : rng (IntKind.u64.wrap n) := by
  have : IntKind.u64.wrap n = n % 18446744073709551616 := by unfold IntKind.wrap; simp [IntKind.signed, IntKind.bits]
  rw [this]; exact ⟨Int.emod_nonneg _ (by decide), Int.emod_lt_of_pos _ (by decide)⟩
theorem wrap_in {n : Int} (h : rng n) : IntKind.u64.wrap n = n := by
  have : IntKind.u64.wrap n = n % 18446744073709551616 := by unfold IntKind.wrap; simp [IntKind.signed, IntKind.bits]
  rw [this]; exact Int.emod_eq_of_lt h.1 h.2
theorem xor_rng (a b : Int) : rng (xorI .u64 a b) := wrap_rng _
theorem ofInt_nat {n : Int} (h : rng n) : ((BitVec.ofInt 64 n).toNat : Int) = n := by
  rw [BitVec.toNat_ofInt]
  obtain ⟨h1, h2⟩ := h
  have : n % ((2 ^ 64 : Nat) : Int) = n := Int.emod_eq_of_lt h1 (by simpa using h2)
  rw [this]; omega
theorem xor_zl {n : Int} (h : rng n) : xorI .u64 0 n = n := by
  unfold xorI
  have e : IntKind.u64.bits = 64 := rfl
  rw [e, show BitVec.ofInt 64 0 = 0#64 by decide, BitVec.zero_xor, ofInt_nat h]; exact wrap_in h
def rngE (x : E) : Prop := rng x.1 ∧ rng x.2.1
theorem rngE_z : rngE z := ⟨⟨by decide, by decide⟩, by decide, by decide⟩
theorem Av_zl {x : E} (h : rngE x) : Av z x = x := Prod.ext (xor_zl h.1) (Prod.ext (xor_zl h.2) rfl)
def one : E := (0, 1, ())
theorem ofB_bit {lv : Int} (h1 : 0 ≤ lv) (h2 : lv ≤ 7) : ofB lv z = true ∧ ofB lv one = true := by
  have hl : lv = 0 ∨ lv = 1 ∨ lv = 2 ∨ lv = 3 ∨ lv = 4 ∨ lv = 5 ∨ lv = 6 ∨ lv = 7 := by omega
  rcases hl with rfl | rfl | rfl | rfl | rfl | rfl | rfl | rfl <;> decide
end Go.Proofs.Ytplmejnoepkdgaa.H1
namespace Go.Proofs.Ytplmejnoepkdgaa.H1
open Go Go.Proofs.Ytplmejnoepkdgaa.Rf
/-- All elements are of a level. -/
def allOf (lv : Int) (l : List E) : Prop := ∀ j, j < l.length → ofB lv (l.getD j z) = true
/-- Evaluating what may be evaluated is no error. -/
theorem Eval_ok (lv : Int) (l : List O) (v : List E) (hv : v.length ≤ 100000) (hc : Ev (fun k => expr_Check.f k lv (v.length : Int) l) 0) (ho : allOf lv v) : T (fun k => expr_Eval.f k lv l v) (fun r => r.2 = 0) := by
  obtain ⟨q1, q2, q3⟩ := (Check_T lv _ l).of hc rfl
  refine T.eq (expr_Eval.f_eq · lv l v) (T.bindE (Check_T lv _ l) fun e he hE => T.ite (fun h => ?_) fun h => ?_)
  · have := hE.uniq hc; subst this; simp at h
  refine T.loop0 (σ := Unit) (f := fun k _ i => expr_Eval.l58 k lv l v (0, 0, ()) v (v.length : Int) i) v.length (fun _ i => True) () trivial fun s i hi hI ih => ?_
  refine T.eq (expr_Eval.l58_eq · lv l v _ v _ _) (T.ite (fun h => ?_) (fun h => ?_))
  · have hlt := lt_dec h
    simp only [Int.toNat_natCast]
    refine T.yes (inB_nat hlt) (T.bind (of_T _ _) fun b hb => T.no ?_ ?_)
    · rw [hb, show v.getD i (0, 0, ()) = v.getD i z from rfl, ho i hlt]; rfl
    · rw [inc (by omega)]; exact ih () hlt trivial
  · refine T.loop0 (f := fun k s i => expr_Eval.l250 k lv v (0, 0, ()) s l (l.length : Int) i) l.length (fun s i => s.length = i) [] rfl fun s i hi hI' ih => ?_
    refine T.eq (expr_Eval.l250_eq · lv v _ s l _ _) (T.ite (fun h => ?_) (fun h => ?_))
    · have hlt := lt_dec h
      simp only [Int.toNat_natCast]
      have hok := q3 i hlt
      obtain ⟨o, hoo⟩ : ∃ o, o = l.getD i zo := ⟨_, rfl⟩
      have ho' : l.getD i (0, 0, 0, (0, 0, ()), ()) = o := hoo.symm
      rw [← hoo] at hok
      have hroom : ∀ t : E, room (s.length + ([t] : List E).length) 16 = true := fun t => room_ok (by simp only [List.length_singleton]; omega)
      have go : ∀ t, T (fun k => expr_Eval.l250 k lv v (0, 0, ()) (s ++ [t]) l (l.length : Int) (w64 ((i : Int) + 1))) _ := fun t => by
        rw [inc (by omega)]
        exact ih _ hlt (by simp [hI'])
      simp only [ho']
      obtain ⟨u1, u2, u3⟩ := hok
      rw [← hI'] at u3
      refine T.yes (inB_nat hlt) (T.ite (fun k1 => T.yes (hroom _) (go _)) fun k1 => T.ite (fun k2 => T.yes ?_ (T.yes (hroom _) (go _))) fun k2 => T.ite (fun k3 => T.yes ?_ (T.yes ?_ (T.bind (add_T _ _) fun t ht => T.yes (hroom _) (go _)))) fun k3 => T.ite (fun k4 => T.yes ?_ (T.yes ?_ (T.bind (Mv_T _ _ _) fun t ht => T.yes (hroom _) (go _)))) fun k4 => T.yes (hroom _) (go _))
      all_goals simp only [beq_iff_eq, beq_eq_false_iff_ne, ne_eq] at *
      · exact inB_int (u2 k2).1 (u2 k2).2
      · exact inB_int (u3 (.inl k3)).1 (u3 (.inl k3)).2.1
      · exact inB_int (u3 (.inl k3)).2.2.1 (u3 (.inl k3)).2.2.2
      · exact inB_int (u3 (.inr k4)).1 (u3 (.inr k4)).2.1
      · exact inB_int (u3 (.inr k4)).2.2.1 (u3 (.inr k4)).2.2.2
    · have e : i = l.length := by have := nlt_dec h; omega
      subst e
      have hw : w64 ((s.length : Int) - 1) = ((l.length - 1 : Nat) : Int) := by rw [w64_in (by omega) (by omega)]; omega
      rw [hw]
      exact T.yes (inB_nat (by omega)) (T.pure rfl)
end Go.Proofs.Ytplmejnoepkdgaa.H1
namespace Go.Proofs.Ytplmejnoepkdgaa.H1
open Go Go.Proofs.Ytplmejnoepkdgaa.Rf
def fold (f : Nat → E) : Nat → E
  | 0 => z
  | n + 1 => Av (fold f n) (f n)
end Go.Proofs.Ytplmejnoepkdgaa.H1
namespace Go.Proofs.Ytplmejnoepkdgaa.H1
open Go Go.Proofs.Ytplmejnoepkdgaa.Rf
theorem T.both {α : Type} {g : Nat → Option α} {p q : α → Prop} (h1 : T g p) (h2 : T g q) : T g (fun a => p a ∧ q a) := by
  obtain ⟨a, ha, he⟩ := h1
  exact ⟨a, ⟨ha, h2.of he⟩, he⟩
theorem clone3_T (t : List E) (hl : t.length ≤ 1000) : T (fun k => slices_Clone_Elem.f k t) (fun r => r = t) := by
  refine T.eq (slices_Clone_Elem.f_eq · t) ?_
  have hr : room t.length 16 = true := room_ok (by omega)
  have : nilB t (some []) (bif room t.length 16 then some t else none) = some t := by
    rw [hr]
    exact nilB_same t _ _ fun h => by rw [List.isEmpty_iff.1 h]; rfl
  rw [this]
  exact T.pure rfl
theorem Ev.T {α : Type} {g : Nat → Option α} {a : α} (h : Ev g a) : T g (fun r => r = a) := ⟨a, rfl, h⟩
theorem shl_pow {m : Nat} (h : m ≤ 6) : shlI .i64 1 (m : Int) = ((2 ^ m : Nat) : Int) := by
  have hl : m = 0 ∨ m = 1 ∨ m = 2 ∨ m = 3 ∨ m = 4 ∨ m = 5 ∨ m = 6 := by omega
  rcases hl with rfl | rfl | rfl | rfl | rfl | rfl | rfl <;> decide
theorem wu_in {n : Int} (h1 : 0 ≤ n) (h2 : n < 18446744073709551616) : wu64 n = n := wrap_in ⟨h1, h2⟩
end Go.Proofs.Ytplmejnoepkdgaa.H1
namespace Go.Proofs.Ytplmejnoepkdgaa.Tow
/-- Words of a level, times the level's generator. -/
def mulX : Nat → Nat → Nat
  | 0, a => a
  | l + 1, a => (((a &&& (2 ^ 2 ^ l - 1)) ^^^ mulX l (a >>> 2 ^ l)) <<< 2 ^ l) ^^^ (a >>> 2 ^ l)
/-- The product of words of a level. -/
def mul : Nat → Nat → Nat → Nat
  | 0, a, b => a &&& b &&& 1
  | l + 1, a, b =>
    match Nat.beq a 0 || Nat.beq b 0 with
    | true => 0
    | false =>
      ((mul l ((a >>> 2 ^ l) ^^^ (a &&& (2 ^ 2 ^ l - 1))) ((b >>> 2 ^ l) ^^^ (b &&& (2 ^ 2 ^ l - 1))) ^^^ mul l (a >>> 2 ^ l) (b >>> 2 ^ l) ^^^ mul l (a &&& (2 ^ 2 ^ l - 1)) (b &&& (2 ^ 2 ^ l - 1)) ^^^ mulX l (mul l (a >>> 2 ^ l) (b >>> 2 ^ l))) <<< 2 ^ l)
        ^^^ (mul l (a &&& (2 ^ 2 ^ l - 1)) (b &&& (2 ^ 2 ^ l - 1)) ^^^ mul l (a >>> 2 ^ l) (b >>> 2 ^ l))
theorem mulX0 : ∀ l, mulX l 0 = 0
  | 0 => rfl
  | l + 1 => by simp [mulX, mulX0 l]
theorem mul0l : ∀ l b, mul l 0 b = 0
  | 0, b => by simp [mul]
  | l + 1, b => rfl
theorem mul0r : ∀ l a, mul l a 0 = 0
  | 0, a => by simp [mul]
  | l + 1, a => by
    unfold mul
    have : (Nat.beq a 0 || Nat.beq 0 0) = true := by simp
    rw [this]
theorem mul_eq (l a b : Nat) : mul (l + 1) a b =
      ((mul l ((a >>> 2 ^ l) ^^^ (a &&& (2 ^ 2 ^ l - 1))) ((b >>> 2 ^ l) ^^^ (b &&& (2 ^ 2 ^ l - 1))) ^^^ mul l (a >>> 2 ^ l) (b >>> 2 ^ l) ^^^ mul l (a &&& (2 ^ 2 ^ l - 1)) (b &&& (2 ^ 2 ^ l - 1)) ^^^ mulX l (mul l (a >>> 2 ^ l) (b >>> 2 ^ l))) <<< 2 ^ l)
        ^^^ (mul l (a &&& (2 ^ 2 ^ l - 1)) (b &&& (2 ^ 2 ^ l - 1)) ^^^ mul l (a >>> 2 ^ l) (b >>> 2 ^ l)) := by
  by_cases ha : a = 0
  · subst ha
    simp [mul0l, mulX0]
  · by_cases hb : b = 0
    · subst hb
      simp [mul0r, mulX0]
    · cases a with
      | zero => exact absurd rfl ha
      | succ a =>
        cases b with
        | zero => exact absurd rfl hb
        | succ b => rfl
theorem mulX_xor : ∀ l a b, mulX l (a ^^^ b) = mulX l a ^^^ mulX l b
  | 0, a, b => rfl
  | l + 1, a, b => by
    simp only [mulX, Nat.shiftRight_xor_distrib, Nat.and_xor_distrib_right, mulX_xor l, Nat.shiftLeft_xor_distrib]
    ac_rfl
theorem mul_xorl : ∀ l a a' b, mul l (a ^^^ a') b = mul l a b ^^^ mul l a' b
  | 0, a, a', b => by simp only [mul, Nat.and_xor_distrib_right]
  | l + 1, a, a', b => by
    have e : ((a ^^^ a') >>> 2 ^ l) ^^^ ((a ^^^ a') &&& (2 ^ 2 ^ l - 1)) = ((a >>> 2 ^ l) ^^^ (a &&& (2 ^ 2 ^ l - 1))) ^^^ ((a' >>> 2 ^ l) ^^^ (a' &&& (2 ^ 2 ^ l - 1))) := by
      simp only [Nat.shiftRight_xor_distrib, Nat.and_xor_distrib_right]; ac_rfl
    simp only [mul_eq, e]
    simp only [Nat.shiftRight_xor_distrib, Nat.and_xor_distrib_right, mul_xorl l, mulX_xor, Nat.shiftLeft_xor_distrib]
    ac_rfl
theorem mul_xorr : ∀ l a b b', mul l a (b ^^^ b') = mul l a b ^^^ mul l a b'
  | 0, a, b, b' => by simp only [mul, Nat.and_xor_distrib_left, Nat.and_xor_distrib_right]
  | l + 1, a, b, b' => by
    have e : ((b ^^^ b') >>> 2 ^ l) ^^^ ((b ^^^ b') &&& (2 ^ 2 ^ l - 1)) = ((b >>> 2 ^ l) ^^^ (b &&& (2 ^ 2 ^ l - 1))) ^^^ ((b' >>> 2 ^ l) ^^^ (b' &&& (2 ^ 2 ^ l - 1))) := by
      simp only [Nat.shiftRight_xor_distrib, Nat.and_xor_distrib_right]; ac_rfl
    simp only [mul_eq, e]
    simp only [Nat.shiftRight_xor_distrib, Nat.and_xor_distrib_right, mul_xorr l, mulX_xor, Nat.shiftLeft_xor_distrib]
    ac_rfl
theorem xor_low {n r : Nat} (h : r < 2 ^ n) : 2 ^ n + r = 2 ^ n ^^^ r := by
  have h2 := Nat.two_pow_add_eq_or_of_lt h 1
  rw [Nat.mul_one] at h2
  rw [h2]
  apply Nat.eq_of_testBit_eq
  intro i
  rw [Nat.testBit_or, Nat.testBit_xor, Nat.testBit_two_pow]
  by_cases e : n = i
  · subst e
    rw [Nat.testBit_lt_two_pow h]; simp
  · simp [e]
/-- What is a sum's sum is told by single bits. -/
theorem by_bits (f g : Nat → Nat) (hf : ∀ x y, f (x ^^^ y) = f x ^^^ f y) (hg : ∀ x y, g (x ^^^ y) = g x ^^^ g y) : ∀ n, (∀ i, i < n → f (2 ^ i) = g (2 ^ i)) → ∀ a, a < 2 ^ n → f a = g a
  | 0, _, a, ha => by
    have : a = 0 := by simpa using ha
    subst this
    have e1 := hf 0 0
    have e2 := hg 0 0
    simp only [Nat.xor_self] at e1 e2
    rw [e1, e2]
  | n + 1, h, a, ha => by
    have ih := by_bits f g hf hg n (fun i hi => h i (by omega))
    by_cases hb : a < 2 ^ n
    · exact ih a hb
    · have hlow : a - 2 ^ n < 2 ^ n := by rw [Nat.pow_succ] at ha; omega
      have e : a = 2 ^ n ^^^ (a - 2 ^ n) := by
        have h1 : 2 ^ n + (a - 2 ^ n) = a := by omega
        rw [← xor_low hlow, h1]
      rw [e, hf, hg, h n (by omega), ih _ hlow]
theorem xor_shl {w x y : Nat} (h : y < 2 ^ w) : x <<< w + y = x <<< w ^^^ y := by
  rw [Nat.shiftLeft_eq, Nat.mul_comm, Nat.two_pow_add_eq_or_of_lt h x]
  apply Nat.eq_of_testBit_eq
  intro i
  rw [Nat.testBit_or, Nat.testBit_xor]
  by_cases e : i < w
  · have : (2 ^ w * x).testBit i = false := by
      rw [Nat.mul_comm, ← Nat.shiftLeft_eq, Nat.testBit_shiftLeft]; simp; omega
    rw [this]; simp
  · have : y.testBit i = false := Nat.testBit_lt_two_pow (Nat.lt_of_lt_of_le h (Nat.pow_le_pow_right (by decide) (by omega)))
    rw [this]; simp
/-- A word's halves. -/
theorem halves (w a : Nat) : a = (a >>> w) <<< w ^^^ (a &&& (2 ^ w - 1)) := by
  have hlt : a &&& (2 ^ w - 1) < 2 ^ w := by rw [Nat.and_two_pow_sub_one_eq_mod]; exact Nat.mod_lt _ (Nat.two_pow_pos w)
  rw [← xor_shl hlt, Nat.and_two_pow_sub_one_eq_mod, Nat.shiftLeft_eq, Nat.shiftRight_eq_div_pow]
  rw [Nat.mul_comm]; exact (Nat.div_add_mod a (2 ^ w)).symm
theorem lo_lt (w a : Nat) : a &&& (2 ^ w - 1) < 2 ^ w := by rw [Nat.and_two_pow_sub_one_eq_mod]; exact Nat.mod_lt _ (Nat.two_pow_pos w)
theorem hi_lt {w a : Nat} (h : a < 2 ^ (w + w)) : a >>> w < 2 ^ w := by
  rw [Nat.shiftRight_eq_div_pow, Nat.div_lt_iff_lt_mul (Nat.two_pow_pos w), ← Nat.pow_add]; exact h
theorem hi_of {w x y : Nat} (h : y < 2 ^ w) : (x <<< w ^^^ y) >>> w = x := by
  rw [← xor_shl h, Nat.shiftRight_eq_div_pow, Nat.shiftLeft_eq, Nat.add_comm, Nat.add_mul_div_right _ _ (Nat.two_pow_pos w), Nat.div_eq_of_lt h, Nat.zero_add]
theorem lo_of {w x y : Nat} (h : y < 2 ^ w) : (x <<< w ^^^ y) &&& (2 ^ w - 1) = y := by
  rw [← xor_shl h, Nat.and_two_pow_sub_one_eq_mod, Nat.shiftLeft_eq, Nat.add_comm, Nat.add_mul_mod_self_right, Nat.mod_eq_of_lt h]
theorem cat_lt {w x y : Nat} (hx : x < 2 ^ w) (hy : y < 2 ^ w) : x <<< w ^^^ y < 2 ^ (w + w) := by
  rw [← xor_shl hy, Nat.shiftLeft_eq, Nat.pow_add]
  have : (x + 1) * 2 ^ w ≤ 2 ^ w * 2 ^ w := Nat.mul_le_mul_right _ hx
  rw [Nat.add_mul] at this; omega
theorem two_two (l : Nat) : 2 ^ 2 ^ (l + 1) = 2 ^ (2 ^ l + 2 ^ l) := by rw [Nat.pow_succ, Nat.mul_two]
theorem mulX_lt : ∀ (l : Nat) (a : Nat), a < 2 ^ 2 ^ l → mulX l a < 2 ^ 2 ^ l
  | 0, a, h => h
  | l + 1, a, h => by
    rw [two_two] at h ⊢
    exact cat_lt (Nat.xor_lt_two_pow (lo_lt _ _) (mulX_lt l _ (hi_lt h))) (hi_lt h)
theorem mul_lt : ∀ (l : Nat) (a b : Nat), a < 2 ^ 2 ^ l → b < 2 ^ 2 ^ l → mul l a b < 2 ^ 2 ^ l
  | 0, a, b, _, _ => by
    simp only [mul]
    have : a &&& b &&& 1 ≤ 1 := Nat.and_le_right
    have e : (2 : Nat) ^ 2 ^ 0 = 2 := rfl
    omega
  | l + 1, a, b, ha, hb => by
    rw [two_two] at ha hb ⊢
    rw [mul_eq]
    have h1 := hi_lt ha
    have h2 := hi_lt hb
    have h3 := lo_lt (2 ^ l) a
    have h4 := lo_lt (2 ^ l) b
    have hh := mul_lt l _ _ h1 h2
    have hl := mul_lt l _ _ h3 h4
    have hm := mul_lt l _ _ (Nat.xor_lt_two_pow h1 h3) (Nat.xor_lt_two_pow h2 h4)
    exact cat_lt (Nat.xor_lt_two_pow (Nat.xor_lt_two_pow (Nat.xor_lt_two_pow hm hh) hl) (mulX_lt l _ hh)) (Nat.xor_lt_two_pow hl hh)
/-- A lower level's words multiply as before. -/
theorem mul_up {l a b : Nat} (ha : a < 2 ^ 2 ^ l) (hb : b < 2 ^ 2 ^ l) : mul (l + 1) a b = mul l a b := by
  rw [mul_eq]
  have h1 : a >>> 2 ^ l = 0 := by rw [Nat.shiftRight_eq_div_pow]; exact Nat.div_eq_of_lt ha
  have h2 : b >>> 2 ^ l = 0 := by rw [Nat.shiftRight_eq_div_pow]; exact Nat.div_eq_of_lt hb
  have h3 : a &&& (2 ^ 2 ^ l - 1) = a := by rw [Nat.and_two_pow_sub_one_eq_mod]; exact Nat.mod_eq_of_lt ha
  have h4 : b &&& (2 ^ 2 ^ l - 1) = b := by rw [Nat.and_two_pow_sub_one_eq_mod]; exact Nat.mod_eq_of_lt hb
  rw [h1, h2, h3, h4]
  simp [mul0l, mulX0]
end Go.Proofs.Ytplmejnoepkdgaa.Tow
namespace Go.Proofs.Ytplmejnoepkdgaa.Tow
def msk : Nat → Nat
  | 0 => 0x5555555555555555 | 1 => 0x3333333333333333 | 2 => 0x0f0f0f0f0f0f0f0f | 3 => 0x00ff00ff00ff00ff | 4 => 0x0000ffff0000ffff | 5 => 0x00000000ffffffff | _ => 0
/-- A word's blocks, times their generator; the word itself for 0. -/
def tw : Nat → Nat → Nat
  | 0, v => v
  | j + 1, v => (((v &&& msk j) ^^^ tw j ((v >>> 2 ^ j) &&& msk j)) <<< 2 ^ j) ^^^ ((v >>> 2 ^ j) &&& msk j)
theorem tw_xor : ∀ j a b, tw j (a ^^^ b) = tw j a ^^^ tw j b
  | 0, a, b => rfl
  | j + 1, a, b => by
    simp only [tw, Nat.shiftRight_xor_distrib, Nat.and_xor_distrib_right, tw_xor j, Nat.shiftLeft_xor_distrib]
    ac_rfl
def M64 : Nat := 2 ^ 64 - 1
/-- An element of 128 bits times a generator. -/
def times (j e : Nat) : Nat :=
  match Nat.blt j 6 with
  | true => (tw (j + 1) (e >>> 64) <<< 64) ^^^ tw (j + 1) (e &&& M64)
  | false => (((e &&& M64) ^^^ tw 6 (e >>> 64)) <<< 64) ^^^ (e >>> 64)
theorem x4 (p q r s : Nat) : (p ^^^ q) ^^^ (r ^^^ s) = (p ^^^ r) ^^^ (q ^^^ s) := by ac_rfl
theorem timesL_xor (j a b : Nat) : (tw (j + 1) ((a ^^^ b) >>> 64) <<< 64) ^^^ tw (j + 1) ((a ^^^ b) &&& M64) = ((tw (j + 1) (a >>> 64) <<< 64) ^^^ tw (j + 1) (a &&& M64)) ^^^ ((tw (j + 1) (b >>> 64) <<< 64) ^^^ tw (j + 1) (b &&& M64)) := by
  rw [Nat.shiftRight_xor_distrib, Nat.and_xor_distrib_right, tw_xor, tw_xor, Nat.shiftLeft_xor_distrib]
  exact x4 _ _ _ _
theorem timesH_xor (a b : Nat) : ((((a ^^^ b) &&& M64) ^^^ tw 6 ((a ^^^ b) >>> 64)) <<< 64) ^^^ ((a ^^^ b) >>> 64) = ((((a &&& M64) ^^^ tw 6 (a >>> 64)) <<< 64) ^^^ (a >>> 64)) ^^^ ((((b &&& M64) ^^^ tw 6 (b >>> 64)) <<< 64) ^^^ (b >>> 64)) := by
  rw [Nat.shiftRight_xor_distrib, Nat.and_xor_distrib_right, tw_xor, x4, Nat.shiftLeft_xor_distrib]
  exact x4 _ _ _ _
theorem times_xor (j a b : Nat) : times j (a ^^^ b) = times j a ^^^ times j b := by
  unfold times
  cases Nat.blt j 6 with
  | true => exact timesL_xor j a b
  | false => exact timesH_xor a b
/-- .. times the generators that a number's bits name, from the one on. -/
def timesFrom : Nat → Nat → Nat → Nat → Nat
  | 0, _, _, e => e
  | f + 1, j, n, e => timesFrom f (j + 1) n (match Nat.beq ((n >>> j) % 2) 1 with | true => times j e | false => e)
def timesAll (n e : Nat) : Nat := timesFrom 7 0 n e
theorem timesFrom_xor : ∀ f j n a b, timesFrom f j n (a ^^^ b) = timesFrom f j n a ^^^ timesFrom f j n b
  | 0, j, n, a, b => rfl
  | f + 1, j, n, a, b => by
    simp only [timesFrom]
    cases Nat.beq ((n >>> j) % 2) 1
    · exact timesFrom_xor f (j + 1) n a b
    · simp only [times_xor]; exact timesFrom_xor f (j + 1) n _ _
theorem timesAll_xor (n a b : Nat) : timesAll n (a ^^^ b) = timesAll n a ^^^ timesAll n b := timesFrom_xor 7 0 n a b
/-- The document's product. -/
def prodTo : Nat → Nat → Nat → Nat
  | 0, _, _ => 0
  | n + 1, a, b => prodTo n a b ^^^ (match b.testBit n with | true => timesAll n a | false => 0)
theorem xor_four (p q : Bool) (x y t : Nat) : x ^^^ y ^^^ (match (p ^^ q) with | true => t | false => 0) = x ^^^ (match p with | true => t | false => 0) ^^^ (y ^^^ (match q with | true => t | false => 0)) := by
  cases p <;> cases q <;> simp
  · rw [Nat.xor_assoc]
  · rw [Nat.xor_assoc, Nat.xor_assoc, Nat.xor_comm y]
  · have e : x ^^^ t ^^^ (y ^^^ t) = (x ^^^ y) ^^^ (t ^^^ t) := by ac_rfl
    rw [e, Nat.xor_self, Nat.xor_zero]
theorem prodTo_xorr : ∀ n a b b', prodTo n a (b ^^^ b') = prodTo n a b ^^^ prodTo n a b'
  | 0, a, b, b' => by simp [prodTo]
  | n + 1, a, b, b' => by
    simp only [prodTo, prodTo_xorr n, Nat.testBit_xor]
    exact xor_four _ _ _ _ _
theorem prodTo_bit : ∀ n a j, prodTo n a (2 ^ j) = if j < n then timesAll j a else 0
  | 0, a, j => rfl
  | n + 1, a, j => by
    rw [prodTo, prodTo_bit n, Nat.testBit_two_pow]
    by_cases e : j = n
    · subst e; simp
    · have : (decide (j = n)) = false := by simpa using e
      rw [this]
      by_cases h : j < n
      · rw [if_pos h, if_pos (by omega)]; simp
      · rw [if_neg h, if_neg (by omega)]; simp
/-- What is checked bit by bit. -/
def allB : Nat → (Nat → Bool) → Bool
  | 0, _ => true
  | n + 1, p => p n && allB n p
theorem allB_spec : ∀ n p, allB n p = true → ∀ i, i < n → p i = true
  | 0, p, h, i, hi => absurd hi (Nat.not_lt_zero i)
  | n + 1, p, h, i, hi => by
    simp only [allB, Bool.and_eq_true] at h
    by_cases e : i = n
    · subst e; exact h.1
    · exact allB_spec n p h.2 i (by omega)
def chkShift (l : Nat) : Bool := allB (2 ^ l) fun j => allB (2 ^ l) fun i => Nat.beq (timesAll j ((2 ^ i) <<< 2 ^ l)) (timesAll j (2 ^ i) <<< 2 ^ l)
def chkGen (l : Nat) : Bool := allB (2 ^ l) fun i => Nat.beq (times l (2 ^ i)) ((2 ^ i) <<< 2 ^ l) && Nat.beq (times l ((2 ^ i) <<< 2 ^ l)) ((mulX l (2 ^ i) <<< 2 ^ l) ^^^ 2 ^ i)
theorem shift0 : chkShift 0 = true := by decide +kernel
theorem shift1 : chkShift 1 = true := by decide +kernel
theorem shift2 : chkShift 2 = true := by decide +kernel
theorem shift3 : chkShift 3 = true := by decide +kernel
theorem shift4 : chkShift 4 = true := by decide +kernel
theorem shift5 : chkShift 5 = true := by decide +kernel
theorem shift6 : chkShift 6 = true := by decide +kernel
theorem gen0 : chkGen 0 = true := by decide +kernel
theorem gen1 : chkGen 1 = true := by decide +kernel
theorem gen2 : chkGen 2 = true := by decide +kernel
theorem gen3 : chkGen 3 = true := by decide +kernel
theorem gen4 : chkGen 4 = true := by decide +kernel
theorem gen5 : chkGen 5 = true := by decide +kernel
theorem gen6 : chkGen 6 = true := by decide +kernel
theorem shift_ok {l : Nat} (hl : l ≤ 6) : chkShift l = true := by
  have h : l = 0 ∨ l = 1 ∨ l = 2 ∨ l = 3 ∨ l = 4 ∨ l = 5 ∨ l = 6 := by omega
  rcases h with rfl | rfl | rfl | rfl | rfl | rfl | rfl
  · exact shift0
  · exact shift1
  · exact shift2
  · exact shift3
  · exact shift4
  · exact shift5
  · exact shift6
theorem gen_ok {l : Nat} (hl : l ≤ 6) : chkGen l = true := by
  have h : l = 0 ∨ l = 1 ∨ l = 2 ∨ l = 3 ∨ l = 4 ∨ l = 5 ∨ l = 6 := by omega
  rcases h with rfl | rfl | rfl | rfl | rfl | rfl | rfl
  · exact gen0
  · exact gen1
  · exact gen2
  · exact gen3
  · exact gen4
  · exact gen5
  · exact gen6
theorem timesAll_shift {l j x : Nat} (hl : l ≤ 6) (hj : j < 2 ^ l) (hx : x < 2 ^ 2 ^ l) : timesAll j (x <<< 2 ^ l) = timesAll j x <<< 2 ^ l := by
  refine by_bits (fun x => timesAll j (x <<< 2 ^ l)) (fun x => timesAll j x <<< 2 ^ l) (fun x y => ?_) (fun x y => ?_) (2 ^ l) (fun i hi => ?_) x hx
  · simp only [Nat.shiftLeft_xor_distrib, timesAll_xor]
  · simp only [timesAll_xor, Nat.shiftLeft_xor_distrib]
  · exact Nat.eq_of_beq_eq_true (allB_spec _ _ (allB_spec _ _ (shift_ok hl) j hj) i hi)
theorem times_gen {l hi lo : Nat} (hl : l ≤ 6) (h1 : hi < 2 ^ 2 ^ l) (h2 : lo < 2 ^ 2 ^ l) : times l (hi <<< 2 ^ l ^^^ lo) = ((lo ^^^ mulX l hi) <<< 2 ^ l) ^^^ hi := by
  have a1 : times l lo = lo <<< 2 ^ l := by
    refine by_bits (fun x => times l x) (fun x => x <<< 2 ^ l) (times_xor l) (fun x y => Nat.shiftLeft_xor_distrib) (2 ^ l) (fun i hi => ?_) lo h2
    have := allB_spec _ _ (gen_ok hl) i hi
    simp only [Bool.and_eq_true] at this
    exact Nat.eq_of_beq_eq_true this.1
  have a2 : times l (hi <<< 2 ^ l) = (mulX l hi <<< 2 ^ l) ^^^ hi := by
    refine by_bits (fun x => times l (x <<< 2 ^ l)) (fun x => (mulX l x <<< 2 ^ l) ^^^ x) (fun x y => ?_) (fun x y => ?_) (2 ^ l) (fun i hi => ?_) hi h1
    · simp only [Nat.shiftLeft_xor_distrib, times_xor]
    · simp only [mulX_xor, Nat.shiftLeft_xor_distrib]; ac_rfl
    · have := allB_spec _ _ (gen_ok hl) i hi
      simp only [Bool.and_eq_true] at this
      exact Nat.eq_of_beq_eq_true this.2
  rw [times_xor, a1, a2, Nat.shiftLeft_xor_distrib]
  ac_rfl
end Go.Proofs.Ytplmejnoepkdgaa.Tow
namespace Go.Proofs.Ytplmejnoepkdgaa.Tow
theorem bit_hi {l j k : Nat} (hj : j < 2 ^ l) (hk : l ≤ k) : (j >>> k) % 2 = 0 := by
  rw [Nat.shiftRight_eq_div_pow, Nat.div_eq_of_lt (Nat.lt_of_lt_of_le hj (Nat.pow_le_pow_right (by decide) hk))]
theorem bit_top {l j : Nat} (hj : j < 2 ^ l) : ((2 ^ l + j) >>> l) % 2 = 1 := by
  rw [Nat.shiftRight_eq_div_pow, Nat.add_comm, Nat.add_div_right _ (Nat.two_pow_pos l), Nat.div_eq_of_lt hj]
theorem bit_lo {l j k : Nat} (hk : k < l) : ((2 ^ l + j) >>> k) % 2 = (j >>> k) % 2 := by
  rw [Nat.shiftRight_eq_div_pow, Nat.shiftRight_eq_div_pow]
  have e : 2 ^ l = 2 ^ k * (2 * 2 ^ (l - k - 1)) := by rw [← Nat.pow_succ', ← Nat.pow_add]; congr 1; omega
  rw [e, Nat.mul_comm, Nat.add_comm, Nat.add_mul_div_right _ _ (Nat.two_pow_pos k), Nat.add_mul_mod_self_left]
theorem bit_over {l j k : Nat} (hj : j < 2 ^ l) (hk : l < k) : ((2 ^ l + j) >>> k) % 2 = 0 := by
  have : 2 ^ l + j < 2 ^ (l + 1) := by rw [Nat.pow_succ]; omega
  exact bit_hi this hk
/-- Bits from one on that are none. -/
theorem timesFrom_none : ∀ f k n e, (∀ i, k ≤ i → (n >>> i) % 2 = 0) → timesFrom f k n e = e
  | 0, k, n, e, h => rfl
  | f + 1, k, n, e, h => by
    rw [timesFrom, h k (Nat.le_refl k)]
    exact timesFrom_none f (k + 1) n e fun i hi => h i (by omega)
theorem timesFrom_top {l j : Nat} (hj : j < 2 ^ l) : ∀ f k e, k ≤ l → l < k + f → timesFrom f k (2 ^ l + j) e = times l (timesFrom f k j e)
  | 0, k, e, h1, h2 => by omega
  | f + 1, k, e, h1, h2 => by
    rw [timesFrom, timesFrom]
    by_cases h : k = l
    · subst h
      rw [bit_top hj, bit_hi hj (Nat.le_refl k)]
      show timesFrom f (k + 1) _ (times k e) = times k (timesFrom f (k + 1) j e)
      rw [timesFrom_none f (k + 1) _ _ fun i hi => bit_over hj (by omega), timesFrom_none f (k + 1) j e fun i hi => bit_hi hj (by omega)]
    · rw [bit_lo (show k < l by omega)]
      exact timesFrom_top hj f (k + 1) _ (by omega) (by omega)
theorem timesAll_top {l j : Nat} (hl : l ≤ 6) (hj : j < 2 ^ l) (e : Nat) : timesAll (2 ^ l + j) e = times l (timesAll j e) := timesFrom_top hj 7 0 e (by omega) (by omega)
theorem and_low {b w : Nat} (h : b < 2 ^ w) : b &&& (2 ^ w - 1) = b := by rw [Nat.and_two_pow_sub_one_eq_mod]; exact Nat.mod_eq_of_lt h
theorem shr_low {b w : Nat} (h : b < 2 ^ w) : b >>> w = 0 := by rw [Nat.shiftRight_eq_div_pow]; exact Nat.div_eq_of_lt h
theorem mul_low {l a b : Nat} (h : b < 2 ^ 2 ^ l) : mul (l + 1) a b = mul l (a >>> 2 ^ l) b <<< 2 ^ l ^^^ mul l (a &&& (2 ^ 2 ^ l - 1)) b := by
  rw [mul_eq, and_low h, shr_low h, mul0r, mulX0, Nat.zero_xor, Nat.xor_zero, Nat.xor_zero, Nat.xor_zero, mul_xorl, Nat.xor_assoc, Nat.xor_self, Nat.xor_zero]
theorem mul_high {l a b : Nat} (h : b < 2 ^ 2 ^ l) : mul (l + 1) a (b <<< 2 ^ l) = (mul l (a &&& (2 ^ 2 ^ l - 1)) b ^^^ mulX l (mul l (a >>> 2 ^ l) b)) <<< 2 ^ l ^^^ mul l (a >>> 2 ^ l) b := by
  have e1 : (b <<< 2 ^ l) >>> 2 ^ l = b := Nat.shiftLeft_shiftRight b _
  have e2 : (b <<< 2 ^ l) &&& (2 ^ 2 ^ l - 1) = 0 := by rw [Nat.and_two_pow_sub_one_eq_mod, Nat.shiftLeft_eq]; exact Nat.mul_mod_left _ _
  rw [mul_eq, e1, e2, mul0r, Nat.xor_zero, Nat.xor_zero, Nat.zero_xor, mul_xorl]
  have : ∀ p q : Nat, p ^^^ q ^^^ p = q := fun p q => by rw [Nat.xor_comm p q, Nat.xor_assoc, Nat.xor_self, Nat.xor_zero]
  rw [this]
theorem timesAll_mul : ∀ (l j a : Nat), l ≤ 7 → j < 2 ^ l → a < 2 ^ 2 ^ l → timesAll j a = mul l a (2 ^ j)
  | 0, j, a, hl, hj, ha => by
    have hj0 : j = 0 := by simpa using hj
    subst hj0
    have h2 : a < 2 := ha
    rcases (show a = 0 ∨ a = 1 by omega) with rfl | rfl <;> decide
  | l + 1, j, a, hl, hj, ha => by
    rw [two_two] at ha
    have h1 := hi_lt ha
    have h2 := lo_lt (2 ^ l) a
    have split : ∀ j, j < 2 ^ l → timesAll j a = mul l (a >>> 2 ^ l) (2 ^ j) <<< 2 ^ l ^^^ mul l (a &&& (2 ^ 2 ^ l - 1)) (2 ^ j) := fun j hj => by
      rw [halves (2 ^ l) a, timesAll_xor, timesAll_shift (by omega) hj h1, timesAll_mul l j _ (by omega) hj h1, timesAll_mul l j _ (by omega) hj h2, ← halves (2 ^ l) a]
    rw [Nat.pow_succ, Nat.mul_two] at hj
    by_cases h : j < 2 ^ l
    · have hb : 2 ^ j < 2 ^ 2 ^ l := Nat.pow_lt_pow_right (by decide) h
      rw [split j h, mul_low hb]
    · obtain ⟨j', rfl⟩ : ∃ j', j = 2 ^ l + j' := ⟨j - 2 ^ l, by omega⟩
      have hj' : j' < 2 ^ l := by omega
      have hb : 2 ^ j' < 2 ^ 2 ^ l := Nat.pow_lt_pow_right (by decide) hj'
      rw [timesAll_top (by omega) hj', split j' hj', times_gen (by omega) (mul_lt l _ _ h1 hb) (mul_lt l _ _ h2 hb)]
      have e : 2 ^ (2 ^ l + j') = (2 ^ j') <<< 2 ^ l := by rw [Nat.shiftLeft_eq, Nat.pow_add, Nat.mul_comm]
      rw [e, mul_high hb]
/-- The document's product is the tower's. -/
theorem prod_mul {a b : Nat} (ha : a < 2 ^ 2 ^ 7) (hb : b < 2 ^ 2 ^ 7) : prodTo 128 a b = mul 7 a b := by
  refine by_bits (fun b => prodTo 128 a b) (fun b => mul 7 a b) (prodTo_xorr 128 a) (mul_xorr 7 a) 128 (fun i hi => ?_) b hb
  show prodTo 128 a (2 ^ i) = _
  rw [prodTo_bit, if_pos hi]
  exact timesAll_mul 7 i a (Nat.le_refl _) hi ha
theorem mul_to7 {l a b : Nat} (hl : l ≤ 7) (ha : a < 2 ^ 2 ^ l) (hb : b < 2 ^ 2 ^ l) : mul 7 a b = mul l a b := by
  have up : ∀ m, l ≤ m → m ≤ 7 → mul m a b = mul l a b := by
    intro m
    induction m with
    | zero => intro h _; have : l = 0 := by omega
              subst this; rfl
    | succ m ih =>
      intro h1 h2
      by_cases e : l = m + 1
      · subst e; rfl
      · have hle : 2 ^ 2 ^ l ≤ 2 ^ 2 ^ m := Nat.pow_le_pow_right (by decide) (Nat.pow_le_pow_right (by decide) (by omega))
        rw [mul_up (Nat.lt_of_lt_of_le ha hle) (Nat.lt_of_lt_of_le hb hle)]
        exact ih (by omega) (by omega)
  exact up 7 hl (Nat.le_refl _)
end Go.Proofs.Ytplmejnoepkdgaa.Tow
namespace Go.Proofs.Ytplmejnoepkdgaa.Tow
/-! The tower's fields. -/
theorem mul_comm : ∀ l a b, mul l a b = mul l b a
  | 0, a, b => by simp only [mul, Nat.and_comm a b]
  | l + 1, a, b => by
    rw [mul_eq l a b, mul_eq l b a, mul_comm l (b >>> 2 ^ l ^^^ (b &&& (2 ^ 2 ^ l - 1))) _, mul_comm l (b >>> 2 ^ l) _, mul_comm l (b &&& (2 ^ 2 ^ l - 1)) _]
theorem split {l a : Nat} (h : a < 2 ^ 2 ^ (l + 1)) : ∃ a1 a0, a1 < 2 ^ 2 ^ l ∧ a0 < 2 ^ 2 ^ l ∧ a = a1 <<< 2 ^ l ^^^ a0 := by
  rw [two_two] at h
  exact ⟨_, _, hi_lt h, lo_lt (2 ^ l) a, halves _ _⟩
theorem xa (p q r s x : Nat) : (p ^^^ q ^^^ (r ^^^ s)) ^^^ p ^^^ s ^^^ x = q ^^^ r ^^^ x := by
  have e : (p ^^^ q ^^^ (r ^^^ s)) ^^^ p ^^^ s ^^^ x = (p ^^^ p) ^^^ ((s ^^^ s) ^^^ (q ^^^ r ^^^ x)) := by ac_rfl
  rw [e, Nat.xor_self, Nat.xor_self, Nat.zero_xor, Nat.zero_xor]
theorem mul_cat {l a1 a0 b1 b0 : Nat} (h1 : a0 < 2 ^ 2 ^ l) (h2 : b0 < 2 ^ 2 ^ l) : mul (l + 1) (a1 <<< 2 ^ l ^^^ a0) (b1 <<< 2 ^ l ^^^ b0) =
    (mul l a1 b0 ^^^ mul l a0 b1 ^^^ mulX l (mul l a1 b1)) <<< 2 ^ l ^^^ (mul l a0 b0 ^^^ mul l a1 b1) := by
  rw [mul_eq, hi_of h1, hi_of h2, lo_of h1, lo_of h2, mul_xorl, mul_xorr, mul_xorr, xa]
theorem mulX_cat {l a1 a0 : Nat} (h : a0 < 2 ^ 2 ^ l) : mulX (l + 1) (a1 <<< 2 ^ l ^^^ a0) = (a0 ^^^ mulX l a1) <<< 2 ^ l ^^^ a1 := by
  rw [mulX, hi_of h, lo_of h]
theorem xlt {w a b : Nat} (h : a < 2 ^ w) (k : b < 2 ^ w) : a ^^^ b < 2 ^ w := Nat.xor_lt_two_pow h k
theorem mulX_mul : ∀ (l a b : Nat), a < 2 ^ 2 ^ l → b < 2 ^ 2 ^ l → mulX l (mul l a b) = mul l (mulX l a) b
  | 0, a, b, _, _ => rfl
  | l + 1, a, b, ha, hb => by
    obtain ⟨a1, a0, g1, g0, rfl⟩ := split ha
    obtain ⟨b1, b0, k1, k0, rfl⟩ := split hb
    have ih := mulX_mul l
    have m := mul_lt l
    rw [mul_cat g0 k0, mulX_cat (xlt (m _ _ g0 k0) (m _ _ g1 k1)), mulX_cat g0, mul_cat g1 k0]
    have e1 : mul l a0 b0 ^^^ mul l a1 b1 ^^^ mulX l (mul l a1 b0 ^^^ mul l a0 b1 ^^^ mulX l (mul l a1 b1)) = mul l (a0 ^^^ mulX l a1) b0 ^^^ mul l a1 b1 ^^^ mulX l (mul l (a0 ^^^ mulX l a1) b1) := by
      simp only [mul_xorl, mulX_xor, ← ih _ _ g1 k0, ← ih _ _ g1 k1]; ac_rfl
    have e2 : mul l a1 b0 ^^^ mul l a0 b1 ^^^ mulX l (mul l a1 b1) = mul l a1 b0 ^^^ mul l (a0 ^^^ mulX l a1) b1 := by
      simp only [mul_xorl, ← ih _ _ g1 k1]; ac_rfl
    rw [e1, e2]
theorem mulX_mulr {l a b : Nat} (ha : a < 2 ^ 2 ^ l) (hb : b < 2 ^ 2 ^ l) : mulX l (mul l a b) = mul l a (mulX l b) := by
  rw [mul_comm l a b, mulX_mul l b a hb ha, mul_comm]
theorem mul_assoc : ∀ (l a b c : Nat), a < 2 ^ 2 ^ l → b < 2 ^ 2 ^ l → c < 2 ^ 2 ^ l → mul l (mul l a b) c = mul l a (mul l b c)
  | 0, a, b, c, _, _, _ => by
    simp only [mul]
    apply Nat.eq_of_testBit_eq
    intro i
    simp only [Nat.testBit_and]
    cases a.testBit i <;> cases b.testBit i <;> cases c.testBit i <;> cases (Nat.testBit 1 i) <;> rfl
  | l + 1, a, b, c, ha, hb, hc => by
    obtain ⟨a1, a0, g1, g0, rfl⟩ := split ha
    obtain ⟨b1, b0, k1, k0, rfl⟩ := split hb
    obtain ⟨c1, c0, m1, m0, rfl⟩ := split hc
    have ih := mul_assoc l
    have L := mul_lt l
    have X := mulX_lt l
    rw [mul_cat g0 k0, mul_cat k0 m0, mul_cat (xlt (L _ _ g0 k0) (L _ _ g1 k1)) m0, mul_cat g0 (xlt (L _ _ k0 m0) (L _ _ k1 m1))]
    have e1 : mul l (mul l a1 b0 ^^^ mul l a0 b1 ^^^ mulX l (mul l a1 b1)) c0 ^^^ mul l (mul l a0 b0 ^^^ mul l a1 b1) c1 ^^^ mulX l (mul l (mul l a1 b0 ^^^ mul l a0 b1 ^^^ mulX l (mul l a1 b1)) c1)
        = mul l a1 (mul l b0 c0 ^^^ mul l b1 c1) ^^^ mul l a0 (mul l b1 c0 ^^^ mul l b0 c1 ^^^ mulX l (mul l b1 c1)) ^^^ mulX l (mul l a1 (mul l b1 c0 ^^^ mul l b0 c1 ^^^ mulX l (mul l b1 c1))) := by
      simp only [mul_xorl, mul_xorr, mulX_xor, ← mulX_mul l _ _ (L _ _ g1 k1) m0, ← mulX_mul l _ _ (L _ _ g1 k1) m1, ← mulX_mulr g0 (L _ _ k1 m1), ← mulX_mulr g1 (L _ _ k1 m1), ih _ _ _ g1 k0 m0, ih _ _ _ g0 k1 m0, ih _ _ _ g1 k1 m0, ih _ _ _ g0 k0 m1, ih _ _ _ g1 k1 m1, ih _ _ _ g1 k0 m1, ih _ _ _ g0 k1 m1]; ac_rfl
    have e2 : mul l (mul l a0 b0 ^^^ mul l a1 b1) c0 ^^^ mul l (mul l a1 b0 ^^^ mul l a0 b1 ^^^ mulX l (mul l a1 b1)) c1
        = mul l a0 (mul l b0 c0 ^^^ mul l b1 c1) ^^^ mul l a1 (mul l b1 c0 ^^^ mul l b0 c1 ^^^ mulX l (mul l b1 c1)) := by
      simp only [mul_xorl, mul_xorr, mulX_xor, ← mulX_mul l _ _ (L _ _ g1 k1) m0, ← mulX_mul l _ _ (L _ _ g1 k1) m1, ← mulX_mulr g0 (L _ _ k1 m1), ← mulX_mulr g1 (L _ _ k1 m1), ih _ _ _ g1 k0 m0, ih _ _ _ g0 k1 m0, ih _ _ _ g1 k1 m0, ih _ _ _ g0 k0 m1, ih _ _ _ g1 k1 m1, ih _ _ _ g1 k0 m1, ih _ _ _ g0 k1 m1, ih _ _ _ g0 k0 m0]; ac_rfl
    rw [e1, e2]
theorem one_lt (l : Nat) : 1 < 2 ^ 2 ^ l := by
  have : 2 ^ 1 ≤ 2 ^ 2 ^ l := Nat.pow_le_pow_right (by decide) (Nat.two_pow_pos l)
  omega
theorem one_cat (l : Nat) : 1 = 0 <<< 2 ^ l ^^^ 1 := by simp
theorem mul_one : ∀ (l a : Nat), a < 2 ^ 2 ^ l → mul l a 1 = a
  | 0, a, h => by
    have : a = 0 ∨ a = 1 := by have : (2:Nat) ^ 2 ^ 0 = 2 := rfl; omega
    rcases this with rfl | rfl <;> rfl
  | l + 1, a, h => by
    obtain ⟨a1, a0, g1, g0, rfl⟩ := split h
    have e := mul_cat (l := l) (a1 := a1) (b1 := 0) g0 (one_lt l)
    rw [← one_cat] at e
    rw [e, mul_one l _ g1, mul_one l _ g0, mul0r, mul0r, mulX0]; simp
theorem one_mul {l a : Nat} (h : a < 2 ^ 2 ^ l) : mul l 1 a = a := by rw [mul_comm, mul_one l a h]
/-! Frobenius. -/
end Go.Proofs.Ytplmejnoepkdgaa.Tow
namespace Go.Proofs.Ytplmejnoepkdgaa.H1
open Go Go.Proofs.Ytplmejnoepkdgaa.Rf
theorem rng_nat {n : Int} (h : rng n) : ∃ m : Nat, n = (m : Int) ∧ m < 2 ^ 64 := ⟨n.toNat, by have := h.1; omega, by have := h.2; have := h.1; omega⟩
theorem nat_rng {m : Nat} (h : m < 2 ^ 64) : rng (m : Int) := ⟨by omega, by have : (2:Nat)^64 = 18446744073709551616 := rfl; omega⟩
theorem toNat_nat {m : Nat} (h : m < 2 ^ 64) : (BitVec.ofInt 64 (m : Int)).toNat = m := by
  have := ofInt_nat (nat_rng h); omega
theorem xor_nat {a b : Nat} (ha : a < 2 ^ 64) (hb : b < 2 ^ 64) : xorI .u64 (a : Int) (b : Int) = ((a ^^^ b : Nat) : Int) := by
  show IntKind.u64.wrap ((BitVec.ofInt 64 (a : Int) ^^^ BitVec.ofInt 64 (b : Int)).toNat : Int) = _
  rw [BitVec.toNat_xor, toNat_nat ha, toNat_nat hb]
  exact wrap_in (nat_rng (Nat.xor_lt_two_pow ha hb))
theorem and_nat {a b : Nat} (ha : a < 2 ^ 64) (hb : b < 2 ^ 64) : andI .u64 (a : Int) (b : Int) = ((a &&& b : Nat) : Int) := by
  show IntKind.u64.wrap ((BitVec.ofInt 64 (a : Int) &&& BitVec.ofInt 64 (b : Int)).toNat : Int) = _
  rw [BitVec.toNat_and, toNat_nat ha, toNat_nat hb]
  exact wrap_in (nat_rng (Nat.lt_of_le_of_lt Nat.and_le_left ha))
theorem or_nat {a b : Nat} (ha : a < 2 ^ 64) (hb : b < 2 ^ 64) : orI .u64 (a : Int) (b : Int) = ((a ||| b : Nat) : Int) := by
  show IntKind.u64.wrap ((BitVec.ofInt 64 (a : Int) ||| BitVec.ofInt 64 (b : Int)).toNat : Int) = _
  rw [BitVec.toNat_or, toNat_nat ha, toNat_nat hb]
  exact wrap_in (nat_rng (Nat.or_lt_two_pow ha hb))
theorem shr_nat {a s : Nat} (hs : s ≤ 64) : shrI .u64 (a : Int) (s : Int) = ((a >>> s : Nat) : Int) := by
  unfold shrI
  have e : min ((s : Int).toNat) IntKind.u64.bits = s := by rw [Int.toNat_natCast]; exact Nat.min_eq_left hs
  rw [e, Nat.shiftRight_eq_div_pow, Int.fdiv_eq_ediv_of_nonneg _ (by exact Int.le_of_lt (Int.pow_pos (by decide)))]
  simp
theorem shl_nat {a s : Nat} (hs : s ≤ 64) (h : a <<< s < 2 ^ 64) : shlI .u64 (a : Int) (s : Int) = ((a <<< s : Nat) : Int) := by
  unfold shlI
  have e : min ((s : Int).toNat) IntKind.u64.bits = s := by rw [Int.toNat_natCast]; exact Nat.min_eq_left hs
  rw [e, show (a : Int) * 2 ^ s = ((a <<< s : Nat) : Int) by rw [Nat.shiftLeft_eq]; simp]
  exact wrap_in (nat_rng h)
theorem or_shl {w x y : Nat} (h : y < 2 ^ w) : x <<< w ||| y = x <<< w ^^^ y := by
  rw [← Tow.xor_shl h, Nat.shiftLeft_eq, Nat.mul_comm, ← Nat.two_pow_add_eq_or_of_lt h x]
theorem pow_le {l m : Nat} (h : l ≤ m) : (2 : Nat) ^ 2 ^ l ≤ 2 ^ 2 ^ m := Nat.pow_le_pow_right (by decide) (Nat.pow_le_pow_right (by decide) h)
theorem lt64 {l a : Nat} (hl : l ≤ 6) (h : a < 2 ^ 2 ^ l) : a < 2 ^ 64 := Nat.lt_of_lt_of_le h (pow_le hl)
theorem shl_pow_u {m : Nat} (h : m ≤ 6) : shlI .u64 1 (m : Int) = ((2 ^ m : Nat) : Int) := by
  rcases (show m = 0 ∨ m = 1 ∨ m = 2 ∨ m = 3 ∨ m = 4 ∨ m = 5 ∨ m = 6 by omega) with rfl | rfl | rfl | rfl | rfl | rfl | rfl <;> decide
theorem mask_eq {l : Nat} (h : l ≤ 5) : wu64 (shlI .u64 1 ((2 ^ l : Nat) : Int) - 1) = ((2 ^ 2 ^ l - 1 : Nat) : Int) := by
  rcases (show l = 0 ∨ l = 1 ∨ l = 2 ∨ l = 3 ∨ l = 4 ∨ l = 5 by omega) with rfl | rfl | rfl | rfl | rfl | rfl <;> decide
theorem nn (n : Nat) : decide ((n : Int) < 0) = false := by simp
theorem p2le {l m : Nat} (h : l ≤ m) : 2 ^ l ≤ 2 ^ m := Nat.pow_le_pow_right (by decide) h
theorem halves_N {l a : Nat} (hl : l ≤ 5) (ha : a < 2 ^ 64) : T (fun k => tower_halves.f k ((l + 1 : Nat) : Int) (a : Int)) (fun r => r = (((a >>> 2 ^ l : Nat) : Int), ((a &&& (2 ^ 2 ^ l - 1) : Nat) : Int))) := by
  refine T.eq (tower_halves.f_eq · _ _) ?_
  rw [lev (by omega), shl_pow (by omega)]
  have h5 : 2 ^ l ≤ 32 := p2le hl
  have h6 : (2:Nat) ^ 2 ^ l ≤ 2 ^ 32 := Nat.pow_le_pow_right (by decide) h5
  refine T.no (by simp) (T.no (nn _) (T.no (nn _) (T.pure ?_)))
  rw [mask_eq hl, shr_nat (by omega), and_nat ha (Nat.lt_of_le_of_lt (Nat.sub_le _ _) (Nat.lt_of_le_of_lt h6 (by decide)))]
theorem join_N {l a b : Nat} (hl : l ≤ 5) (ha : a < 2 ^ 2 ^ l) (hb : b < 2 ^ 2 ^ l) : T (fun k => tower_join.f k ((l + 1 : Nat) : Int) (a : Int) (b : Int)) (fun r => r = ((a <<< 2 ^ l ^^^ b : Nat) : Int)) := by
  refine T.eq (tower_join.f_eq · _ _ _) ?_
  rw [lev (by omega), shl_pow_u (by omega)]
  have h5 : 2 ^ l ≤ 32 := p2le hl
  refine T.no (by simp) (T.no (nn _) (T.pure ?_))
  have hs : a <<< 2 ^ l < 2 ^ 64 := by
    have := Tow.cat_lt (w := 2 ^ l) ha (Nat.two_pow_pos _ : 0 < 2 ^ 2 ^ l)
    rw [Nat.xor_zero] at this
    exact Nat.lt_of_lt_of_le this (Nat.pow_le_pow_right (by decide) (by omega))
  rw [shl_nat (by omega) hs, or_nat hs (lt64 (by omega) hb), or_shl hb]
theorem mulX_N : ∀ (l : Nat), l ≤ 6 → ∀ a : Nat, a < 2 ^ 2 ^ l → T (fun k => tower_mulX.f k (l : Int) (a : Int)) (fun r => r = ((Tow.mulX l a : Nat) : Int))
  | 0, h, a, ha => T.eq (tower_mulX.f_eq · _ _) (T.yes (by simp) (T.pure rfl))
  | l + 1, h, a, ha => by
    refine T.eq (tower_mulX.f_eq · _ _) (T.no (by simp; omega) (T.bind (halves_N (by omega) (lt64 h ha)) fun r hr => ?_))
    subst hr
    rw [Tow.two_two] at ha
    have h1 := Tow.hi_lt ha
    have h2 := Tow.lo_lt (2 ^ l) a
    rw [lev (by omega)]
    refine T.bind (mulX_N l (by omega) _ h1) fun s hs => ?_
    subst hs
    have h3 := Tow.mulX_lt l _ h1
    rw [xor_nat (lt64 (by omega) h2) (lt64 (by omega) h3)]
    exact T.bind (join_N (by omega) (Nat.xor_lt_two_pow h2 h3) h1) fun t ht => T.pure ht
theorem and1 {a b : Nat} (ha : a < 2 ^ 64) (hb : b < 2 ^ 64) : andI .u64 (andI .u64 (a : Int) (b : Int)) 1 = ((a &&& b &&& 1 : Nat) : Int) := by
  rw [and_nat ha hb]
  exact and_nat (Nat.lt_of_le_of_lt Nat.and_le_left ha) (b := 1) (by decide)
theorem mul_N : ∀ (l : Nat), l ≤ 6 → ∀ a b : Nat, a < 2 ^ 2 ^ l → b < 2 ^ 2 ^ l → T (fun k => tower_mul.f k (l : Int) (a : Int) (b : Int)) (fun r => r = ((Tow.mul l a b : Nat) : Int))
  | 0, h, a, b, ha, hb => T.eq (tower_mul.f_eq · _ _ _) (T.yes (by simp) (T.pure (and1 (lt64 h ha) (lt64 h hb))))
  | l + 1, h, a, b, ha, hb => by
    refine T.eq (tower_mul.f_eq · _ _ _) (T.no (by simp; omega) (T.ite (fun e => T.pure ?_) fun _ => T.ite (fun e => T.pure ?_) fun _ => ?_))
    · have : a = 0 := by simpa using e
      subst this
      rw [and1 (by decide) (lt64 h hb), Tow.mul0l]; simp
    · have : b = 0 := by simpa using e
      subst this
      rw [and1 (lt64 h ha) (by decide), Tow.mul0r]; simp
    · refine T.bind (halves_N (by omega) (lt64 h ha)) fun r hr => T.bind (halves_N (by omega) (lt64 h hb)) fun s hs => ?_
      subst hr hs
      rw [Tow.two_two] at ha hb
      have h1 := Tow.hi_lt ha
      have h2 := Tow.lo_lt (2 ^ l) a
      have h3 := Tow.hi_lt hb
      have h4 := Tow.lo_lt (2 ^ l) b
      have L : ∀ {x}, x < 2 ^ 2 ^ l → x < 2 ^ 64 := lt64 (by omega)
      rw [lev (by omega)]
      refine T.bind (mul_N l (by omega) _ _ h1 h3) fun t1 e1 => T.bind (mul_N l (by omega) _ _ h2 h4) fun t2 e2 => ?_
      simp only [xor_nat (L h1) (L h2), xor_nat (L h3) (L h4)]
      refine T.bind (mul_N l (by omega) _ _ (Nat.xor_lt_two_pow h1 h2) (Nat.xor_lt_two_pow h3 h4)) fun t3 e3 => ?_
      have g1 := Tow.mul_lt l _ _ h1 h3
      have g2 := Tow.mul_lt l _ _ h2 h4
      have g3 := Tow.mul_lt l _ _ (Nat.xor_lt_two_pow h1 h2) (Nat.xor_lt_two_pow h3 h4)
      subst e1 e2 e3
      refine T.bind (mulX_N l (by omega) _ g1) fun t4 e4 => ?_
      have g4 := Tow.mulX_lt l _ g1
      subst e4
      rw [xor_nat (L g3) (L g1), xor_nat (L (Nat.xor_lt_two_pow g3 g1)) (L g2), xor_nat (L (Nat.xor_lt_two_pow (Nat.xor_lt_two_pow g3 g1) g2)) (L g4), xor_nat (L g2) (L g1)]
      refine T.bind (join_N (by omega) (Nat.xor_lt_two_pow (Nat.xor_lt_two_pow (Nat.xor_lt_two_pow g3 g1) g2) g4) (Nat.xor_lt_two_pow g2 g1)) fun t ht => T.pure ?_
      rw [ht, Tow.mul_eq]
end Go.Proofs.Ytplmejnoepkdgaa.H1
namespace Go.Proofs.Ytplmejnoepkdgaa.H1
open Go Go.Proofs.Ytplmejnoepkdgaa.Rf
def nat (x : E) : Nat := x.1.toNat <<< 64 ^^^ x.2.1.toNat
def mk (n : Nat) : E := (((n >>> 64 : Nat) : Int), ((n &&& (2 ^ 64 - 1) : Nat) : Int), ())
/-- The product of the greatest level. -/
def Pr (a b : E) : E := mk (Tow.mul 7 (nat a) (nat b))
theorem p128 : (2 : Nat) ^ 2 ^ 7 = 2 ^ (64 + 64) := by decide
theorem rng_toNat {n : Int} (h : rng n) : n.toNat < 2 ^ 64 := by obtain ⟨m, rfl, hm⟩ := rng_nat h; simpa using hm
theorem nat_lt {x : E} (h : rngE x) : nat x < 2 ^ 2 ^ 7 := by rw [p128]; exact Tow.cat_lt (rng_toNat h.1) (rng_toNat h.2)
theorem mk_cat {a b : Nat} (ha : a < 2 ^ 64) (hb : b < 2 ^ 64) : mk (a <<< 64 ^^^ b) = ((a : Int), (b : Int), ()) := by
  unfold mk; rw [Tow.hi_of hb, Tow.lo_of hb]
theorem mk_nat {x : E} (h : rngE x) : mk (nat x) = x := by
  obtain ⟨a, b, ⟨⟩⟩ := x
  obtain ⟨a, rfl, ha⟩ := rng_nat h.1
  obtain ⟨b, rfl, hb⟩ := rng_nat h.2
  exact mk_cat ha hb
theorem mk_rng {n : Nat} (h : n < 2 ^ 2 ^ 7) : rngE (mk n) := by
  rw [p128] at h
  exact ⟨nat_rng (Tow.hi_lt h), nat_rng (Tow.lo_lt 64 n)⟩
theorem nat_mk (n : Nat) : nat (mk n) = n := by
  unfold nat mk
  simp only [Int.toNat_natCast]
  exact (Tow.halves 64 n).symm
theorem nat_Av {x y : E} (hx : rngE x) (hy : rngE y) : nat (Av x y) = nat x ^^^ nat y := by
  obtain ⟨a, b, ⟨⟩⟩ := x
  obtain ⟨c, d, ⟨⟩⟩ := y
  obtain ⟨a, rfl, ha⟩ := rng_nat hx.1
  obtain ⟨b, rfl, hb⟩ := rng_nat hx.2
  obtain ⟨c, rfl, hc⟩ := rng_nat hy.1
  obtain ⟨d, rfl, hd⟩ := rng_nat hy.2
  unfold nat Av
  rw [xor_nat ha hc, xor_nat hb hd]
  simp only [Int.toNat_natCast, Nat.shiftLeft_xor_distrib]
  exact Tow.x4 _ _ _ _
theorem Av_rng (x y : E) : rngE (Av x y) := ⟨xor_rng _ _, xor_rng _ _⟩
theorem mk_xor {a b : Nat} (ha : a < 2 ^ 2 ^ 7) (hb : b < 2 ^ 2 ^ 7) : mk (a ^^^ b) = Av (mk a) (mk b) := by
  rw [← mk_nat (Av_rng (mk a) (mk b)), nat_Av (mk_rng ha) (mk_rng hb), nat_mk, nat_mk]
theorem Pr_rng {a b : E} (ha : rngE a) (hb : rngE b) : rngE (Pr a b) := mk_rng (Tow.mul_lt 7 _ _ (nat_lt ha) (nat_lt hb))
theorem nat_Pr (a b : E) : nat (Pr a b) = Tow.mul 7 (nat a) (nat b) := nat_mk _
theorem shr_zero {a w : Nat} : (a >>> w = 0) ↔ a < 2 ^ w := by
  rw [Nat.shiftRight_eq_div_pow, Nat.div_eq_zero_iff_lt (Nat.two_pow_pos w)]
theorem ofB_iff {l : Nat} (hl : l ≤ 7) {x : E} (hx : rngE x) : ofB (l : Int) x = true ↔ nat x < 2 ^ 2 ^ l := by
  have hn := nat_lt hx
  obtain ⟨a, b, ⟨⟩⟩ := x
  obtain ⟨a, rfl, ha⟩ := rng_nat hx.1
  obtain ⟨b, rfl, hb⟩ := rng_nat hx.2
  have e : nat ((a : Int), (b : Int), ()) = a <<< 64 ^^^ b := rfl
  rw [e] at hn ⊢
  unfold ofB
  rw [if_neg (by omega), if_neg (by omega)]
  by_cases h7 : l = 7
  · subst h7; rw [if_pos (show ((7 : Nat) : Int) = 7 from rfl)]; exact ⟨fun _ => hn, fun _ => rfl⟩
  rw [if_neg (by omega)]
  have hz : a <<< 64 ^^^ b < 2 ^ 64 ↔ a = 0 := by
    rw [← shr_zero, Tow.hi_of hb]
  by_cases h6 : l = 6
  · subst h6; rw [if_pos (show ((6 : Nat) : Int) = 6 from rfl)]
    show ((a : Int) == 0) = true ↔ a <<< 64 ^^^ b < 2 ^ 64
    rw [hz]; simp
  rw [if_neg (by omega), shl_pow_u (by omega)]
  have h5 : 2 ^ l ≤ 32 := p2le (m := 5) (by omega)
  by_cases ha0 : a = 0
  · subst ha0
    have e1 : (0 : Nat) <<< 64 ^^^ b = b := by simp
    rw [e1, ← shr_zero]
    show (if ((0 : Nat) : Int) == 0 then (shrI .u64 (b : Int) ((2 ^ l : Nat) : Int) == 0) else false) = true ↔ _
    rw [shr_nat (by omega)]
    generalize b >>> 2 ^ l = q
    have e0 : (((0 : Nat) : Int) == 0) = true := rfl
    rw [e0, if_pos rfl, beq_iff_eq]
    exact ⟨fun h => (by omega), fun h => (by omega)⟩
  · have n1 : ¬ (a <<< 64 ^^^ b < 2 ^ 2 ^ l) := fun h => ha0 (hz.1 (lt64 (by omega) h))
    have n2 : ((a : Int) == 0) = false := by simpa using ha0
    rw [n2]
    exact ⟨fun h => (by cases h), fun h => absurd h n1⟩
theorem ofB_lv {lv : Int} {x : E} (h : ofB lv x = true) : ∃ l : Nat, lv = (l : Int) ∧ l ≤ 7 := by
  unfold ofB at h
  by_cases k1 : lv < 0
  · simp [k1] at h
  · by_cases k2 : lv > 7
    · simp [k1, k2] at h
    · exact ⟨lv.toNat, by omega, by omega⟩
theorem Mul_N {l : Nat} (hl : l ≤ 7) {a b : E} (ha : rngE a) (hb : rngE b) (oa : ofB (l : Int) a = true) (ob : ofB (l : Int) b = true) : Mv (l : Int) a b = Pr a b := by
  refine ((?_ : T (fun k => tower_Mul.f k (l : Int) a b) (fun r => r = Pr a b)).of (Mv_ev (l : Int) a b))
  have na := (ofB_iff hl ha).1 oa
  have nb := (ofB_iff hl hb).1 ob
  refine T.eq (tower_Mul.f_eq · _ a b) (T.bind (of_T _ a) fun o1 h1 => T.no (by rw [h1, oa]; rfl) (T.bind (of_T _ b) fun o2 h2 => T.no (by rw [h2, ob]; rfl) ?_))
  obtain ⟨a1, a2, ⟨⟩⟩ := a
  obtain ⟨b1, b2, ⟨⟩⟩ := b
  obtain ⟨a1, rfl, ha1⟩ := rng_nat ha.1
  obtain ⟨a2, rfl, ha2⟩ := rng_nat ha.2
  obtain ⟨b1, rfl, hb1⟩ := rng_nat hb.1
  obtain ⟨b2, rfl, hb2⟩ := rng_nat hb.2
  have ea : nat ((a1 : Int), (a2 : Int), ()) = a1 <<< 64 ^^^ a2 := rfl
  have eb : nat ((b1 : Int), (b2 : Int), ()) = b1 <<< 64 ^^^ b2 := rfl
  rw [ea] at na
  rw [eb] at nb
  refine T.ite (fun g => ?_) (fun g => ?_)
  · have hl6 : l ≤ 6 := by have := of_decide_eq_true g; omega
    have za : a1 = 0 := by have h := lt64 hl6 na; rw [← shr_zero, Tow.hi_of ha2] at h; exact h
    have zb : b1 = 0 := by have h := lt64 hl6 nb; rw [← shr_zero, Tow.hi_of hb2] at h; exact h
    subst za zb
    have e1 : ∀ x : Nat, (0 : Nat) <<< 64 ^^^ x = x := fun x => by simp
    rw [e1] at na nb
    refine T.bind (mul_N l hl6 a2 b2 na nb) fun r hr => T.pure ?_
    subst hr
    unfold Pr
    rw [ea, eb, e1, e1, Tow.mul_to7 (by omega) na nb]
    have hlt := lt64 hl6 (Tow.mul_lt l _ _ na nb)
    have := mk_cat (a := 0) (by decide) hlt
    rw [e1] at this
    exact this.symm
  · have hl7 : l = 7 := by have := of_decide_eq_false g; omega
    subst hl7
    refine T.bind (mul_N 6 (by omega) a1 b1 ha1 hb1) fun t1 e1 => T.bind (mul_N 6 (by omega) a2 b2 ha2 hb2) fun t2 e2 => ?_
    simp only [xor_nat ha1 ha2, xor_nat hb1 hb2]
    refine T.bind (mul_N 6 (by omega) _ _ (Nat.xor_lt_two_pow ha1 ha2) (Nat.xor_lt_two_pow hb1 hb2)) fun t3 e3 => ?_
    have g1 : _ < 2 ^ 64 := Tow.mul_lt 6 _ _ ha1 hb1
    have g2 : _ < 2 ^ 64 := Tow.mul_lt 6 _ _ ha2 hb2
    have g3 : _ < 2 ^ 64 := Tow.mul_lt 6 _ _ (Nat.xor_lt_two_pow ha1 ha2) (Nat.xor_lt_two_pow hb1 hb2)
    subst e1 e2 e3
    refine T.bind (mulX_N 6 (by omega) _ g1) fun t4 e4 => T.pure ?_
    have g4 : _ < 2 ^ 64 := Tow.mulX_lt 6 _ g1
    subst e4
    rw [xor_nat g3 g1, xor_nat (Nat.xor_lt_two_pow g3 g1) g2, xor_nat (Nat.xor_lt_two_pow (Nat.xor_lt_two_pow g3 g1) g2) g4, xor_nat g2 g1]
    have m := Tow.mul_eq 6 (nat ((a1 : Int), (a2 : Int), ())) (nat ((b1 : Int), (b2 : Int), ()))
    have s6 : (2 : Nat) ^ 6 = 64 := rfl
    rw [s6, ea, eb, Tow.hi_of ha2, Tow.lo_of ha2, Tow.hi_of hb2, Tow.lo_of hb2] at m
    unfold Pr
    rw [ea, eb, m, mk_cat (Nat.xor_lt_two_pow (Nat.xor_lt_two_pow (Nat.xor_lt_two_pow g3 g1) g2) g4) (Nat.xor_lt_two_pow g2 g1)]
end Go.Proofs.Ytplmejnoepkdgaa.H1
namespace Go.Proofs.Ytplmejnoepkdgaa.Tow
def chkT (j : Nat) : Bool := allB 64 fun i => Nat.beq (tw j ((2 ^ i) &&& msk j) &&& msk j) (tw j ((2 ^ i) &&& msk j))
theorem inside0 : chkT 0 = true := by decide +kernel
theorem inside1 : chkT 1 = true := by decide +kernel
theorem inside2 : chkT 2 = true := by decide +kernel
theorem inside3 : chkT 3 = true := by decide +kernel
theorem inside4 : chkT 4 = true := by decide +kernel
theorem inside5 : chkT 5 = true := by decide +kernel
theorem j6 {j : Nat} (h : j ≤ 5) : j = 0 ∨ j = 1 ∨ j = 2 ∨ j = 3 ∨ j = 4 ∨ j = 5 := by omega
theorem tw_in {j v : Nat} (hj : j ≤ 5) (hv : v < 2 ^ 64) : tw j (v &&& msk j) &&& msk j = tw j (v &&& msk j) := by
  have hc : chkT j = true := by
    rcases j6 hj with rfl | rfl | rfl | rfl | rfl | rfl
    · exact inside0
    · exact inside1
    · exact inside2
    · exact inside3
    · exact inside4
    · exact inside5
  refine by_bits (fun v => tw j (v &&& msk j) &&& msk j) (fun v => tw j (v &&& msk j)) (fun x y => ?_) (fun x y => ?_) 64 (fun i hi => ?_) v hv
  · simp only [Nat.and_xor_distrib_right, tw_xor]
  · simp only [Nat.and_xor_distrib_right, tw_xor]
  · exact Nat.eq_of_beq_eq_true (allB_spec _ _ hc i hi)
theorem msk_shl {j : Nat} (hj : j ≤ 5) : msk j <<< 2 ^ j < 2 ^ 64 ∧ (msk j <<< 2 ^ j) &&& msk j = 0 ∧ msk j < 2 ^ 64 := by
  rcases j6 hj with rfl | rfl | rfl | rfl | rfl | rfl <;> decide
theorem or_disj {A B M N : Nat} (hA : A &&& M = A) (hB : B &&& N = B) (h : M &&& N = 0) : A ||| B = A ^^^ B := by
  apply Nat.eq_of_testBit_eq
  intro i
  have h1 := congrArg (fun x => x.testBit i) hA
  have h2 := congrArg (fun x => x.testBit i) hB
  have h3 := congrArg (fun x => x.testBit i) h
  simp only [Nat.testBit_and, Nat.zero_testBit] at h1 h2 h3
  rw [Nat.testBit_or, Nat.testBit_xor]
  revert h1 h2 h3
  cases A.testBit i <;> cases B.testBit i <;> cases M.testBit i <;> cases N.testBit i <;> simp
/-- The upper part of a word's product with a generator. -/
def twX (j v : Nat) : Nat := (v &&& msk j) ^^^ tw j ((v >>> 2 ^ j) &&& msk j)
theorem shr_lt64 {v s : Nat} (hv : v < 2 ^ 64) : v >>> s < 2 ^ 64 := by
  rw [Nat.shiftRight_eq_div_pow]; exact Nat.lt_of_le_of_lt (Nat.div_le_self _ _) hv
theorem twX_in {j v : Nat} (hj : j ≤ 5) (hv : v < 2 ^ 64) : twX j v &&& msk j = twX j v := by
  unfold twX
  rw [Nat.and_xor_distrib_right, tw_in hj (shr_lt64 hv), Nat.and_assoc, Nat.and_self]
theorem twX_le {j v : Nat} (hj : j ≤ 5) (hv : v < 2 ^ 64) : twX j v ≤ msk j := by rw [← twX_in hj hv]; exact Nat.and_le_right
theorem twX_shl {j v : Nat} (hj : j ≤ 5) (hv : v < 2 ^ 64) : twX j v <<< 2 ^ j < 2 ^ 64 := by
  refine Nat.lt_of_le_of_lt ?_ (msk_shl hj).1
  rw [Nat.shiftLeft_eq, Nat.shiftLeft_eq]
  exact Nat.mul_le_mul_right _ (twX_le hj hv)
theorem and_lt64 {a b : Nat} (hb : b < 2 ^ 64) : a &&& b < 2 ^ 64 := Nat.lt_of_le_of_lt Nat.and_le_right hb
theorem tw_succ (j v : Nat) : tw (j + 1) v = twX j v <<< 2 ^ j ^^^ ((v >>> 2 ^ j) &&& msk j) := rfl
theorem tw_lt : ∀ {j v : Nat}, j ≤ 6 → v < 2 ^ 64 → tw j v < 2 ^ 64
  | 0, v, _, hv => hv
  | j + 1, v, hj, hv => by
    rw [tw_succ]
    exact Nat.xor_lt_two_pow (twX_shl (by omega) hv) (and_lt64 (msk_shl (by omega)).2.2)
theorem tw_or {j v : Nat} (hj : j ≤ 5) (hv : v < 2 ^ 64) : twX j v <<< 2 ^ j ||| ((v >>> 2 ^ j) &&& msk j) = tw (j + 1) v := by
  rw [tw_succ]
  refine or_disj (M := msk j <<< 2 ^ j) (N := msk j) ?_ (by rw [Nat.and_assoc, Nat.and_self]) (msk_shl hj).2.1
  rw [← Nat.shiftLeft_and_distrib, twX_in hj hv]
theorem times_lt {j e : Nat} (hj : j ≤ 6) (he : e < 2 ^ 2 ^ 7) : times j e < 2 ^ 2 ^ 7 := by
  have e1 : (2 : Nat) ^ 2 ^ 7 = 2 ^ (64 + 64) := by decide
  rw [e1] at he ⊢
  have hh := hi_lt he
  have hl : e &&& M64 < 2 ^ 64 := lo_lt 64 e
  unfold times
  cases hb : Nat.blt j 6 with
  | true =>
    have hj6 : j < 6 := Nat.blt_eq.mp hb
    exact cat_lt (tw_lt (by omega) hh) (tw_lt (by omega) hl)
  | false => exact cat_lt (Nat.xor_lt_two_pow hl (tw_lt (by omega) hh)) hh
theorem timesFrom_lt (n : Nat) : ∀ (f j e : Nat), j + f ≤ 7 → e < 2 ^ 2 ^ 7 → timesFrom f j n e < 2 ^ 2 ^ 7
  | 0, j, e, _, he => he
  | f + 1, j, e, hj, he => by
    rw [timesFrom]
    refine timesFrom_lt n f (j + 1) _ (by omega) ?_
    cases Nat.beq ((n >>> j) % 2) 1
    · exact he
    · exact times_lt (by omega) he
theorem prodTo_lt {a b : Nat} (ha : a < 2 ^ 2 ^ 7) : ∀ n, prodTo n a b < 2 ^ 2 ^ 7
  | 0 => Nat.two_pow_pos _
  | n + 1 => by
    rw [prodTo]
    refine Nat.xor_lt_two_pow (prodTo_lt ha n) ?_
    cases b.testBit n
    · exact Nat.two_pow_pos _
    · exact timesFrom_lt n 7 0 a (by omega) ha
end Go.Proofs.Ytplmejnoepkdgaa.Tow
namespace Go.Proofs.Ytplmejnoepkdgaa.H1
open Go Go.Proofs.Ytplmejnoepkdgaa.Rf
theorem and_2pow (x n : Nat) : x &&& 2 ^ n = (x.testBit n).toNat * 2 ^ n := by
  apply Nat.eq_of_testBit_eq
  intro i
  rw [Nat.testBit_and, Nat.testBit_two_pow]
  by_cases e : n = i
  · subst e
    cases hb : x.testBit n <;> simp
  · cases hb : x.testBit n <;> simp [e, Nat.testBit_two_pow]
theorem bit_N {n : Nat} (hn : n < 128) : T (fun k => steepleref02_Bit.f k (n : Int)) (fun r => r = mk (2 ^ n)) := by
  refine T.eq (steepleref02_Bit.f_eq · _) (T.no (by simp only [decide_eq_false_iff_not]; omega) (T.no (by simp only [decide_eq_false_iff_not]; omega) (T.ite (fun h => ?_) (fun h => ?_))))
  · have h : 63 < n := by have := of_decide_eq_true h; omega
    rw [w64_in (by omega) (by omega), wu_in (by omega) (by omega)]
    have e : (n : Int) - 64 = ((n - 64 : Nat) : Int) := by omega
    rw [e]
    refine T.no (nn _) (T.pure ?_)
    have h1 : (1 : Nat) <<< (n - 64) = 2 ^ (n - 64) := Nat.one_shiftLeft _
    have h2 : 2 ^ (n - 64) < 2 ^ 64 := Nat.pow_lt_pow_right (by decide) (by omega)
    have := shl_nat (a := 1) (s := n - 64) (by omega) (by rw [h1]; exact h2)
    rw [h1] at this
    have e2 : (2 : Nat) ^ n = 2 ^ (n - 64) <<< 64 ^^^ 0 := by
      rw [Nat.xor_zero, Nat.shiftLeft_eq, ← Nat.pow_add]; congr 1; omega
    rw [e2, mk_cat h2 (by decide)]
    exact Prod.ext this rfl
  · have h : n ≤ 63 := by have := of_decide_eq_false h; omega
    rw [wu_in (by omega) (by omega)]
    refine T.no (nn _) (T.pure ?_)
    have h1 : (1 : Nat) <<< n = 2 ^ n := Nat.one_shiftLeft _
    have h2 : 2 ^ n < 2 ^ 64 := Nat.pow_lt_pow_right (by decide) (by omega)
    have := shl_nat (a := 1) (s := n) (by omega) (by rw [h1]; exact h2)
    rw [h1] at this
    have e2 : (2 : Nat) ^ n = 0 <<< 64 ^^^ 2 ^ n := by simp
    rw [e2, mk_cat (by decide) h2]
    exact Prod.ext rfl (Prod.ext this rfl)
theorem has_N {x : E} (hx : rngE x) {n : Nat} (hn : n < 128) : T (fun k => steepleref02_Has.f k x (n : Int)) (fun b => b = (nat x).testBit n) := by
  refine T.eq (steepleref02_Has.f_eq · x _) (T.bind (bit_N hn) fun r hr => T.pure ?_)
  subst hr
  obtain ⟨a, b, ⟨⟩⟩ := x
  obtain ⟨a, rfl, ha⟩ := rng_nat hx.1
  obtain ⟨b, rfl, hb⟩ := rng_nat hx.2
  have e : nat ((a : Int), (b : Int), ()) = a <<< 64 ^^^ b := rfl
  rw [e]
  show ((orI .u64 (andI .u64 (b : Int) (mk (2 ^ n)).2.1) (andI .u64 (a : Int) (mk (2 ^ n)).1)) != 0) = _
  by_cases h : 63 < n
  · have h2 : 2 ^ (n - 64) < 2 ^ 64 := Nat.pow_lt_pow_right (by decide) (by omega)
    have e2 : (2 : Nat) ^ n = 2 ^ (n - 64) <<< 64 ^^^ 0 := by
      rw [Nat.xor_zero, Nat.shiftLeft_eq, ← Nat.pow_add]; congr 1; omega
    rw [e2, mk_cat h2 (by decide)]
    show ((orI .u64 (andI .u64 (b : Int) ((0 : Nat) : Int)) (andI .u64 (a : Int) ((2 ^ (n - 64) : Nat) : Int))) != 0) = _
    rw [and_nat hb (by decide), and_nat ha h2, Nat.and_zero, or_nat (by decide) (Tow.and_lt64 h2), Nat.zero_or, and_2pow, Nat.testBit_xor, Nat.testBit_shiftLeft, Nat.testBit_lt_two_pow (i := n) (Nat.lt_of_lt_of_le hb (Nat.pow_le_pow_right (by decide) (by omega)))]
    have : decide (64 ≤ n) = true := by simp; omega
    rw [show decide (n ≥ 64) = true from this]
    cases a.testBit (n - 64)
    · simp
    · have : 0 < 2 ^ (n - 64) := Nat.two_pow_pos _
      simp
      have h2 := Int.pow_pos (n := (2 : Int)) (m := n - 64) (show (0 : Int) < 2 by decide)
      omega
  · have h2 : 2 ^ n < 2 ^ 64 := Nat.pow_lt_pow_right (by decide) (by omega)
    have e2 : (2 : Nat) ^ n = 0 <<< 64 ^^^ 2 ^ n := by simp
    rw [e2, mk_cat (by decide) h2]
    show ((orI .u64 (andI .u64 (b : Int) ((2 ^ n : Nat) : Int)) (andI .u64 (a : Int) ((0 : Nat) : Int))) != 0) = _
    rw [and_nat hb h2, and_nat ha (by decide), Nat.and_zero, or_nat (Tow.and_lt64 h2) (by decide), Nat.or_zero, and_2pow, Nat.testBit_xor, Nat.testBit_shiftLeft]
    have : decide (n ≥ 64) = false := by simp; omega
    rw [this]
    cases b.testBit n
    · simp
    · have : 0 < 2 ^ n := Nat.two_pow_pos _
      simp
      have h2 := Int.pow_pos (n := (2 : Int)) (m := n) (show (0 : Int) < 2 by decide)
      omega
theorem mask_N {j : Nat} (hj : j ≤ 5) : T (fun k => steepleref02_mask.f k (j : Int)) (fun r => r = ((Tow.msk j : Nat) : Int)) := by
  rcases Tow.j6 hj with rfl | rfl | rfl | rfl | rfl | rfl <;> exact T.eq (steepleref02_mask.f_eq · _) (T.yes (by decide) (T.pure (by decide)))
theorem tword_N : ∀ (j : Nat), j ≤ 6 → ∀ v : Nat, v < 2 ^ 64 → T (fun k => steepleref02_timesWord.f k ((j : Int) - 1) (v : Int)) (fun r => r = ((Tow.tw j v : Nat) : Int))
  | 0, _, v, hv => T.eq (steepleref02_timesWord.f_eq · _ _) (T.yes (by decide) (T.pure rfl))
  | j + 1, hj, v, hv => by
    have e : (((j + 1 : Nat) : Int) - 1) = (j : Int) := by omega
    rw [e]
    have hp : 2 ^ j ≤ 32 := p2le (m := 5) (by omega)
    refine T.eq (steepleref02_timesWord.f_eq · _ _) (T.no (by simp only [decide_eq_false_iff_not]; omega) ?_)
    rw [wu_in (by omega) (by omega), shl_pow_u (by omega), w64_in (by omega) (by omega)]
    refine T.no (nn _) (T.no (nn _) (T.bind (mask_N (by omega)) fun m hm => T.bind (mask_N (by omega)) fun m2 hm2 => ?_))
    subst hm hm2
    have hm := (Tow.msk_shl (j := j) (by omega)).2.2
    rw [shr_nat (by omega), and_nat (Tow.shr_lt64 hv) hm]
    refine T.bind (tword_N j (by omega) _ (Tow.and_lt64 hm)) fun r hr => T.no (nn _) (T.pure ?_)
    subst hr
    have h3 := Tow.tw_lt (j := j) (v := v >>> 2 ^ j &&& Tow.msk j) (by omega) (Tow.and_lt64 hm)
    rw [and_nat hv hm, xor_nat (Tow.and_lt64 hm) h3]
    have hs := Tow.twX_shl (j := j) (by omega) hv
    show orI .u64 (shlI .u64 ((Tow.twX j v : Nat) : Int) ((2 ^ j : Nat) : Int)) _ = _
    rw [shl_nat (by omega) hs, or_nat hs (Tow.and_lt64 hm)]
    exact congrArg _ (Tow.tw_or (by omega) hv)
theorem times_N {x : E} (hx : rngE x) {j : Nat} (hj : j ≤ 6) : T (fun k => steepleref02_Times.f k (j : Int) x) (fun r => r = mk (Tow.times j (nat x))) := by
  obtain ⟨a, b, ⟨⟩⟩ := x
  obtain ⟨a, rfl, ha⟩ := rng_nat hx.1
  obtain ⟨b, rfl, hb⟩ := rng_nat hx.2
  have e : nat ((a : Int), (b : Int), ()) = a <<< 64 ^^^ b := rfl
  have e1 : (a <<< 64 ^^^ b) >>> 64 = a := Tow.hi_of hb
  have e2 : (a <<< 64 ^^^ b) &&& Tow.M64 = b := Tow.lo_of hb
  rw [e]
  refine T.eq (steepleref02_Times.f_eq · _ _) (T.ite (fun h => ?_) (fun h => ?_))
  · have h : j < 6 := by have := of_decide_eq_true h; omega
    have ej : (j : Int) = ((j + 1 : Nat) : Int) - 1 := by omega
    rw [ej]
    refine T.bind (tword_N (j + 1) (by omega) a ha) fun r1 h1 => T.bind (tword_N (j + 1) (by omega) b hb) fun r2 h2 => T.pure ?_
    subst h1 h2
    unfold Tow.times
    rw [Nat.blt_eq.mpr h, e1, e2]
    exact (mk_cat (Tow.tw_lt (by omega) ha) (Tow.tw_lt (by omega) hb)).symm
  · have h : j = 6 := by have := of_decide_eq_false h; omega
    subst h
    refine T.bind (tword_N 6 (by omega) a ha) fun r1 h1 => T.pure ?_
    subst h1
    show (xorI .u64 (b : Int) _, _) = _
    rw [xor_nat hb (Tow.tw_lt (by omega) ha)]
    have : Tow.times 6 (a <<< 64 ^^^ b) = (b ^^^ Tow.tw 6 a) <<< 64 ^^^ a := by
      show ((_ &&& Tow.M64) ^^^ Tow.tw 6 (_ >>> 64)) <<< 64 ^^^ (_ >>> 64) = _
      rw [e1, e2]
    rw [this, mk_cat (Nat.xor_lt_two_pow hb (Tow.tw_lt (by omega) ha)) ha]
theorem bitI {n j : Nat} (hn : n < 128) (hj : j < 7) : andI .i64 (shrI .i64 (n : Int) (wu64 (j : Int))) 1 = (((n >>> j) % 2 : Nat) : Int) := by
  rw [wu_in (by omega) (by omega)]
  have e1 : shrI .i64 (n : Int) (j : Int) = ((n >>> j : Nat) : Int) := by
    unfold shrI
    have e : min ((j : Int).toNat) IntKind.i64.bits = j := by rw [Int.toNat_natCast]; exact Nat.min_eq_left (show j ≤ 64 by omega)
    rw [e, Nat.shiftRight_eq_div_pow, Int.fdiv_eq_ediv_of_nonneg _ (by exact Int.le_of_lt (Int.pow_pos (by decide)))]
    simp
  rw [e1]
  have hm : n >>> j < 128 := by rw [Nat.shiftRight_eq_div_pow]; exact Nat.lt_of_le_of_lt (Nat.div_le_self _ _) hn
  generalize n >>> j = m at hm
  show IntKind.i64.wrap ((BitVec.ofInt 64 (m : Int) &&& BitVec.ofInt 64 1).toNat : Int) = _
  rw [BitVec.toNat_and, toNat_nat (by omega), show (BitVec.ofInt 64 1).toNat = 1 by decide, Nat.and_one_is_mod]
  exact w64_in (by omega) (by omega)
theorem prod_T {a b : E} (ha : rngE a) (hb : rngE b) : T (fun k => steepleref02_Product.f k a b) (fun r => r = Pr a b) := by
  refine T.eq (steepleref02_Product.f_eq · a b) (T.loop0 (f := fun k s i => steepleref02_Product.l58 k a b (0, 0, ()) s i) 128 (fun s i => s = mk (Tow.prodTo i (nat a) (nat b))) (0, 0, ()) (show (0, 0, ()) = mk 0 by decide) fun s i hi hI ih => ?_)
  subst hI
  refine T.eq (steepleref02_Product.l58_eq · a b _ _ _) (T.ite (fun hlt => ?_) (fun hge => ?_))
  · have hlt : i < 128 := by have := of_decide_eq_true hlt; omega
    refine T.bind (has_N hb hlt) fun t ht => T.ite (fun h => ?_) (fun h => ?_)
    · have h : (nat b).testBit i = false := by subst ht; simpa using h
      rw [inc (by omega)]
      refine ih _ hlt ?_
      rw [Tow.prodTo, h]; simp
    · have h : (nat b).testBit i = true := by subst ht; simpa using h
      refine T.loop0 (f := fun k s j => steepleref02_Product.l29850 k a b (0, 0, ()) (mk (Tow.prodTo i (nat a) (nat b))) (i : Int) s j) 7 (fun s j => rngE s ∧ Tow.timesFrom (7 - j) j i (nat s) = Tow.timesAll i (nat a)) a ⟨ha, rfl⟩ fun s j hj hI ih2 => ?_
      refine T.eq (steepleref02_Product.l29850_eq · a b _ _ _ _ _) (T.ite (fun hlt2 => ?_) (fun hge => ?_))
      · have hlt2 : j < 7 := by have := of_decide_eq_true hlt2; omega
        rw [inc (by omega)]
        have e7 : 7 - j = (7 - (j + 1)) + 1 := by omega
        rw [e7, Tow.timesFrom] at hI
        refine T.no (by rw [wu_in (by omega) (by omega)]; simp) (T.ite (fun hb1 => T.bind (times_N hI.1 (by omega)) fun t ht => ?_) (fun hb1 => ?_))
        · rw [bitI hlt hlt2] at hb1
          have hb1 : (i >>> j) % 2 = 1 := by
            have : (((i >>> j) % 2 : Nat) : Int) = 1 := by simpa using hb1
            omega
          subst ht
          refine ih2 _ hlt2 ⟨mk_rng (Tow.times_lt (by omega) (nat_lt hI.1)), ?_⟩
          rw [nat_mk]
          have := hI.2
          rw [hb1] at this
          exact this
        · rw [bitI hlt hlt2] at hb1
          have hb1 : (i >>> j) % 2 = 0 := by
            have : ¬ (((i >>> j) % 2 : Nat) : Int) = 1 := by simpa using hb1
            omega
          refine ih2 _ hlt2 ⟨hI.1, ?_⟩
          have := hI.2
          rw [hb1] at this
          exact this
      · have hge : j = 7 := by have := of_decide_eq_false hge; omega
        subst hge
        refine T.bind (p := fun r => r = Av (mk (Tow.prodTo i (nat a) (nat b))) s) (T.eq (steepleref02_Add.f_eq · _ _) (T.pure rfl)) fun t ht => ?_
        subst ht
        rw [inc (by omega)]
        refine ih _ hlt ?_
        have h2 : nat s = Tow.timesAll i (nat a) := hI.2
        rw [Tow.prodTo, h]
        show _ = mk (_ ^^^ Tow.timesAll i (nat a))
        rw [← h2, mk_xor (Tow.prodTo_lt (nat_lt ha) i) (nat_lt hI.1), mk_nat hI.1]
  · have hge : i = 128 := by have := of_decide_eq_false hge; omega
    subst hge
    exact T.pure (by rw [Tow.prod_mul (nat_lt ha) (nat_lt hb)]; rfl)
end Go.Proofs.Ytplmejnoepkdgaa.H1
namespace Go.Proofs.Ytplmejnoepkdgaa.H1
open Go Go.Proofs.Ytplmejnoepkdgaa.Rf
/-- A step's degree. -/
def dgr (ds : List Int) (o : O) : Int :=
  if o.1 = 2 then 1 else if o.1 = 3 then (if ds.getD o.2.2.1.toNat 0 > ds.getD o.2.1.toNat 0 then ds.getD o.2.2.1.toNat 0 else ds.getD o.2.1.toNat 0)
  else if o.1 = 4 then ds.getD o.2.1.toNat 0 + ds.getD o.2.2.1.toNat 0 else 0
/-- What is wrong with a step. -/
def stepE (lv vars : Int) (j : Nat) (o : O) : Int :=
  if o.1 = 1 ∧ o.2.1 = 0 ∧ o.2.2.1 = 0 then (if ofB lv o.2.2.2.1 = true then 0 else 5)
  else if o.1 = 2 ∧ o.2.2.1 = 0 ∧ o.2.2.2.1.1 = 0 ∧ o.2.2.2.1.2.1 = 0 then (if 0 ≤ o.2.1 ∧ o.2.1 < vars then 0 else 4)
  else if (o.1 = 3 ∨ o.1 = 4) ∧ o.2.2.2.1.1 = 0 ∧ o.2.2.2.1.2.1 = 0 ∧ (0 ≤ o.2.1 ∧ o.2.1 < j ∧ 0 ≤ o.2.2.1 ∧ o.2.2.1 < j) then 0 else 3
theorem stepE_ok {lv vars : Int} {j : Nat} {o : O} (h : stepE lv vars j o = 0) : okS vars j o := by
  unfold stepE at h
  unfold okS
  split at h
  · rename_i c; obtain ⟨c1, c2, c3⟩ := c; omega
  · split at h
    · split at h
      · omega
      · cases h
    · split at h
      · omega
      · cases h
theorem stepE_of {lv vars : Int} {j : Nat} {o : O} (h : stepE lv vars j o = 0) (h1 : o.1 = 1) : ofB lv o.2.2.2.1 = true := by
  unfold stepE at h
  split at h
  · split at h
    · assumption
    · cases h
  · split at h
    · omega
    · split at h
      · omega
      · cases h
theorem ahead_X (o : O) (i : Int) : T (fun k => expr_ahead.f k o i) (fun b => b = decide (0 ≤ o.2.1 ∧ o.2.1 < i ∧ 0 ≤ o.2.2.1 ∧ o.2.2.1 < i)) := by
  refine T.eq (expr_ahead.f_eq · o i) (T.ite (fun h1 => T.ite (fun h2 => T.ite (fun h3 => T.pure ?_) (fun h3 => T.pure ?_)) (fun h2 => T.pure ?_)) (fun h1 => T.pure ?_))
  all_goals simp only [decide_eq_true_eq, decide_eq_false_iff_not, ge_iff_le] at *
  · simp [h1, h2, h3]
  all_goals (symm; simp only [decide_eq_false_iff_not]; omega)
def dsOk (ds : List Int) : Prop := ∀ j, 0 ≤ ds.getD j 0 ∧ ds.getD j 0 ≤ 8
theorem step_X (lv vars : Int) (o : O) (ds : List Int) (hds : dsOk ds) : T (fun k => expr_step.f k lv vars o ds) (fun r => r.2 = stepE lv vars ds.length o ∧ (r.2 = 0 → r.1 = dgr ds o)) := by
  have hw : w64 (ds.getD o.2.1.toNat 0 + ds.getD o.2.2.1.toNat 0) = ds.getD o.2.1.toNat 0 + ds.getD o.2.2.1.toNat 0 := by
    have h1 := hds o.2.1.toNat
    have h2 := hds o.2.2.1.toNat
    exact w64_in (by omega) (by omega)
  refine T.eq (expr_step.f_eq · lv vars o ds) ?_
  rw [hw]
  by_cases k1 : o.1 = 1
  · have n2 : ¬ o.1 = 2 := by omega
    have n3 : ¬ o.1 = 3 := by omega
    have n4 : ¬ o.1 = 4 := by omega
    have b1 : (o.1 == 1) = true := by simpa using k1
    have b2 : (o.1 == 2) = false := by simpa using n2
    have b3 : (o.1 == 3) = false := by simpa using n3
    have b4 : (o.1 == 4) = false := by simpa using n4
    simp only [b1, b2, b3, b4, cond_true, cond_false]
    refine T.ite (fun a => T.ite (fun b => T.bind (of_T _ _) fun c hc => T.ite (fun d => T.pure ?_) (fun d => T.pure ?_)) (fun b => T.pure ?_)) (fun a => T.pure ?_) <;> simp_all [stepE, dgr]
  · have b1 : (o.1 == 1) = false := by simpa using k1
    by_cases k2 : o.1 = 2
    · have n3 : ¬ o.1 = 3 := by omega
      have n4 : ¬ o.1 = 4 := by omega
      have b2 : (o.1 == 2) = true := by simpa using k2
      have b3 : (o.1 == 3) = false := by simpa using n3
      have b4 : (o.1 == 4) = false := by simpa using n4
      simp only [b1, b2, b3, b4, cond_true, cond_false]
      refine T.ite (fun a => T.ite (fun b => T.ite (fun c => T.pure ?_) (fun c => T.ite (fun d => T.pure ?_) (fun d => T.pure ?_))) (fun b => T.pure ?_)) (fun a => T.pure ?_)
      all_goals simp only [beq_iff_eq, beq_eq_false_iff_ne, Bool.and_eq_true, Bool.and_eq_false_iff, decide_eq_true_eq, decide_eq_false_iff_not, ne_eq] at *
      all_goals (unfold stepE dgr)
      · refine ⟨?_, fun h => by cases h⟩
        rw [if_neg (by omega), if_pos (by omega), if_neg (by omega)]
      · refine ⟨?_, fun h => by cases h⟩
        rw [if_neg (by omega), if_pos (by omega), if_neg (by omega)]
      · refine ⟨?_, fun _ => by rw [if_pos k2]⟩
        rw [if_neg (by omega), if_pos (by omega), if_pos (by omega)]
      · refine ⟨?_, fun h => by cases h⟩
        rw [if_neg (by omega), if_neg (by omega), if_neg (by omega)]
      · refine ⟨?_, fun h => by cases h⟩
        rw [if_neg (by omega), if_neg (by omega), if_neg (by omega)]
    · have b2 : (o.1 == 2) = false := by simpa using k2
      by_cases k3 : o.1 = 3
      · have n4 : ¬ o.1 = 4 := by omega
        have b3 : (o.1 == 3) = true := by simpa using k3
        have b4 : (o.1 == 4) = false := by simpa using n4
        simp only [b1, b2, b3, b4, cond_true, cond_false]
        refine T.ite (fun a => T.bind (ahead_X _ _) fun b hb => T.ite (fun c => ?_) (fun c => T.pure ?_)) (fun a => T.pure ?_)
        · subst hb
          simp only [decide_eq_true_eq] at c
          refine T.yes (inB_int c.1 c.2.1) (T.yes (inB_int c.2.2.1 c.2.2.2) (T.pure ?_))
          simp only [beq_iff_eq, Bool.and_eq_true] at a
          refine ⟨show (0 : Int) = _ from ?_, fun _ => ?_⟩
          · unfold stepE; rw [if_neg (by omega), if_neg (by omega), if_pos (by omega)]
          · unfold dgr; rw [if_neg (show ¬ o.1 = 2 from k2), if_pos k3]
        · subst hb
          simp only [decide_eq_false_iff_not] at c
          unfold stepE
          refine ⟨?_, fun h => by cases h⟩
          rw [if_neg (by omega), if_neg (by omega), if_neg (by omega)]
        · simp only [beq_iff_eq, beq_eq_false_iff_ne, Bool.and_eq_false_iff, ne_eq] at a
          unfold stepE
          refine ⟨?_, fun h => by cases h⟩
          rw [if_neg (by omega), if_neg (by omega), if_neg (by omega)]
      · have b3 : (o.1 == 3) = false := by simpa using k3
        simp only [b1, b2, b3, cond_true, cond_false]
        refine T.ite (fun k4 => T.ite (fun a => T.bind (ahead_X _ _) fun b hb => T.ite (fun c => ?_) (fun c => T.pure ?_)) (fun a => T.pure ?_)) (fun k4 => T.pure ?_)
        · subst hb
          simp only [decide_eq_true_eq] at c
          refine T.yes (inB_int c.1 c.2.1) (T.yes (inB_int c.2.2.1 c.2.2.2) (T.pure ?_))
          simp only [beq_iff_eq, Bool.and_eq_true] at a k4
          refine ⟨show (0 : Int) = _ from ?_, fun _ => ?_⟩
          · unfold stepE; rw [if_neg (by omega), if_neg (by omega), if_pos (by omega)]
          · unfold dgr; rw [if_neg (show ¬ o.1 = 2 from k2), if_neg (show ¬ o.1 = 3 from k3), if_pos k4]
        · subst hb
          simp only [decide_eq_false_iff_not] at c
          unfold stepE
          refine ⟨?_, fun h => by cases h⟩
          rw [if_neg (by omega), if_neg (by omega), if_neg (by omega)]
        · simp only [beq_iff_eq, beq_eq_false_iff_ne, Bool.and_eq_false_iff, ne_eq] at a
          unfold stepE
          refine ⟨?_, fun h => by cases h⟩
          rw [if_neg (by omega), if_neg (by omega), if_neg (by omega)]
        · simp only [beq_eq_false_iff_ne, ne_eq] at k4
          unfold stepE
          refine ⟨?_, fun h => by cases h⟩
          rw [if_neg (by omega), if_neg (by omega), if_neg (by omega)]
/-- What is wrong with steps behind others, of these degrees. -/
def chk (lv vars : Int) : List Int → List O → Int
  | _, [] => 0
  | ds, o :: l => if stepE lv vars ds.length o = 0 then (if dgr ds o > 8 then 7 else chk lv vars (ds ++ [dgr ds o]) l) else stepE lv vars ds.length o
def degL : List Int → List O → List Int
  | ds, [] => ds
  | ds, o :: l => degL (ds ++ [dgr ds o]) l
/-- What is wrong with an expression. -/
def chkX (lv vars : Int) (l : List O) : Int := if lv < 0 ∨ lv > 7 ∨ vars < 0 then 1 else if l.length = 0 then 3 else if l.length > 200 then 2 else chk lv vars [] l
theorem wide_X (l : Int) : T (fun k => octet_Wide.f k l) (fun r => r = 0 ↔ (l < 0 ∨ l > 7)) := by
  refine T.eq (octet_Wide.f_eq · l) (T.ite (fun h1 => T.pure ?_) fun h1 => T.ite (fun h2 => T.pure ?_) fun h2 => T.ite (fun h3 => T.pure ?_) fun h3 => T.no ?_ (T.pure ?_))
  · exact ⟨fun _ => .inl (of_decide_eq_true h1), fun _ => rfl⟩
  · exact ⟨fun _ => .inr (of_decide_eq_true h2), fun _ => rfl⟩
  · have h1 := of_decide_eq_false h1
    have h2 := of_decide_eq_false h2
    exact ⟨fun h => (by cases h), fun h => (by omega)⟩
  · have h1 := of_decide_eq_false h1
    have h2 := of_decide_eq_false h2
    have h3 := of_decide_eq_false h3
    rw [w64_in (by omega) (by omega)]; simp only [decide_eq_false_iff_not]; omega
  · have h1 := of_decide_eq_false h1
    have h2 := of_decide_eq_false h2
    have h3 := of_decide_eq_false h3
    have hc : l = 4 ∨ l = 5 ∨ l = 6 ∨ l = 7 := by omega
    rcases hc with rfl | rfl | rfl | rfl <;> decide
theorem drop_cons {α : Type} (l : List α) (d : α) {i : Nat} (h : i < l.length) : l.drop i = l.getD i d :: l.drop (i + 1) := by
  rw [List.drop_eq_getElem_cons h, List.getD_eq_getElem?_getD, List.getElem?_eq_getElem h]; rfl
theorem degL_app : ∀ (l m : List O) (ds : List Int), degL ds (l ++ m) = degL (degL ds l) m
  | [], m, ds => rfl
  | o :: l, m, ds => degL_app l m _
theorem degL_length : ∀ (l : List O) (ds : List Int), (degL ds l).length = ds.length + l.length
  | [], ds => rfl
  | o :: l, ds => by rw [degL, degL_length l, List.length_append, List.length_cons]; simp only [List.length_cons, List.length_nil]; omega
theorem degL_snoc (l : List O) {i : Nat} (h : i < l.length) : degL [] (l.take (i + 1)) = degL [] (l.take i) ++ [dgr (degL [] (l.take i)) (l.getD i zo)] := by
  rw [take_snoc l zo h, degL_app]; rfl
theorem dgr_nn {ds : List Int} (h : dsOk ds) (o : O) : 0 ≤ dgr ds o ∧ dgr ds o ≤ 16 := by
  have h1 := h o.2.1.toNat
  have h2 := h o.2.2.1.toNat
  unfold dgr
  split
  · omega
  · split
    · split <;> omega
    · split <;> omega
theorem dsOk_snoc {ds : List Int} (h : dsOk ds) {d : Int} (h1 : 0 ≤ d) (h2 : d ≤ 8) : dsOk (ds ++ [d]) := fun j => by
  by_cases hj : j < ds.length
  · rw [getD_app_lt ds d 0 hj]; exact h j
  · by_cases e : j = ds.length
    · subst e; simp; exact ⟨h1, h2⟩
    · have : (ds ++ [d]).getD j 0 = 0 := by simp [List.getD_eq_getElem?_getD]; rw [List.getElem?_eq_none (by simp; omega)]; rfl
      rw [this]; exact ⟨by decide, by decide⟩
theorem degrees_X (lv vars : Int) (l : List O) : T (fun k => expr_degrees.f k lv vars l) (fun r => r.2 = chkX lv vars l ∧ (r.2 = 0 → r.1 = degL [] l)) := by
  unfold chkX
  refine T.eq (expr_degrees.f_eq · lv vars l) (T.bind (wide_X lv) fun w hw => T.ite (fun h => T.pure ?_) fun h1 => T.ite (fun h => T.pure ?_) fun h2 => T.ite (fun h => T.pure ?_) fun h3 => T.ite (fun h => T.pure ?_) fun h4 => ?_)
  · have h : w = 0 := by simpa using h
    rw [if_pos (by have := hw.1 h; omega)]; exact ⟨rfl, fun h => by cases h⟩
  · have h := of_decide_eq_true h
    rw [if_pos (by omega)]; exact ⟨rfl, fun h => by cases h⟩
  · have h1 : ¬ w = 0 := by simpa using h1
    have : ¬ (lv < 0 ∨ lv > 7) := fun h => h1 (hw.2 h)
    have h2 := of_decide_eq_false h2
    have h : ((l.length : Int) = 0) := by simpa using h
    rw [if_neg (by omega), if_pos (by omega)]; exact ⟨rfl, fun h => by cases h⟩
  · have h1 : ¬ w = 0 := by simpa using h1
    have : ¬ (lv < 0 ∨ lv > 7) := fun h => h1 (hw.2 h)
    have h2 := of_decide_eq_false h2
    have h3 : ¬ ((l.length : Int) = 0) := by simpa using h3
    have h := of_decide_eq_true h
    rw [if_neg (by omega), if_neg (by omega), if_pos (by omega)]; exact ⟨rfl, fun h => by cases h⟩
  · have h1 : ¬ w = 0 := by simpa using h1
    have : ¬ (lv < 0 ∨ lv > 7) := fun h => h1 (hw.2 h)
    have h2 := of_decide_eq_false h2
    have h3 : ¬ ((l.length : Int) = 0) := by simpa using h3
    have h4 := of_decide_eq_false h4
    rw [if_neg (by omega), if_neg (by omega), if_neg (by omega)]
    refine T.loop0 (f := fun k s i => expr_degrees.l122 k lv vars s l (l.length : Int) i) l.length (fun s i => s = degL [] (l.take i) ∧ dsOk s ∧ chk lv vars [] l = chk lv vars s (l.drop i)) [] ⟨rfl, fun j => ⟨by simp, by simp⟩, rfl⟩ fun s i hi hI ih => ?_
    obtain ⟨I1, I2, I3⟩ := hI
    have hlen : s.length = i := by rw [I1, degL_length, List.length_take]; simp; omega
    refine T.eq (expr_degrees.l122_eq · lv vars s l _ _) (T.ite (fun hlt => ?_) (fun hge => ?_))
    · have hlt := lt_dec hlt
      have hroom : ∀ t : Int, room (s.length + ([t] : List Int).length) 8 = true := fun t => room_ok (by simp only [List.length_singleton]; omega)
      rw [drop_cons l zo hlt] at I3
      simp only [chk] at I3
      refine T.yes (inB_nat hlt) (T.bind (step_X _ _ _ _ I2) fun r hr => ?_)
      simp only [Int.toNat_natCast] at hr
      have e0 : (l.getD i (0, 0, 0, (0, 0, ()), ())) = l.getD i zo := rfl
      rw [e0] at hr
      rw [inc (by omega)]
      have go : r.2 = 0 → r.1 ≤ 8 → T (fun k => expr_degrees.l122 k lv vars (s ++ [r.1]) l (l.length : Int) ((i : Int) + 1)) _ := fun h h8 => ih _ hlt (by
        rw [hr.2 h] at h8 ⊢
        rw [hr.1] at h
        rw [if_pos h, if_neg (by omega)] at I3
        refine ⟨?_, dsOk_snoc I2 (dgr_nn I2 _).1 h8, I3⟩
        rw [degL_snoc l hlt, ← I1])
      refine T.ite (fun h2 => ?_) (fun h2 => ?_)
      · have h2 : r.2 = 0 := by simpa using h2
        refine T.ite (fun h8 => T.yes (by decide) (T.pure ?_)) (fun h8 => T.no (by simpa using h2) (T.yes (hroom _) (go h2 (by simpa using h8))))
        have h8 : r.1 > 8 := by simpa using h8
        rw [hr.2 h2] at h8
        rw [hr.1] at h2
        rw [if_pos h2, if_pos h8] at I3
        exact ⟨I3.symm, fun h => by cases h⟩
      · have h2 : ¬ r.2 = 0 := by simpa using h2
        refine T.yes (by simpa using h2) (T.pure ?_)
        rw [hr.1] at h2
        rw [if_neg h2] at I3
        exact ⟨by rw [I3]; exact hr.1, fun h => by rw [← hr.1] at h2; exact absurd h h2⟩
    · have hge := nlt_dec hge
      have e : i = l.length := by omega
      subst e
      rw [List.drop_length] at I3
      rw [List.take_length] at I1
      exact T.pure ⟨by rw [I3]; rfl, fun _ => I1⟩
theorem Check_X (lv vars : Int) (l : List O) : T (fun k => expr_Check.f k lv vars l) (fun e => e = chkX lv vars l) :=
  T.eq (expr_Check.f_eq · lv vars l) (T.bind (degrees_X lv vars l) fun r hr => T.pure hr.1)
end Go.Proofs.Ytplmejnoepkdgaa.H1
namespace Go.Proofs.Ytplmejnoepkdgaa.H1
open Go Go.Proofs.Ytplmejnoepkdgaa.Rf
theorem bit_X {x : E} (hx : rngE x) {i : Nat} (hi : i < 128) : T (fun k => steepleref01_bit.f k x (i : Int)) (fun r => r = (((nat x).testBit i).toNat : Nat)) := by
  obtain ⟨a, b, ⟨⟩⟩ := x
  obtain ⟨a, rfl, ha⟩ := rng_nat hx.1
  obtain ⟨b, rfl, hb⟩ := rng_nat hx.2
  have e : nat ((a : Int), (b : Int), ()) = a <<< 64 ^^^ b := rfl
  rw [e]
  have key : ∀ {m s : Nat}, m < 2 ^ 64 → s ≤ 64 → andI .u64 (shrI .u64 (m : Int) (s : Int)) 1 = (((m.testBit s).toNat : Nat) : Int) := fun {m s} hm hs => by
    rw [shr_nat hs]
    have := and_nat (a := m >>> s) (b := 1) (Tow.shr_lt64 hm) (by decide)
    refine Eq.trans this ?_
    rw [Nat.and_one_is_mod, Nat.toNat_testBit, Nat.shiftRight_eq_div_pow]
  refine T.eq (steepleref01_bit.f_eq · _ _) (T.ite (fun h => ?_) (fun h => ?_))
  · have h : 64 ≤ i := by have := of_decide_eq_true h; omega
    rw [w64_in (by omega) (by omega), wu_in (by omega) (by omega)]
    have e2 : (i : Int) - 64 = ((i - 64 : Nat) : Int) := by omega
    rw [e2]
    refine T.no (by simp only [decide_eq_false_iff_not]; omega) (T.pure ?_)
    show andI .u64 (shrI .u64 (a : Int) ((i - 64 : Nat) : Int)) 1 = _
    rw [key ha (by omega), Nat.testBit_xor, Nat.testBit_shiftLeft, Nat.testBit_lt_two_pow (i := i) (Nat.lt_of_lt_of_le hb (Nat.pow_le_pow_right (by decide) h))]
    have : decide (i ≥ 64) = true := by simpa using h
    rw [this]; simp
  · have h : i < 64 := by have := of_decide_eq_false h; omega
    rw [wu_in (by omega) (by omega)]
    refine T.no (by simp only [decide_eq_false_iff_not]; omega) (T.pure ?_)
    show andI .u64 (shrI .u64 (b : Int) (i : Int)) 1 = _
    rw [key hb (by omega), Nat.testBit_xor, Nat.testBit_shiftLeft]
    have : decide (i ≥ 64) = false := by simpa using h
    rw [this]; simp
theorem rof_X (lv : Int) {x : E} (hx : rngE x) : T (fun k => steepleref01_Of.f k lv x) (fun b => b = ofB lv x) := by
  refine T.eq (steepleref01_Of.f_eq · lv x) (T.ite (fun h => T.pure ?_) fun h1 => T.ite (fun h => T.pure ?_) fun h2 => ?_)
  · have h : lv < 0 := of_decide_eq_true h
    unfold ofB; rw [if_pos h]
  · have h1 : ¬ lv < 0 := of_decide_eq_false h1
    have h : lv > 7 := of_decide_eq_true h
    unfold ofB; rw [if_neg h1, if_pos h]
  · have h1 : ¬ lv < 0 := of_decide_eq_false h1
    have h2 : ¬ lv > 7 := of_decide_eq_false h2
    obtain ⟨l, rfl⟩ := Int.eq_ofNat_of_zero_le (show 0 ≤ lv by omega)
    have hl : l ≤ 7 := by omega
    refine T.yes (inB_nat (by show l < 8; omega)) ?_
    have e : ([1, 2, 4, 8, 16, 32, 64, 128] : List Int).getD ((l : Int).toNat) 0 = ((2 ^ l : Nat) : Int) := by
      rcases (show l = 0 ∨ l = 1 ∨ l = 2 ∨ l = 3 ∨ l = 4 ∨ l = 5 ∨ l = 6 ∨ l = 7 by omega) with rfl | rfl | rfl | rfl | rfl | rfl | rfl | rfl <;> rfl
    show T (fun k => steepleref01_Of.l122 k x (([1, 2, 4, 8, 16, 32, 64, 128] : List Int).getD ((l : Int).toNat) 0)) _
    rw [e]
    have hp : 2 ^ l ≤ 128 := p2le (m := 7) hl
    refine T.loop (σ := Unit) (f := fun k _ i => steepleref01_Of.l122 k x i) 128 (fun _ i => 2 ^ l ≤ i ∧ ∀ j, 2 ^ l ≤ j → j < i → (nat x).testBit j = false) (fun s i hi hI ih => ?_) (128 - 2 ^ l) () (2 ^ l) (by omega) hp ⟨Nat.le_refl _, fun j a b => by omega⟩
    obtain ⟨I1, I2⟩ := hI
    refine T.eq (steepleref01_Of.l122_eq · _ _) (T.ite (fun hlt => ?_) (fun hge => ?_))
    · have hlt : i < 128 := by have := of_decide_eq_true hlt; omega
      refine T.bind (bit_X hx hlt) fun b hb => T.ite (fun h => T.pure ?_) (fun h => ?_)
      · have hbit : (nat x).testBit i = true := by
          subst hb
          cases hc : (nat x).testBit i with
          | true => rfl
          | false => rw [hc] at h; cases h
        symm
        rw [Bool.eq_false_iff]
        intro ho
        have := (ofB_iff hl hx).1 ho
        rw [Nat.testBit_lt_two_pow (Nat.lt_of_lt_of_le this (Nat.pow_le_pow_right (by decide) I1))] at hbit
        cases hbit
      · have hbit : (nat x).testBit i = false := by
          subst hb
          cases hc : (nat x).testBit i with
          | false => rfl
          | true => rw [hc] at h; cases h
        rw [inc (by omega)]
        refine ih () hlt ⟨by omega, fun j a b => ?_⟩
        by_cases ej : j = i
        · subst ej; exact hbit
        · exact I2 j a (by omega)
    · have hge : i = 128 := by have := of_decide_eq_false hge; omega
      subst hge
      refine T.pure ?_
      symm
      rw [ofB_iff hl hx]
      refine Nat.lt_pow_two_of_testBit _ fun j hj => ?_
      by_cases h : j < 128
      · exact I2 j hj h
      · exact Nat.testBit_lt_two_pow (Nat.lt_of_lt_of_le (nat_lt hx) (Nat.pow_le_pow_right (by decide) (by show 2 ^ 7 ≤ j; omega)))
/-- Elements of words. -/
def allR (l : List E) : Prop := ∀ j, rngE (l.getD j z)
theorem degAt_X {vars : Int} (l : List O) (i : Nat) (hi : i < l.length) (hl : l.length ≤ 1000) (ho : ∀ j, j ≤ i → okS vars j (l.getD j zo)) (hd : ∀ k, k ≤ i → dsOk (degL [] (l.take k))) :
    T (fun k => steepleref16_DegreeAt.f k l (i : Int)) (fun r => r = (degL [] (l.take (i + 1))).getD i 0) := by
  refine T.eq (steepleref16_DegreeAt.f_eq · l _) (T.loop0 (f := fun k s j => steepleref16_DegreeAt.l58 k l (i : Int) s j) (i + 1) (fun s j => s = degL [] (l.take j)) [] rfl fun s j hj hI ih => ?_)
  refine T.eq (steepleref16_DegreeAt.l58_eq · l _ _ _) (T.ite (fun hlt => ?_) (fun hge => ?_))
  · have hlt : j ≤ i := by have := of_decide_eq_true hlt; omega
    have hjl : j < l.length := by omega
    have hlen : s.length = j := by rw [hI, degL_length, List.length_take]; simp; omega
    have hds : dsOk s := by rw [hI]; exact hd j hlt
    obtain ⟨o, eo⟩ : ∃ o, o = l.getD j zo := ⟨_, rfl⟩
    have eo' : l.getD j (0, 0, 0, (0, 0, ()), ()) = o := eo.symm
    obtain ⟨u1, u2, u3⟩ := ho j hlt
    rw [← eo] at u1 u2 u3
    rw [← hlen] at u3
    have hroom : ∀ t : Int, room (s.length + ([t] : List Int).length) 8 = true := fun t => room_ok (by simp only [List.length_singleton]; omega)
    have hin : inB (j : Int) l.length = true := inB_nat hjl
    have go : ∀ t, t = dgr s o → T (fun k => steepleref16_DegreeAt.l58 k l (i : Int) (s ++ [t]) (w64 ((j : Int) + 1))) _ := fun t ht => by
      rw [inc (by omega)]
      refine ih _ (by omega) ?_
      rw [degL_snoc l hjl, ← hI, ht, eo]
    have hw := (hds o.2.1.toNat)
    have hw2 := (hds o.2.2.1.toNat)
    have last : ∀ d1, (o.1 ≠ 4 → d1 = dgr s o) → T (fun k => steepleref16_DegreeAt.l7463 k l (i : Int) s (j : Int) d1) (fun r => r = (degL [] (l.take (i + 1))).getD i 0) := fun d1 h1 => by
      refine T.eq (steepleref16_DegreeAt.l7463_eq · l _ _ _ _) ?_
      simp only [Int.toNat_natCast, eo']
      refine T.yes hin (T.ite (fun h4 => T.yes hin ?_) (fun h4 => T.yes (hroom _) (go _ ?_)))
      · have h4 : o.1 = 4 := by simpa using h4
        obtain ⟨v1, v2, v3, v4⟩ := u3 (.inr h4)
        refine T.yes (inB_int v1 v2) (T.yes hin (T.yes (inB_int v3 v4) (T.yes (hroom _) (go _ ?_))))
        rw [w64_in (by omega) (by omega)]
        unfold dgr
        rw [if_neg (by omega), if_neg (by omega), if_pos h4]
      · exact h1 (by simpa using h4)
    have mid : ∀ d0, (o.1 ≠ 3 → o.1 ≠ 4 → d0 = dgr s o) → T (fun k => steepleref16_DegreeAt.l3731 k l (i : Int) s (j : Int) d0) (fun r => r = (degL [] (l.take (i + 1))).getD i 0) := fun d0 h0 => by
      refine T.eq (steepleref16_DegreeAt.l3731_eq · l _ _ _ _) ?_
      simp only [Int.toNat_natCast, eo']
      refine T.yes hin (T.ite (fun h3 => T.yes hin ?_) (fun h3 => last _ (h0 (by simpa using h3))))
      have h3 : o.1 = 3 := by simpa using h3
      obtain ⟨v1, v2, v3, v4⟩ := u3 (.inl h3)
      refine T.yes (inB_int v1 v2) (T.yes hin (T.yes (inB_int v3 v4) (T.ite (fun hb => T.yes hin (T.yes (inB_int v3 v4) (last _ fun _ => ?_))) (fun hb => last _ fun _ => ?_))))
      · unfold dgr; rw [if_neg (by omega), if_pos h3, if_pos (of_decide_eq_true hb)]
      · unfold dgr; rw [if_neg (by omega), if_pos h3, if_neg (of_decide_eq_false hb)]
    simp only [Int.toNat_natCast, eo']
    refine T.yes hin (T.ite (fun h2 => mid _ fun _ _ => ?_) (fun h2 => mid _ fun a b => ?_))
    · unfold dgr; rw [if_pos (by simpa using h2)]
    · unfold dgr; rw [if_neg (by simpa using h2), if_neg a, if_neg b]
  · have e : j = i + 1 := by have := of_decide_eq_false hge; omega
    subst e
    have hlen : s.length = i + 1 := by rw [hI, degL_length, List.length_take]; simp; omega
    exact T.yes (inB_nat (by omega)) (T.pure (by rw [hI]; rfl))
theorem rCheck_X (lv vars : Int) (l : List O) (hr : ∀ i, rngE (l.getD i zo).2.2.2.1) : T (fun k => steepleref16_Check.f k lv vars l) (fun e => e = chkX lv vars l) := by
  unfold chkX
  refine T.eq (steepleref16_Check.f_eq · lv vars l) (T.ite (fun h => T.pure ?_) fun h1 => T.ite (fun h => T.pure ?_) fun h2 => T.ite (fun h => T.pure ?_) fun h3 => T.ite (fun h => T.pure ?_) fun h4 => T.ite (fun h => T.pure ?_) fun h5 => ?_)
  all_goals simp only [beq_iff_eq, beq_eq_false_iff_ne, decide_eq_true_eq, decide_eq_false_iff_not, ne_eq] at *
  · rw [if_pos (by omega)]
  · rw [if_pos (by omega)]
  · rw [if_pos (by omega)]
  · rw [if_neg (by omega), if_pos (by omega)]
  · rw [if_neg (by omega), if_neg (by omega), if_pos (by omega)]
  · rw [if_neg (by omega), if_neg (by omega), if_neg (by omega)]
    refine T.loop0 (σ := Unit) (f := fun k _ i => steepleref16_Check.l506 k lv vars l (0, 0, ()) i) l.length (fun _ i => (∀ j, j < i → okS vars j (l.getD j zo)) ∧ (∀ k, k ≤ i → dsOk (degL [] (l.take k))) ∧ chk lv vars [] l = chk lv vars (degL [] (l.take i)) (l.drop i)) () ⟨fun j h => absurd h (by omega), fun k hk => ?_, rfl⟩ fun s i hi hI ih => ?_
    · have : k = 0 := by omega
      subst this
      exact fun j => ⟨by simp [degL], by simp [degL]⟩
    obtain ⟨I1, I2, I3⟩ := hI
    refine T.eq (steepleref16_Check.l506_eq · lv vars l _ _) (T.ite (fun hlt => ?_) (fun hge => ?_))
    · have hlt := lt_dec hlt
      have hlen : (degL [] (l.take i)).length = i := by rw [degL_length, List.length_take]; simp; omega
      rw [drop_cons l zo hlt] at I3
      simp only [chk, hlen] at I3
      have hro := hr i
      obtain ⟨o, eo⟩ : ∃ o, o = l.getD i zo := ⟨_, rfl⟩
      have eo' : l.getD i (0, 0, 0, (0, 0, ()), ()) = o := eo.symm
      rw [← eo] at hro I3
      simp only [Int.toNat_natCast, eo']
      refine T.yes (inB_nat hlt) ?_
      have bad : ∀ e, e = stepE lv vars i o → e ≠ 0 → T (fun _ : Nat => (some e : Option Int)) (fun e => e = chk lv vars [] l) := fun e h1 h2 => T.pure (by rw [if_neg (by rw [← h1]; exact h2)] at I3; rw [I3, h1])
      have tail : stepE lv vars i o = 0 → T (fun k => (steepleref16_DegreeAt.f k l (i : Int)).bind fun t => bif (decide (t > 8)) then (some 7) else (steepleref16_Check.l506 k lv vars l (0, 0, ()) (w64 ((i : Int) + 1)))) (fun e => e = chk lv vars [] l) := fun h0 => by
        have hok := stepE_ok h0
        have I1' : ∀ j, j < i + 1 → okS vars j (l.getD j zo) := fun j hj => by
          by_cases e : j = i
          · subst e; rw [← eo]; exact hok
          · exact I1 j (by omega)
        rw [if_pos h0] at I3
        refine T.bind (degAt_X (vars := vars) l i hlt (by omega) (fun j hj => I1' j (by omega)) I2) fun t ht => ?_
        have hd : t = dgr (degL [] (l.take i)) o := by
          rw [ht, degL_snoc l hlt, ← eo]
          simp [List.getD_eq_getElem?_getD, List.getElem?_append_right, hlen]
        refine T.ite (fun h => T.pure ?_) (fun h => ?_)
        · have h : t > 8 := of_decide_eq_true h
          rw [if_pos (by omega)] at I3
          exact I3.symm
        · have h : ¬ t > 8 := of_decide_eq_false h
          rw [if_neg (by omega)] at I3
          rw [inc (by omega)]
          refine ih () hlt ⟨I1', fun k hk => ?_, ?_⟩
          · by_cases e : k = i + 1
            · subst e
              rw [degL_snoc l hlt, ← eo]
              exact dsOk_snoc (I2 i (Nat.le_refl _)) (dgr_nn (I2 i (Nat.le_refl _)) _).1 (by omega)
            · exact I2 k (by omega)
          · rw [I3, degL_snoc l hlt, ← eo]
      have b1 : ∀ n : Int, o.1 = n → (decide (o.1 < 1)) = decide (n < 1) ∧ (decide (o.1 > 4)) = decide (n > 4) ∧ (decide (o.1 > 1)) = decide (n > 1) ∧ (decide (o.1 > 2)) = decide (n > 2) ∧ (o.1 == 1) = (n == 1) ∧ (o.1 == 2) = (n == 2) := fun n h => by rw [h]; exact ⟨rfl, rfl, rfl, rfl, rfl, rfl⟩
      by_cases k1 : o.1 = 1
      · obtain ⟨c1, c2, c3, c4, c5, c6⟩ := b1 1 k1
        simp only [c1, c2, c3, c4, c5, c6, show decide ((1:Int) < 1) = false from rfl, show decide ((1:Int) > 4) = false from rfl, show decide ((1:Int) > 1) = false from rfl, show decide ((1:Int) > 2) = false from rfl, show ((1:Int) == 1) = true from rfl, show ((1:Int) == 2) = false from rfl, cond_true, cond_false]
        refine T.ite (fun a => bad _ ?_ (by decide)) fun a => T.ite (fun b => bad _ ?_ (by decide)) fun b => T.bind (rof_X lv hro) fun t ht => T.ite (fun c => bad _ ?_ (by decide)) fun c => tail ?_
        all_goals simp only [bne_iff_ne, bne_eq_false_iff_eq, ne_eq] at *
        · unfold stepE; rw [if_neg (by omega), if_neg (by omega), if_neg (by omega)]
        · unfold stepE; rw [if_neg (by omega), if_neg (by omega), if_neg (by omega)]
        · unfold stepE; rw [if_pos (by omega), if_neg]; rw [← ht]; simpa using c
        · unfold stepE; rw [if_pos (by omega), if_pos]; rw [← ht]; simpa using c
      by_cases k2 : o.1 = 2
      · obtain ⟨c1, c2, c3, c4, c5, c6⟩ := b1 2 k2
        simp only [c1, c2, c3, c4, c5, c6, show decide ((2:Int) < 1) = false from rfl, show decide ((2:Int) > 4) = false from rfl, show decide ((2:Int) > 1) = true from rfl, show decide ((2:Int) > 2) = false from rfl, show ((2:Int) == 1) = false from rfl, show ((2:Int) == 2) = true from rfl, cond_true, cond_false]
        refine T.ite (fun a => bad _ ?_ (by decide)) fun a => T.ite (fun b => bad _ ?_ (by decide)) fun b => T.ite (fun c => bad _ ?_ (by decide)) fun c => T.ite (fun d => bad _ ?_ (by decide)) fun d => tail ?_
        all_goals simp only [bne_iff_ne, bne_eq_false_iff_eq, ne_eq, Bool.not_eq_true', Bool.not_eq_false', Bool.and_eq_true, Bool.and_eq_false_iff, beq_iff_eq, beq_eq_false_iff_ne, decide_eq_true_eq, decide_eq_false_iff_not] at *
        · unfold stepE; rw [if_neg (by omega), if_neg (by omega), if_neg (by omega)]
        · unfold stepE; rw [if_neg (by omega), if_neg (by omega), if_neg (by omega)]
        · unfold stepE; rw [if_neg (by omega), if_pos (by omega), if_neg (by omega)]
        · unfold stepE; rw [if_neg (by omega), if_pos (by omega), if_neg (by omega)]
        · unfold stepE; rw [if_neg (by omega), if_pos (by omega), if_pos (by omega)]
      by_cases k34 : o.1 = 3 ∨ o.1 = 4
      · have c1 : decide (o.1 < 1) = false := by simp only [decide_eq_false_iff_not]; omega
        have c2 : decide (o.1 > 4) = false := by simp only [decide_eq_false_iff_not]; omega
        have c3 : decide (o.1 > 1) = true := by simp only [decide_eq_true_eq]; omega
        have c4 : decide (o.1 > 2) = true := by simp only [decide_eq_true_eq]; omega
        have c5 : (o.1 == 1) = false := by simpa using k1
        have c6 : (o.1 == 2) = false := by simpa using k2
        simp only [c1, c2, c3, c4, c5, c6, cond_true, cond_false]
        refine T.ite (fun a => bad _ ?_ (by decide)) fun a => T.ite (fun b => bad _ ?_ (by decide)) fun b => T.ite (fun c => bad _ ?_ (by decide)) fun c => T.ite (fun d => bad _ ?_ (by decide)) fun d => T.ite (fun e => bad _ ?_ (by decide)) fun e => tail ?_
        all_goals simp only [bne_iff_ne, bne_eq_false_iff_eq, ne_eq, Bool.not_eq_true', Bool.not_eq_false', Bool.and_eq_true, Bool.and_eq_false_iff, beq_iff_eq, beq_eq_false_iff_ne, decide_eq_true_eq, decide_eq_false_iff_not] at *
        all_goals first
          | (unfold stepE; rw [if_neg (by omega), if_neg (by omega), if_neg (by omega)]; done)
          | (unfold stepE; rw [if_neg (by omega), if_neg (by omega), if_pos (by omega)])
      · by_cases k0 : o.1 < 1
        · refine T.yes (by simpa using k0) (bad _ ?_ (by decide))
          unfold stepE; rw [if_neg (by omega), if_neg (by omega), if_neg (by omega)]
        · refine T.no (by simpa using k0) (T.yes (by simp only [decide_eq_true_eq]; omega) (bad _ ?_ (by decide)))
          unfold stepE; rw [if_neg (by omega), if_neg (by omega), if_neg (by omega)]
    · have e : i = l.length := by have := nlt_dec hge; omega
      subst e
      rw [List.drop_length] at I3
      exact T.pure (by rw [I3]; rfl)
end Go.Proofs.Ytplmejnoepkdgaa.H1
namespace Go.Proofs.Ytplmejnoepkdgaa.H1
open Go Go.Proofs.Ytplmejnoepkdgaa.Rf
theorem all_getD {α : Type} (d : α) (p : α → Bool) (l : List α) : l.all p = true ↔ ∀ i, i < l.length → p (l.getD i d) = true := by
  rw [List.all_eq_true]
  constructor
  · intro h i hi
    rw [List.getD_eq_getElem?_getD, List.getElem?_eq_getElem hi]; exact h _ (List.getElem_mem hi)
  · intro h x hx
    obtain ⟨i, hi, rfl⟩ := List.getElem_of_mem hx
    have := h i hi
    rw [List.getD_eq_getElem?_getD, List.getElem?_eq_getElem hi] at this
    exact this
/-- All of a level. -/
def allB (lv : Int) (l : List E) : Bool := l.all (ofB lv)
theorem allOf_iff {lv : Int} {l : List E} : allB lv l = true ↔ allOf lv l := all_getD z (ofB lv) l
/-! Logarithms. -/
open Classical in
noncomputable def logI (n : Int) : Int := if h : ∃ m : Nat, m ≤ 16 ∧ n = ((2 ^ m : Nat) : Int) then (h.choose : Int) else -1
/-! How many places there are. -/
/-! What an expression that may be is. -/
theorem chk_facts (lv vars : Int) : ∀ (l : List O) (ds : List Int), dsOk ds → chk lv vars ds l = 0 → (∀ j, j < l.length → stepE lv vars (ds.length + j) (l.getD j zo) = 0) ∧ ∀ k, k ≤ l.length → dsOk (degL ds (l.take k))
  | [], ds, h, _ => ⟨fun j hj => absurd hj (by simp), fun k hk => by rw [List.take_nil]; exact h⟩
  | o :: l, ds, h, hc => by
    rw [chk] at hc
    split at hc
    · rename_i h0
      split at hc
      · cases hc
      · rename_i h8
        have hd := dsOk_snoc h (dgr_nn h o).1 (by omega : dgr ds o ≤ 8)
        obtain ⟨c1, c2⟩ := chk_facts lv vars l _ hd hc
        refine ⟨fun j hj => ?_, fun k hk => ?_⟩
        · cases j with
          | zero => exact h0
          | succ j =>
            have := c1 j (by simpa using hj)
            rw [List.length_append, List.length_singleton] at this
            rw [show ds.length + (j + 1) = ds.length + 1 + j by omega]
            exact this
        · cases k with
          | zero => exact h
          | succ k => exact c2 k (by simpa using hk)
    · rename_i h0; exact absurd hc h0
/-- An expression that may be. -/
structure XOk (lv vars : Int) (l : List O) : Prop where
  lv0 : 0 ≤ lv
  lv7 : lv ≤ 7
  v0 : 0 ≤ vars
  pos : 0 < l.length
  len : l.length ≤ 200
  chk : chk lv vars [] l = 0
theorem chkX_ok {lv vars : Int} {l : List O} (h : chkX lv vars l = 0) : XOk lv vars l := by
  unfold chkX at h
  split at h
  · cases h
  · split at h
    · cases h
    · split at h
      · cases h
      · exact ⟨by omega, by omega, by omega, by omega, by omega, h⟩
theorem XOk.eq {lv vars : Int} {l : List O} (h : XOk lv vars l) : chkX lv vars l = 0 := by
  have := h.lv0; have := h.lv7; have := h.v0; have := h.pos; have := h.len
  unfold chkX
  rw [if_neg (by omega), if_neg (by omega), if_neg (by omega)]; exact h.chk
theorem dsOk_nil : dsOk [] := fun j => by simp
theorem XOk.st {lv vars : Int} {l : List O} (h : XOk lv vars l) {j : Nat} (hj : j < l.length) : stepE lv vars j (l.getD j zo) = 0 := by
  have := (chk_facts lv vars l [] dsOk_nil h.chk).1 j hj
  rwa [List.length_nil, Nat.zero_add] at this
theorem XOk.ok {lv vars : Int} {l : List O} (h : XOk lv vars l) : okL vars l := fun j hj => stepE_ok (h.st hj)
theorem XOk.ds {lv vars : Int} {l : List O} (h : XOk lv vars l) {k : Nat} (hk : k ≤ l.length) : dsOk (degL [] (l.take k)) := (chk_facts lv vars l [] dsOk_nil h.chk).2 k hk
/-! Tables and an expression of them. -/
end Go.Proofs.Ytplmejnoepkdgaa.H1
namespace Go.Proofs.Ytplmejnoepkdgaa.H1
open Go Go.Proofs.Ytplmejnoepkdgaa.Rf
/-- Elements of a level. -/
def inL (lv : Int) (x : E) : Prop := rngE x ∧ ofB lv x = true
def allL (lv : Int) (l : List E) : Prop := ∀ j, inL lv (l.getD j z)
theorem inL_z {lv : Int} (h1 : 0 ≤ lv) (h2 : lv ≤ 7) : inL lv z := ⟨rngE_z, (ofB_bit h1 h2).1⟩
theorem rng_one : rngE one := ⟨⟨by decide, by decide⟩, by decide, by decide⟩
theorem inL_one {lv : Int} (h1 : 0 ≤ lv) (h2 : lv ≤ 7) : inL lv one := ⟨rng_one, (ofB_bit h1 h2).2⟩
theorem inL_iff {l : Nat} (hl : l ≤ 7) {x : E} : inL (l : Int) x ↔ rngE x ∧ nat x < 2 ^ 2 ^ l := ⟨fun h => ⟨h.1, (ofB_iff hl h.1).1 h.2⟩, fun h => ⟨h.1, (ofB_iff hl h.1).2 h.2⟩⟩
theorem inL_lv {lv : Int} {x : E} (h : inL lv x) : ∃ l : Nat, lv = (l : Int) ∧ l ≤ 7 := ofB_lv h.2
theorem inL_Av {lv : Int} {a b : E} (ha : inL lv a) (hb : inL lv b) : inL lv (Av a b) := by
  obtain ⟨l, rfl, hl⟩ := inL_lv ha
  rw [inL_iff hl] at ha hb ⊢
  exact ⟨Av_rng a b, by rw [nat_Av ha.1 hb.1]; exact Nat.xor_lt_two_pow ha.2 hb.2⟩
theorem inL_Pr {lv : Int} {a b : E} (ha : inL lv a) (hb : inL lv b) : inL lv (Pr a b) := by
  obtain ⟨l, rfl, hl⟩ := inL_lv ha
  rw [inL_iff hl] at ha hb ⊢
  exact ⟨Pr_rng ha.1 hb.1, by rw [nat_Pr, Tow.mul_to7 hl ha.2 hb.2]; exact Tow.mul_lt l _ _ ha.2 hb.2⟩
theorem Mv_P {lv : Int} {a b : E} (ha : inL lv a) (hb : inL lv b) : Mv lv a b = Pr a b := by
  obtain ⟨l, rfl, hl⟩ := inL_lv ha
  exact Mul_N hl ha.1 hb.1 ha.2 hb.2
theorem nat_one : nat one = 1 := by decide
theorem Pr_one {a : E} (h : rngE a) : Pr one a = a := by unfold Pr; rw [nat_one, Tow.one_mul (nat_lt h), mk_nat h]
theorem rAdd_X (a b : E) : T (fun k => steepleref02_Add.f k a b) (fun r => r = Av a b) := T.eq (steepleref02_Add.f_eq · a b) (T.pure rfl)
theorem mul_X {lv : Int} {a b : E} (ha : inL lv a) (hb : inL lv b) : T (fun k => tower_Mul.f k lv a b) (fun r => r = Pr a b) := (Mv_T lv a b).mono fun r hr => hr.trans (Mv_P ha hb)
/-! What an expression comes to. -/
def nxtP (v out : List E) (o : O) : E :=
  if o.1 = 1 then o.2.2.2.1 else if o.1 = 2 then v.getD o.2.1.toNat z else if o.1 = 3 then Av (out.getD o.2.1.toNat z) (out.getD o.2.2.1.toNat z) else if o.1 = 4 then Pr (out.getD o.2.1.toNat z) (out.getD o.2.2.1.toNat z) else z
def outP (v : List E) : List E → List O → List E
  | out, [] => out
  | out, o :: l => outP v (out ++ [nxtP v out o]) l
/-- An expression's value. -/
def evP (l : List O) (v : List E) : E := (outP v [] l).getD (l.length - 1) z
theorem outP_append (v : List E) : ∀ (l m : List O) (out : List E), outP v out (l ++ m) = outP v (outP v out l) m
  | [], m, out => rfl
  | o :: l, m, out => outP_append v l m _
theorem outP_length (v : List E) : ∀ (l : List O) (out : List E), (outP v out l).length = out.length + l.length
  | [], out => by simp [outP]
  | o :: l, out => by rw [outP, outP_length v l, List.length_append, List.length_cons]; simp only [List.length_cons, List.length_nil]; omega
theorem getD_snoc {α : Type} {l : List α} {a d : α} {j : Nat} : (l ++ [a]).getD j d = if j < l.length then l.getD j d else if j = l.length then a else d := by
  split
  · rename_i h; exact getD_app_lt l a d h
  · split
    · rename_i h1 h2; subst h2; simp
    · rename_i h1 h2; rw [List.getD_eq_getElem?_getD, List.getElem?_eq_none (by simp; omega)]; rfl
theorem allL_snoc {lv : Int} {l : List E} {a : E} (h : allL lv l) (ha : inL lv a) : allL lv (l ++ [a]) := fun j => by
  rw [getD_snoc]
  split
  · exact h j
  · split
    · exact ha
    · have := h (l.length)
      rwa [List.getD_eq_getElem?_getD, List.getElem?_eq_none (by omega)] at this
theorem nxt_P {lv : Int} {v out : List E} {o : O} (hv : allL lv v) (ho : allL lv out) (hs : stepE lv v.length out.length o = 0) (hc : rngE o.2.2.2.1) : nxt lv v out o = nxtP v out o ∧ inL lv (nxtP v out o) := by
  have hz : inL lv z := by
    have := hv v.length
    rwa [List.getD_eq_getElem?_getD, List.getElem?_eq_none (by omega)] at this
  unfold nxt nxtP
  by_cases k1 : o.1 = 1
  · rw [if_pos k1, if_pos k1]; exact ⟨rfl, hc, stepE_of hs k1⟩
  by_cases k2 : o.1 = 2
  · rw [if_neg k1, if_neg k1, if_pos k2, if_pos k2]; exact ⟨rfl, hv _⟩
  by_cases k3 : o.1 = 3
  · rw [if_neg k1, if_neg k1, if_neg k2, if_neg k2, if_pos k3, if_pos k3]; exact ⟨rfl, inL_Av (ho _) (ho _)⟩
  by_cases k4 : o.1 = 4
  · rw [if_neg k1, if_neg k1, if_neg k2, if_neg k2, if_neg k3, if_neg k3, if_pos k4, if_pos k4]; exact ⟨Mv_P (ho _) (ho _), inL_Pr (ho _) (ho _)⟩
  · rw [if_neg k1, if_neg k1, if_neg k2, if_neg k2, if_neg k3, if_neg k3, if_neg k4, if_neg k4]; exact ⟨rfl, hz⟩
/-- Constants of words. -/
def cR (l : List O) : Prop := ∀ i, rngE (l.getD i zo).2.2.2.1
theorem cR_cons {o : O} {l : List O} (h : cR (o :: l)) : rngE o.2.2.2.1 ∧ cR l := ⟨h 0, fun i => h (i + 1)⟩
theorem outs_P {lv : Int} {v : List E} (hv : allL lv v) : ∀ (l : List O) (out : List E), allL lv out → (∀ j, j < l.length → stepE lv v.length (out.length + j) (l.getD j zo) = 0) → cR l → outs lv v out l = outP v out l ∧ allL lv (outP v out l)
  | [], out, ho, _, _ => ⟨rfl, ho⟩
  | o :: l, out, ho, hs, hc => by
    obtain ⟨c1, c2⟩ := cR_cons hc
    have hs0 : stepE lv v.length out.length o = 0 := by have := hs 0 (by simp); simpa using this
    obtain ⟨e, i⟩ := nxt_P hv ho hs0 c1
    rw [outs, outP, e]
    refine outs_P hv l _ (allL_snoc ho i) (fun j hj => ?_) c2
    have := hs (j + 1) (by simpa using hj)
    rw [List.length_append, List.length_singleton, show out.length + 1 + j = out.length + (j + 1) by omega]
    exact this
theorem allL_of {lv : Int} {l : List E} (h0 : 0 ≤ lv) (h7 : lv ≤ 7) (hr : allR l) (ha : allB lv l = true) : allL lv l := fun j => by
  by_cases h : j < l.length
  · exact ⟨hr j, (all_getD z _ l).1 ha j h⟩
  · rw [List.getD_eq_getElem?_getD, List.getElem?_eq_none (by omega)]; exact inL_z h0 h7
theorem allL_nil {lv : Int} (h0 : 0 ≤ lv) (h7 : lv ≤ 7) : allL lv [] := fun j => inL_z h0 h7
theorem ev_ok {lv : Int} {l : List O} {v : List E} (h : XOk lv v.length l) (hc : cR l) (hv : allL lv v) : (outs lv v [] l).getD (l.length - 1) z = evP l v ∧ inL lv (evP l v) := by
  obtain ⟨e, i⟩ := outs_P hv l [] (allL_nil h.lv0 h.lv7) (fun j hj => by rw [List.length_nil, Nat.zero_add]; exact h.st hj) hc
  rw [e]; exact ⟨rfl, i _⟩
theorem Check_ev (lv vars : Int) (l : List O) : Ev (fun k => expr_Check.f k lv vars l) (chkX lv vars l) := by
  obtain ⟨r, h1, h2⟩ := Check_X lv vars l
  rw [← h1]; exact h2
theorem Eval_X (lv : Int) (l : List O) (v : List E) (hv : v.length ≤ 100000) (hc : cR l) (hr : allR v) : T (fun k => expr_Eval.f k lv l v) (fun r =>
    r = if chkX lv v.length l = 0 then (if allB lv v = true then (evP l v, 0) else (z, 5)) else (z, chkX lv v.length l)) := by
  by_cases h0 : chkX lv v.length l = 0
  · rw [if_pos h0]
    have hx := chkX_ok h0
    by_cases ha : allB lv v = true
    · rw [if_pos ha]
      have hE := Check_ev lv v.length l
      rw [h0] at hE
      have ho := allOf_iff.1 ha
      refine (T.both (Eval_T lv l v hv) (Eval_ok lv l v hv hE ho)).mono fun r hr' => ?_
      have := hr'.1.1 hE ho
      rw [(ev_ok hx hc (allL_of hx.lv0 hx.lv7 hr ha)).1] at this
      exact Prod.ext this hr'.2
    · rw [if_neg ha]
      refine T.eq (expr_Eval.f_eq · lv l v) (T.bind (Check_X lv _ l) fun e he => T.no (by subst he; simpa using h0) ?_)
      refine T.loop0 (σ := Unit) (f := fun k _ i => expr_Eval.l58 k lv l v (0, 0, ()) v (v.length : Int) i) v.length (fun _ i => ∀ j, j < i → ofB lv (v.getD j z) = true) () (fun j h => absurd h (by omega)) fun s i hi hI ih => ?_
      refine T.eq (expr_Eval.l58_eq · lv l v _ v _ _) (T.ite (fun h => ?_) (fun h => ?_))
      · have hlt := lt_dec h
        simp only [Int.toNat_natCast]
        refine T.yes (inB_nat hlt) (T.bind (of_T _ _) fun b hb => T.ite (fun hn => T.pure rfl) fun hy => ?_)
        rw [inc (by omega)]
        refine ih () hlt fun j hj => ?_
        by_cases e : j = i
        · subst e
          rw [show ofB lv (v.getD j z) = b from hb.symm]; simpa using hy
        · exact hI j (by omega)
      · have e : i = v.length := by have := nlt_dec h; omega
        subst e
        exact absurd ((all_getD z _ v).2 hI) ha
  · rw [if_neg h0]
    exact T.eq (expr_Eval.f_eq · lv l v) (T.bind (Check_X lv _ l) fun e he => T.yes (by subst he; simpa using h0) (T.pure (by rw [he]; rfl)))
theorem outP_snoc (v : List E) (l : List O) {i : Nat} (h : i < l.length) : outP v [] (l.take (i + 1)) = outP v [] (l.take i) ++ [nxtP v (outP v [] (l.take i)) (l.getD i zo)] := by
  rw [take_snoc l zo h, outP_append]; rfl
theorem rValue_X {lv : Int} {l : List O} {v : List E} (h : XOk lv v.length l) (hc : cR l) (hv : allL lv v) (hvl : v.length ≤ 100000) : T (fun k => steepleref16_Value.f k l (w64 ((l.length : Int) - 1)) v) (fun r => r = evP l v) := by
  have hp := h.pos
  have hl := h.len
  have hw : w64 ((l.length : Int) - 1) = ((l.length - 1 : Nat) : Int) := by rw [w64_in (by omega) (by omega)]; omega
  rw [hw]
  obtain ⟨n, en⟩ : ∃ n, n = l.length - 1 := ⟨_, rfl⟩
  rw [← en]
  have cL : ∀ i, i ≤ l.length → allL lv (outP v [] (l.take i)) := fun i hi => (outs_P hv (l.take i) [] (allL_nil h.lv0 h.lv7) (fun j hj => by
    rw [List.length_take] at hj
    rw [List.length_nil, Nat.zero_add]
    have e : (l.take i).getD j zo = l.getD j zo := by
      rw [List.getD_eq_getElem?_getD, List.getElem?_take, if_pos (by omega), ← List.getD_eq_getElem?_getD]
    rw [e]; exact h.st (by omega)) (fun j => by
    by_cases hj : j < i
    · have e : (l.take i).getD j zo = l.getD j zo := by
        rw [List.getD_eq_getElem?_getD, List.getElem?_take, if_pos (by omega), ← List.getD_eq_getElem?_getD]
      rw [e]; exact hc j
    · have e : (l.take i).getD j zo = zo := by
        rw [List.getD_eq_getElem?_getD, List.getElem?_take, if_neg (by omega)]; rfl
      rw [e]; exact rngE_z)).2
  refine T.eq (steepleref16_Value.f_eq · l _ v) (T.loop0 (f := fun k s j => steepleref16_Value.l58 k l (n : Int) v (0, 0, ()) s j) (n + 1) (fun s j => s = outP v [] (l.take j)) [] rfl fun s i hi hI ih => ?_)
  refine T.eq (steepleref16_Value.l58_eq · l _ v _ _ _) (T.ite (fun hlt => ?_) (fun hge => ?_))
  · have hlt : i ≤ n := by have := of_decide_eq_true hlt; omega
    have hil : i < l.length := by omega
    have hlen : s.length = i := by rw [hI, outP_length, List.length_take]; simp; omega
    have hsL : allL lv s := by rw [hI]; exact cL i (by omega)
    obtain ⟨o, eo⟩ : ∃ o, o = l.getD i zo := ⟨_, rfl⟩
    have eo' : l.getD i (0, 0, 0, (0, 0, ()), ()) = o := eo.symm
    obtain ⟨u1, u2, u3⟩ := h.ok i hil
    rw [← eo] at u1 u2 u3
    rw [← hlen] at u3
    have hroom : ∀ t : E, room (s.length + ([t] : List E).length) 16 = true := fun t => room_ok (by simp only [List.length_singleton]; omega)
    have hin : inB (i : Int) l.length = true := inB_nat hil
    have go : ∀ t, t = nxtP v s o → T (fun k => steepleref16_Value.l58 k l (n : Int) v (0, 0, ()) (s ++ [t]) (w64 ((i : Int) + 1))) (fun r => r = evP l v) := fun t ht => by
      rw [inc (by omega)]
      refine ih _ (by omega) ?_
      rw [outP_snoc v l hil, ← hI, ht, eo]
    have last : ∀ d1, (o.1 ≠ 4 → d1 = nxtP v s o) → T (fun k => steepleref16_Value.l7463 k l (n : Int) v (0, 0, ()) s (i : Int) d1) (fun r => r = evP l v) := fun d1 h1 => by
      refine T.eq (steepleref16_Value.l7463_eq · l _ v _ _ _ _) ?_
      simp only [Int.toNat_natCast, eo']
      refine T.yes hin (T.ite (fun h4 => T.yes hin ?_) (fun h4 => T.yes (hroom _) (go _ ?_)))
      · have h4 : o.1 = 4 := by simpa using h4
        obtain ⟨v1, v2, v3, v4⟩ := u3 (.inr h4)
        refine T.yes (inB_int v1 v2) (T.yes hin (T.yes (inB_int v3 v4) (T.bind (prod_T (hsL _).1 (hsL _).1) fun t ht => T.yes (hroom _) (go _ ?_))))
        unfold nxtP
        rw [if_neg (by omega), if_neg (by omega), if_neg (by omega), if_pos h4, ht]; rfl
      · exact h1 (by simpa using h4)
    have mid : ∀ d0, (o.1 ≠ 3 → o.1 ≠ 4 → d0 = nxtP v s o) → T (fun k => steepleref16_Value.l3731 k l (n : Int) v (0, 0, ()) s (i : Int) d0) (fun r => r = evP l v) := fun d0 h0 => by
      refine T.eq (steepleref16_Value.l3731_eq · l _ v _ _ _ _) ?_
      simp only [Int.toNat_natCast, eo']
      refine T.yes hin (T.ite (fun h3 => T.yes hin ?_) (fun h3 => last _ (h0 (by simpa using h3))))
      have h3 : o.1 = 3 := by simpa using h3
      obtain ⟨v1, v2, v3, v4⟩ := u3 (.inl h3)
      refine T.yes (inB_int v1 v2) (T.yes hin (T.yes (inB_int v3 v4) (T.bind (rAdd_X _ _) fun t ht => last _ fun _ => ?_)))
      unfold nxtP
      rw [if_neg (by omega), if_neg (by omega), if_pos h3, ht]; rfl
    simp only [Int.toNat_natCast, eo']
    refine T.yes hin (T.yes hin (T.ite (fun h2 => ?_) (fun h2 => mid _ fun a b => ?_)))
    · have h2 : o.1 = 2 := by simpa using h2
      refine T.yes hin (T.yes (inB_int (u2 h2).1 (u2 h2).2) (mid _ fun _ _ => ?_))
      unfold nxtP; rw [if_neg (by omega), if_pos h2]; rfl
    · have h2 : ¬ o.1 = 2 := by simpa using h2
      unfold nxtP; rw [if_pos (by omega)]
  · have e : i = n + 1 := by have := of_decide_eq_false hge; omega
    subst e
    have hlen : s.length = n + 1 := by rw [hI, outP_length, List.length_take]; simp; omega
    refine T.yes (inB_nat (by omega)) (T.pure ?_)
    rw [hI, Int.toNat_natCast, show n + 1 = l.length by omega, List.take_length, en]; rfl
/-! Sums over corners. -/
/-! The first error. -/
def errs {α : Type} (e : α → Int) : List α → Int
  | [] => 0
  | a :: r => if e a = 0 then errs e r else e a
theorem errs_ok {α : Type} {e : α → Int} {d : α} : ∀ {l : List α}, errs e l = 0 → ∀ i, i < l.length → e (l.getD i d) = 0
  | [], _, i, hi => absurd hi (by simp)
  | a :: r, h, i, hi => by
    rw [errs] at h
    split at h
    · rename_i h0
      cases i with
      | zero => exact h0
      | succ i => exact errs_ok (l := r) h i (by simpa using hi)
    · rename_i h0; exact absurd h h0
theorem errs_drop {α : Type} {e : α → Int} {d : α} {l : List α} : ∀ i, i ≤ l.length → (∀ j, j < i → e (l.getD j d) = 0) → errs e l = errs e (l.drop i)
  | 0, _, _ => rfl
  | i + 1, hi, h => by
    rw [errs_drop i (by omega) fun j hj => h j (by omega), drop_cons l d (by omega), errs, if_pos (h i (by omega))]
theorem first_X {α β : Type} (l : List α) (d : α) (e : α → Int) (hl : l.length ≤ 100000000) {f : Nat → Int → Option β} {g : Nat → α → Option Int} {ret : Int → β} {fin : Nat → Option β} {p : β → Prop}
    (he : ∀ k (i : Int), f (k + 1) i = (bif (decide (i < (l.length : Int))) then (bif (inB i l.length) then ((g k (l.getD i.toNat d)).bind fun t => (bif (t != 0) then (some (ret t)) else (f k (w64 (i + 1))))) else none) else fin k))
    (hg : ∀ i, i < l.length → T (fun k => g k (l.getD i d)) (fun r => r = e (l.getD i d))) (hret : errs e l ≠ 0 → p (ret (errs e l))) (hfin : errs e l = 0 → T fin p) : T (fun k => f k 0) p := by
  refine T.loop0 (σ := Unit) (f := fun k _ i => f k i) l.length (fun _ i => ∀ j, j < i → e (l.getD j d) = 0) () (fun j h => absurd h (by omega)) fun s i hi hI ih => ?_
  refine T.eq (he · _) (T.ite (fun h => ?_) (fun h => ?_))
  · have hlt := lt_dec h
    simp only [Int.toNat_natCast]
    refine T.yes (inB_nat hlt) (T.bind (hg i hlt) fun b hb => T.ite (fun h => T.pure ?_) (fun h => ?_))
    · subst hb
      have h : ¬ e (l.getD i d) = 0 := by simpa using h
      have e1 := errs_drop (d := d) (e := e) i (by omega) hI
      rw [drop_cons l d hlt, errs, if_neg h] at e1
      rw [← e1]; exact hret (by rw [e1]; exact h)
    · subst hb
      rw [inc (by omega)]
      refine ih () hlt fun j hj => ?_
      by_cases e : j = i
      · subst e; simpa using h
      · exact hI j (by omega)
  · have e1 : i = l.length := by have := nlt_dec h; omega
    subst e1
    refine hfin ?_
    rw [errs_drop (d := d) (e := e) _ (Nat.le_refl _) hI, List.drop_length]; rfl
end Go.Proofs.Ytplmejnoepkdgaa.H1
namespace Go.Proofs.Ytplmejnoepkdgaa.H1
open Go Go.Proofs.Ytplmejnoepkdgaa.Rf
/-! Conditions, mixed. -/
def manyV (c : List (List O)) : Int := if c.length = 0 then 1 else if c.length > 40 then 2 else 0
theorem many_X (c : List (List O)) : T (fun k => zero_many.f k c) (fun e => e = manyV c) := by
  unfold manyV
  refine T.eq (zero_many.f_eq · c) (T.ite (fun h => T.pure ?_) fun h0 => T.ite (fun h => T.pure ?_) fun h1 => T.pure ?_)
  all_goals simp only [beq_iff_eq, beq_eq_false_iff_ne, ne_eq, decide_eq_true_eq, decide_eq_false_iff_not] at *
  · rw [if_pos (by omega)]
  · rw [if_neg (by omega), if_pos (by omega)]
  · rw [if_neg (by omega), if_neg (by omega)]
theorem rmany_X (c : List (List O)) : T (fun k => steepleref21_many.f k c) (fun e => e = manyV c) := by
  unfold manyV
  refine T.eq (steepleref21_many.f_eq · c) (T.ite (fun h => T.pure ?_) fun h0 => T.ite (fun h => T.pure ?_) fun h1 => T.pure ?_)
  all_goals simp only [beq_iff_eq, beq_eq_false_iff_ne, ne_eq, decide_eq_true_eq, decide_eq_false_iff_not] at *
  · rw [if_pos (by omega)]
  · rw [if_neg (by omega), if_pos (by omega)]
  · rw [if_neg (by omega), if_neg (by omega)]
theorem manyV_ok {c : List (List O)} (h : manyV c = 0) : 0 < c.length ∧ c.length ≤ 40 := by
  unfold manyV at h
  split at h
  · cases h
  · split at h
    · cases h
    · omega
/-- One condition more. -/
def mstep (a : E) (first : Bool) (s : List O × Int × E) (l : List O) : List O × Int × E :=
  let out := s.1 ++ l.map (shiftO (s.1.length : Int))
  let last : Int := (out.length : Int) - 1
  bif first then (out, last, s.2.2) else (out ++ [(1, 0, 0, Pr s.2.2 a, ()), (4, last + 1, last, z, ()), (3, s.2.1, last + 2, z, ())], last + 3, Pr s.2.2 a)
def mSt (a : E) (c : List (List O)) : Nat → List O × Int × E
  | 0 => ([], 0, one)
  | i + 1 => mstep a (i == 0) (mSt a c i) (c.getD i [])
/-- The mixed expression. -/
def stepsP (vars : Int) (c : List (List O)) (a : E) : List O := (mSt a c c.length).1 ++ [(2, vars, 0, z, ()), (4, ((mSt a c c.length).1.length : Int), (mSt a c c.length).2.1, z, ())]
theorem mSt_len {a : E} {c : List (List O)} (hc : fewC c) : ∀ i, i ≤ c.length → (mSt a c i).1.length ≤ 15 * i
  | 0, _ => by simp [mSt]
  | i + 1, h => by
    have := mSt_len (a := a) hc i (by omega)
    have := hc.2 i
    rw [mSt, mstep]
    cases (i == 0)
    · simp only [cond_false, List.length_append, List.length_map, List.length_cons, List.length_nil]; omega
    · simp only [cond_true, List.length_append, List.length_map]; omega
theorem mSt_L {lv : Int} {a : E} {c : List (List O)} (ha : inL lv a) : ∀ i, inL lv (mSt a c i).2.2
  | 0 => by obtain ⟨l, rfl, hl⟩ := inL_lv ha; exact inL_one (by omega) (by omega)
  | i + 1 => by
    rw [mSt, mstep]
    cases (i == 0)
    · exact inL_Pr (mSt_L ha i) ha
    · exact mSt_L ha i
theorem mix_X {lv : Int} {vars : Int} {c : List (List O)} {a : E} (hc : fewC c) (ha : inL lv a) : T (fun k => zero_mix.f k lv vars c a) (fun out => out = stepsP vars c a) := by
  refine T.eq (zero_mix.f_eq · lv vars c a) (T.bind (p := fun r => r = one) (T.eq tower_One.f_eq (T.pure rfl)) fun r1 h1 => ?_)
  subst h1
  refine T.loop0 (σ := List O × Int × E) (f := fun k s i => zero_mix.l442 k lv vars a s.1 s.2.1 s.2.2 c (c.length : Int) i) c.length (fun s i => s = mSt a c i) ([], 0, one) rfl fun s i hi hI ih => ?_
  have hlen := mSt_len (a := a) hc i hi
  have hby := mSt_L (c := c) ha i
  rw [← hI] at hlen hby
  obtain ⟨out, sum, by_⟩ := s
  dsimp only at hlen hby ⊢
  have hc50 := hc.1
  refine T.eq (zero_mix.l442_eq · lv vars a out sum by_ c _ _) (T.ite (fun h => ?_) (fun h => ?_))
  · have hlt := lt_dec h
    have hci := hc.2 i
    simp only [Int.toNat_natCast]
    refine T.yes (inB_nat hlt) (T.bind (behind_T (out.length : Int) _ (by omega)) fun t ht => ?_)
    change t = (c.getD i []).map (shiftO (out.length : Int)) at ht
    have htl : t.length = (c.getD i []).length := by rw [ht, List.length_map]
    have happ : (out ++ t).length = out.length + t.length := List.length_append
    have hstep : mSt a c (i + 1) = mstep a (i == 0) (out, sum, by_) (c.getD i []) := by rw [mSt, ← hI]
    refine T.yes (room_ok (by omega)) ?_
    rw [inc (by omega)]
    have hw : w64 (((out ++ t).length : Int) - 1) = ((out ++ t).length : Int) - 1 := w64_in (by omega) (by omega)
    rw [hw]
    refine T.ite (fun hz0 => ?_) (fun hz0 => ?_)
    · have hi0 : i = 0 := by simpa using hz0
      subst hi0
      refine ih (out ++ t, _, by_) hlt ?_
      rw [hstep, mstep, ht]; rfl
    · have hi0 : i ≠ 0 := by simpa using hz0
      refine T.bind (mul_X hby ha) fun m hm => ?_
      subst hm
      rw [w64_in (n := ((out ++ t).length : Int) - 1 + 1) (by omega) (by omega), w64_in (n := ((out ++ t).length : Int) - 1 + 2) (by omega) (by omega), w64_in (n := ((out ++ t).length : Int) - 1 + 3) (by omega) (by omega)]
      refine T.yes (room_ok (by simp only [List.length_cons, List.length_nil]; omega)) ?_
      refine ih (_, _, _) hlt ?_
      rw [hstep, mstep, ht, show (i == 0) = false by simpa using hi0]; rfl
  · have e : i = c.length := by have := nlt_dec h; omega
    subst e
    refine T.yes (room_ok (by simp only [List.length_cons, List.length_nil]; omega)) (T.pure ?_)
    unfold stepsP
    rw [← hI]; rfl
/-- Conditions whose steps have kinds. -/
def kindC (c : List (List O)) : Prop := ∀ j, j < c.length → ∀ i, i < (c.getD j []).length → ((c.getD j []).getD i zo).1 ≤ 4
theorem rSteps_X {lv vars : Int} {c : List (List O)} {a : E} (hc : fewC c) (ha : inL lv a) (hk : kindC c) : T (fun k => steepleref21_Steps.f k vars c a) (fun out => out = stepsP vars c a) := by
  refine T.eq (steepleref21_Steps.f_eq · vars c a) ?_
  refine T.loop0 (σ := List O × Int × E) (f := fun k s i => steepleref21_Steps.l250 k vars c a s.1 s.2.1 s.2.2 i) c.length (fun s i => s = mSt a c i) ([], 0, one) rfl fun s i hi hI ih => ?_
  have hlen := mSt_len (a := a) hc i hi
  have hby := mSt_L (c := c) ha i
  rw [← hI] at hlen hby
  obtain ⟨out, sum, by_⟩ := s
  dsimp only at hlen hby ⊢
  have hc50 := hc.1
  refine T.eq (steepleref21_Steps.l250_eq · vars c a out sum by_ _) (T.ite (fun h => ?_) (fun h => ?_))
  · have hlt := lt_dec h
    have hci := hc.2 i
    have hstep : mSt a c (i + 1) = mstep a (i == 0) (out, sum, by_) (c.getD i []) := by rw [mSt, ← hI]
    obtain ⟨l, el⟩ : ∃ l, l = c.getD i [] := ⟨_, rfl⟩
    have el' : c.getD i [] = l := el.symm
    have hkl := hk i hlt
    rw [← el] at hci hstep hkl
    refine T.loop0 (f := fun k s m => steepleref21_Steps.l64074 k vars c a s sum by_ (i : Int) (out.length : Int) m) l.length (fun s m => s = out ++ (l.take m).map (shiftO (out.length : Int))) out (by simp) fun s m hm hs ih2 => ?_
    have hsl : s.length = out.length + m := by rw [hs, List.length_append, List.length_map, List.length_take]; omega
    refine T.eq (steepleref21_Steps.l64074_eq · vars c a s sum by_ _ _ _) ?_
    simp only [Int.toNat_natCast, el']
    refine T.yes (inB_nat hlt) (T.ite (fun h => ?_) (fun h => ?_))
    · have hm2 := lt_dec h
      have hroom : ∀ t : O, room (s.length + ([t] : List O).length) 40 = true := fun t => room_ok (by simp only [List.length_singleton]; omega)
      obtain ⟨o, eo⟩ : ∃ o, o = l.getD m zo := ⟨_, rfl⟩
      have eo' : l.getD m (0, 0, 0, (0, 0, ()), ()) = o := eo.symm
      have hko := hkl m hm2
      rw [← eo] at hko
      simp only [eo']
      have go : ∀ t, t = shiftO (out.length : Int) o → T (fun k => steepleref21_Steps.l64074 k vars c a (s ++ [t]) sum by_ (i : Int) (out.length : Int) (w64 ((m : Int) + 1))) (fun out => out = stepsP vars c a) := fun t ht => by
        rw [inc (by omega)]
        refine ih2 _ hm2 ?_
        rw [hs, take_snoc l zo hm2, List.map_append, ← eo, ht, List.append_assoc]; rfl
      refine T.yes (inB_nat hlt) (T.yes (inB_nat hm2) (T.ite (fun h3 => T.yes (hroom _) (go _ ?_)) (fun h3 => T.yes (hroom _) (go _ ?_))))
      · have h3 : o.1 > 2 := of_decide_eq_true h3
        rw [shiftO, if_pos (by omega)]
      · have h3 : ¬ o.1 > 2 := of_decide_eq_false h3
        rw [shiftO, if_neg (by omega)]
    · have e : m = l.length := by have := nlt_dec h; omega
      subst e
      rw [List.take_length] at hs
      have hw : w64 ((s.length : Int) - 1) = (s.length : Int) - 1 := w64_in (by omega) (by omega)
      rw [hw, inc (by omega)]
      refine T.ite (fun hz0 => ?_) (fun hz0 => ?_)
      · have hi0 : i = 0 := by simpa using hz0
        subst hi0
        refine ih (s, _, by_) hlt ?_
        rw [hstep, mstep, hs]; rfl
      · have hi0 : i ≠ 0 := by simpa using hz0
        refine T.bind (prod_T hby.1 ha.1) fun p hp => ?_
        subst hp
        rw [w64_in (n := (s.length : Int) - 1 + 1) (by omega) (by omega), w64_in (n := (s.length : Int) - 1 + 2) (by omega) (by omega), w64_in (n := (s.length : Int) - 1 + 3) (by omega) (by omega)]
        refine T.yes (room_ok (by simp only [List.length_cons, List.length_nil]; omega)) (T.yes (room_ok (by simp only [List.length_append, List.length_cons, List.length_nil]; omega)) (T.yes (room_ok (by simp only [List.length_append, List.length_cons, List.length_nil]; omega)) ?_))
        refine ih (_, _, _) hlt ?_
        rw [hstep, mstep, hs, show (i == 0) = false by simpa using hi0]
        simp only [cond_false, List.append_assoc]; rfl
  · have e : i = c.length := by have := nlt_dec h; omega
    subst e
    refine T.yes (room_ok (by simp only [List.length_cons, List.length_nil]; omega)) (T.yes (room_ok (by simp only [List.length_append, List.length_cons, List.length_nil]; omega)) (T.pure ?_))
    unfold stepsP
    rw [← hI, List.append_assoc]; rfl
/-- What conditions come to, mixed. -/
def pw (a : E) : Nat → E
  | 0 => one
  | j + 1 => Pr (pw a j) a
def mixedP (c : List (List O)) (v : List E) (a : E) : E := fold (fun j => Pr (pw a j) (evP (c.getD j []) v)) c.length
theorem pw_L {lv : Int} {a : E} (ha : inL lv a) : ∀ j, inL lv (pw a j)
  | 0 => by obtain ⟨l, rfl, hl⟩ := inL_lv ha; exact inL_one (by omega) (by omega)
  | j + 1 => inL_Pr (pw_L ha j) ha
theorem mSt_pw {lv : Int} {a : E} {c : List (List O)} (ha : inL lv a) : ∀ i, (mSt a c (i + 1)).2.2 = pw a i
  | 0 => rfl
  | i + 1 => by
    have := mSt_pw (c := c) ha i
    rw [mSt, mstep, this]; rfl
theorem outP_shift (v : List E) (w : E) (out : List E) (ho : out.length ≤ 10000) : ∀ (c : List O) (pre : List E), pre.length + c.length ≤ 1000 → (∀ j, j < c.length → okS v.length (pre.length + j) (c.getD j zo)) →
    outP (v ++ [w]) (out ++ pre) (c.map (shiftO out.length)) = out ++ outP v pre c
  | [], pre, hl, hc => rfl
  | o :: c, pre, hl, hc => by
    have h0 : okS v.length pre.length o := by have := hc 0 (by simp); simpa using this
    obtain ⟨u1, u2, u3⟩ := h0
    simp only [List.length_cons] at hl
    have hn : nxtP (v ++ [w]) (out ++ pre) (shiftO out.length o) = nxtP v pre o := by
      by_cases k : o.1 = 3 ∨ o.1 = 4
      · obtain ⟨a1, a2, a3, a4⟩ := u3 k
        have e1 : w64 (o.2.1 + (out.length : Int)) = ((out.length + o.2.1.toNat : Nat) : Int) := by rw [w64_in (by omega) (by omega)]; omega
        have e2 : w64 (o.2.2.1 + (out.length : Int)) = ((out.length + o.2.2.1.toNat : Nat) : Int) := by rw [w64_in (by omega) (by omega)]; omega
        rw [shiftO, if_pos k, e1, e2]
        have n1 : ¬ o.1 = 1 := by omega
        have n2 : ¬ o.1 = 2 := by omega
        simp only [nxtP, if_neg n1, if_neg n2, Int.toNat_natCast, getD_app_r]
      · rw [shiftO, if_neg k]
        have k' : ¬ o.1 = 3 ∧ ¬ o.1 = 4 := by omega
        rcases (show o.1 = 1 ∨ o.1 = 2 by omega) with k1 | k2
        · simp only [nxtP, if_pos k1]
        · have n1 : ¬ o.1 = 1 := by omega
          simp only [nxtP, if_neg n1, if_pos k2]
          exact getD_app_l _ _ _ (by have := u2 k2; omega)
    simp only [List.map_cons, outP]
    rw [hn, List.append_assoc]
    exact outP_shift v w out ho c (pre ++ [nxtP v pre o]) (by simp only [List.length_append, List.length_cons, List.length_nil]; omega) (fun j hj => by
      have := hc (j + 1) (by simpa using hj)
      have e : (pre ++ [nxtP v pre o]).length + j = pre.length + (j + 1) := by simp only [List.length_append, List.length_cons, List.length_nil]; omega
      rw [e]; simpa using this)
/-- Conditions that may be. -/
structure COk (lv : Int) (vars : Nat) (c : List (List O)) : Prop where
  pos : 0 < c.length
  x : ∀ j, j < c.length → XOk lv vars (c.getD j [])
  r : ∀ j, j < c.length → cR (c.getD j [])
theorem fold_rng {f : Nat → E} : ∀ n, rngE (fold f n)
  | 0 => rngE_z
  | n + 1 => Av_rng _ _
theorem mSt_val {lv : Int} {a w : E} {v : List E} {c : List (List O)} (hc : fewC c) (hk : COk lv v.length c) (ha : inL lv a) (hv : allL lv v) : ∀ i, i < c.length →
    0 ≤ (mSt a c (i + 1)).2.1 ∧ (mSt a c (i + 1)).2.1 < (mSt a c (i + 1)).1.length ∧ (outP (v ++ [w]) [] (mSt a c (i + 1)).1).getD (mSt a c (i + 1)).2.1.toNat z = fold (fun j => Pr (pw a j) (evP (c.getD j []) v)) (i + 1) := by
  have val : ∀ i, i < c.length → outP (v ++ [w]) [] ((mSt a c i).1 ++ (c.getD i []).map (shiftO ((mSt a c i).1.length : Int))) = outP (v ++ [w]) [] (mSt a c i).1 ++ outP v [] (c.getD i []) := fun i hi => by
    have hlen := mSt_len (a := a) hc i (by omega)
    have h50 := hc.1
    have ol := outP_length (v ++ [w]) (mSt a c i).1 []
    rw [List.length_nil, Nat.zero_add] at ol
    have := outP_shift v w (outP (v ++ [w]) [] (mSt a c i).1) (by omega) (c.getD i []) [] (by have := hc.2 i; simp only [List.length_nil]; omega) (fun j hj => by rw [List.length_nil, Nat.zero_add]; exact (hk.x i hi).ok j hj)
    rw [List.append_nil, ol] at this
    rw [outP_append]; exact this
  intro i
  induction i with
  | zero =>
    intro hi
    have e := val 0 hi
    have hx := hk.x 0 hi
    have hp := hx.pos
    have hev := (ev_ok hx (hk.r 0 hi) hv).2
    obtain ⟨l, el⟩ : ∃ l, l = c.getD 0 [] := ⟨_, rfl⟩
    rw [← el] at hp e hev
    have hm : mSt a c 1 = (l.map (shiftO 0), (l.length : Int) - 1, one) := by
      show mstep a true ([], 0, one) (c.getD 0 []) = _
      rw [mstep, ← el]; simp
    have e : outP (v ++ [w]) [] (l.map (shiftO 0)) = outP v [] l := by simpa [mSt, outP] using e
    rw [hm]
    dsimp only
    rw [e]
    refine ⟨by omega, by rw [List.length_map]; omega, ?_⟩
    rw [fold, fold, ← el, pw, Pr_one hev.1, Av_zl hev.1, show ((l.length : Int) - 1).toNat = l.length - 1 by omega]; rfl
  | succ i ih =>
    intro hi
    obtain ⟨i1, i2, i3⟩ := ih (by omega)
    have e := val (i + 1) hi
    have hx := hk.x (i + 1) hi
    have hp := hx.pos
    have hpw := mSt_pw (c := c) ha i
    rw [show i + 1 + 1 = (i + 1) + 1 from rfl, mSt]
    obtain ⟨s, es⟩ : ∃ s, s = mSt a c (i + 1) := ⟨_, rfl⟩
    obtain ⟨l, el⟩ : ∃ l, l = c.getD (i + 1) [] := ⟨_, rfl⟩
    rw [← es] at i1 i2 i3 e hpw ⊢
    rw [← el] at hp e ⊢
    rw [mstep, show (i + 1 == 0) = false from rfl]
    simp only [cond_false]
    obtain ⟨X, eX⟩ : ∃ X, X = outP (v ++ [w]) [] s.1 := ⟨_, rfl⟩
    obtain ⟨Y, eY⟩ : ∃ Y, Y = outP v [] l := ⟨_, rfl⟩
    have hX : X.length = s.1.length := by rw [eX, outP_length]; simp
    have hY : Y.length = l.length := by rw [eY, outP_length]; simp
    rw [← eX] at i3 e
    rw [← eY] at e
    rw [outP_append, e]
    have hn : ((s.1 ++ l.map (shiftO (s.1.length : Int))).length : Int) = ((X.length + Y.length : Nat) : Int) := by rw [List.length_append, List.length_map, hX, hY]
    have hn2 : (s.1 ++ l.map (shiftO (s.1.length : Int))).length = X.length + Y.length := by rw [List.length_append, List.length_map, hX, hY]
    rw [hn]
    refine ⟨by omega, by rw [List.length_append, hn2]; simp only [List.length_cons, List.length_nil]; omega, ?_⟩
    have t1 : (((X.length + Y.length : Nat) : Int) - 1 + 1).toNat = (X ++ Y).length + 0 := by rw [List.length_append]; omega
    have t2 : (((X.length + Y.length : Nat) : Int) - 1).toNat = X.length + (Y.length - 1) := by omega
    have t3 : (((X.length + Y.length : Nat) : Int) - 1 + 2).toNat = (X ++ Y).length + 1 := by rw [List.length_append]; omega
    have t4 : (((X.length + Y.length : Nat) : Int) - 1 + 3).toNat = (X ++ Y).length + 2 := by rw [List.length_append]; omega
    obtain ⟨m, em⟩ : ∃ m, m = Pr s.2.2 a := ⟨_, rfl⟩
    rw [← em]
    simp only [outP, nxtP, if_true, show ¬ (4 : Int) = 1 by decide, show ¬ (4 : Int) = 2 by decide, show ¬ (4 : Int) = 3 by decide, show ¬ (3 : Int) = 1 by decide, show ¬ (3 : Int) = 2 by decide, if_false, t1, t2, t3, t4]
    have r1 : (X ++ Y ++ [m]).getD ((X ++ Y).length + 0) z = m := getD_app_r (X ++ Y) [m] z 0
    have r2 : (X ++ Y ++ [m]).getD (X.length + (Y.length - 1)) z = evP l v := by
      rw [List.append_assoc, getD_app_r, getD_app_l _ _ _ (by omega), hY, eY]; rfl
    rw [r1, r2]
    have r3 : (X ++ Y ++ [m] ++ [Pr m (evP l v)]).getD s.2.1.toNat z = fold (fun j => Pr (pw a j) (evP (c.getD j []) v)) (i + 1) := by
      rw [List.append_assoc, List.append_assoc, getD_app_l _ _ _ (by omega)]; exact i3
    have r4 : (X ++ Y ++ [m] ++ [Pr m (evP l v)]).getD ((X ++ Y).length + 1) z = Pr m (evP l v) := by
      rw [List.append_assoc]; exact getD_app_r (X ++ Y) [m, Pr m (evP l v)] z 1
    rw [r3, r4]
    have r5 : ∀ q, (X ++ Y ++ [m] ++ [Pr m (evP l v)] ++ [q]).getD ((X ++ Y).length + 2) z = q := fun q => by
      rw [List.append_assoc, List.append_assoc]; exact getD_app_r (X ++ Y) [m, Pr m (evP l v), q] z 2
    rw [r5, em, hpw, el]; rfl
theorem steps_val {lv : Int} {a w : E} {v : List E} {c : List (List O)} (hc : fewC c) (hk : COk lv v.length c) (ha : inL lv a) (hv : allL lv v) : evP (stepsP v.length c a) (v ++ [w]) = Pr w (mixedP c v a) := by
  have hp := hk.pos
  obtain ⟨n, en⟩ : ∃ n, c.length = n + 1 := ⟨c.length - 1, by omega⟩
  obtain ⟨i1, i2, i3⟩ := mSt_val (w := w) hc hk ha hv n (by omega)
  unfold stepsP mixedP evP
  rw [en]
  obtain ⟨s, es⟩ : ∃ s, s = mSt a c (n + 1) := ⟨_, rfl⟩
  rw [← es] at i1 i2 i3 ⊢
  rw [outP_append]
  obtain ⟨X, eX⟩ : ∃ X, X = outP (v ++ [w]) [] s.1 := ⟨_, rfl⟩
  have hX : X.length = s.1.length := by rw [eX, outP_length]; simp
  rw [← eX] at i3 ⊢
  have t1 : ((s.1.length : Int)).toNat = X.length + 0 := by omega
  simp only [outP, nxtP, if_true, show ¬ (4 : Int) = 1 by decide, show ¬ (4 : Int) = 2 by decide, show ¬ (4 : Int) = 3 by decide, show ¬ (2 : Int) = 1 by decide, if_false, t1, Int.toNat_natCast]
  have r0 : (v ++ [w]).getD v.length z = w := getD_app_r v [w] z 0
  rw [r0]
  have r1 : (X ++ [w]).getD (X.length + 0) z = w := getD_app_r X [w] z 0
  have r2 : (X ++ [w]).getD s.2.1.toNat z = X.getD s.2.1.toNat z := getD_app_l _ _ _ (by omega)
  rw [r1, r2, i3]
  have : (s.1 ++ [((2 : Int), (v.length : Int), (0 : Int), z, ()), (4, (s.1.length : Int), s.2.1, z, ())]).length - 1 = X.length + 1 := by
    simp only [List.length_append, List.length_cons, List.length_nil]; omega
  rw [this, List.append_assoc]
  exact getD_app_r X [w, _] z 1
theorem rMixed_X {lv : Int} {a : E} {v : List E} {c : List (List O)} (hc : fewC c) (hk : COk lv v.length c) (ha : inL lv a) (hv : allL lv v) (hvl : v.length ≤ 100000) : T (fun k => steepleref21_Mixed.f k c v a) (fun r => r = mixedP c v a) := by
  have h50 := hc.1
  refine T.eq (steepleref21_Mixed.f_eq · c v a) (T.loop0 (σ := E × E) (f := fun k s i => steepleref21_Mixed.l122 k c v a (0, 0, ()) s.1 s.2 i) c.length (fun s i => s = (fold (fun j => Pr (pw a j) (evP (c.getD j []) v)) i, pw a i)) (z, one) rfl fun s i hi hI ih => ?_)
  subst hI
  refine T.eq (steepleref21_Mixed.l122_eq · c v a _ _ _ _) (T.ite (fun h => ?_) (fun h => ?_))
  · have hlt := lt_dec h
    simp only [Int.toNat_natCast]
    have hx := hk.x i hlt
    have hev := (ev_ok hx (hk.r i hlt) hv).2
    have hp := pw_L ha i
    refine T.yes (inB_nat hlt) (T.yes (inB_nat hlt) (T.bind (rValue_X hx (hk.r i hlt) hv hvl) fun t1 e1 => T.bind (p := fun r => r = Pr (pw a i) (evP (c.getD i []) v)) (by subst e1; exact prod_T hp.1 hev.1) fun t2 e2 => T.bind (rAdd_X _ _) fun t3 e3 => T.bind (prod_T hp.1 ha.1) fun t4 e4 => ?_))
    subst e3 e4 e2
    rw [inc (by omega)]
    exact ih (_, _) hlt rfl
  · have e : i = c.length := by have := nlt_dec h; omega
    subst e
    exact T.pure rfl
end Go.Proofs.Ytplmejnoepkdgaa.H1
