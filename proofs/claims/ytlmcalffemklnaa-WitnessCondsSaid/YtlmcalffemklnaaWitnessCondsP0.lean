/- A walk by reckoning: what a Go function comes to, reckoned out of its operations, and why that is so. -/
import Derived.Test.YtlmcalffemklnaaWitnessCondsH
import Derived.Test.YtlmcalffemklnaaRf5
import Derived.IntWalk
set_option linter.unusedVariables false
set_option linter.unusedSimpArgs false
-- Pa
namespace Go.Proofs.Ytlmcalffemklnaa.H1
open Go Go.Proofs.Ytlmcalffemklnaa.Rf
/-- What a function comes to, from some fuel on. -/
def Ev {α : Type} (g : Nat → Option α) (r : α) : Prop := ∃ K, ∀ k, K ≤ k → g k = some r
def T {α : Type} (g : Nat → Option α) (p : α → Prop) : Prop := ∃ r, p r ∧ Ev g r
theorem Ev.uniq {α : Type} {g : Nat → Option α} {a b : α} (h : Ev g a) (k : Ev g b) : a = b := by
  obtain ⟨K, hK⟩ := h; obtain ⟨L, hL⟩ := k
  have := (hK (K + L) (Nat.le_add_right _ _)).symm.trans (hL (K + L) (Nat.le_add_left _ _))
  exact Option.some.inj this
theorem T.of {α : Type} {g : Nat → Option α} {p : α → Prop} {a : α} (h : T g p) (k : Ev g a) : p a := by
  obtain ⟨r, h1, h2⟩ := h; rw [k.uniq h2]; exact h1
theorem T.pure {α : Type} {p : α → Prop} {r : α} (h : p r) : T (fun _ => some r) p := ⟨r, h, 0, fun _ _ => rfl⟩
theorem T.mono {α : Type} {g : Nat → Option α} {p q : α → Prop} (h : T g p) (k : ∀ a, p a → q a) : T g q := let ⟨r, h1, h2⟩ := h; ⟨r, k r h1, h2⟩
theorem T.eq {α : Type} {f g : Nat → Option α} {p : α → Prop} (he : ∀ k, f (k + 1) = g k) (h : T g p) : T f p := by
  obtain ⟨r, h1, K, h2⟩ := h
  exact ⟨r, h1, K + 1, fun k hk => by obtain ⟨j, rfl⟩ := Nat.exists_eq_add_of_le hk; rw [show K + 1 + j = (K + j) + 1 by omega, he]; exact h2 _ (Nat.le_add_right _ _)⟩
theorem T.bind {α β : Type} {g : Nat → Option α} {h : Nat → α → Option β} {p : α → Prop} {q : β → Prop} (h1 : T g p) (h2 : ∀ a, p a → T (fun k => h k a) q) : T (fun k => (g k).bind (h k)) q := by
  obtain ⟨a, ha, K, hK⟩ := h1
  obtain ⟨b, hb, L, hL⟩ := h2 a ha
  exact ⟨b, hb, K + L, fun k hk => by show (g k).bind (h k) = _; rw [hK k (by omega)]; exact hL k (by omega)⟩
/-- .. where what is bound is known again. -/
theorem T.bindE {α β : Type} {g : Nat → Option α} {h : Nat → α → Option β} {p : α → Prop} {q : β → Prop} (h1 : T g p) (h2 : ∀ a, p a → Ev g a → T (fun k => h k a) q) : T (fun k => (g k).bind (h k)) q := by
  obtain ⟨a, ha, hE⟩ := h1
  obtain ⟨b, hb, L, hL⟩ := h2 a ha hE
  obtain ⟨K, hK⟩ := hE
  exact ⟨b, hb, K + L, fun k hk => by show (g k).bind (h k) = _; rw [hK k (by omega)]; exact hL k (by omega)⟩
theorem T.ite {α : Type} {g h : Nat → Option α} {b : Bool} {p : α → Prop} (h1 : b = true → T g p) (h2 : b = false → T h p) : T (fun k => bif b then g k else h k) p := by
  cases b
  · exact h2 rfl
  · exact h1 rfl
theorem T.yes {α : Type} {g h : Nat → Option α} {b : Bool} {p : α → Prop} (hb : b = true) (h1 : T g p) : T (fun k => bif b then g k else h k) p := T.ite (fun _ => h1) (fun h => by rw [hb] at h; cases h)
theorem T.no {α : Type} {g h : Nat → Option α} {b : Bool} {p : α → Prop} (hb : b = false) (h1 : T h p) : T (fun k => bif b then g k else h k) p := T.ite (fun h => by rw [hb] at h; cases h) (fun _ => h1)
/-- A count from one number up to another. -/
theorem T.loop {α σ : Type} {f : Nat → σ → Int → Option α} {p : α → Prop} (n : Nat) (I : σ → Nat → Prop) (body : ∀ s i, i ≤ n → I s i → (∀ s', i < n → I s' (i + 1) → T (fun k => f k s' ((i : Int) + 1)) p) → T (fun k => f k s (i : Int)) p) :
    ∀ (m : Nat) (s : σ) (i : Nat), n - i = m → i ≤ n → I s i → T (fun k => f k s (i : Int)) p := by
  intro m
  induction m with
  | zero => intro s i hm hi hI; exact body s i hi hI (fun s' hlt _ => absurd hlt (by omega))
  | succ m ih => intro s i hm hi hI; exact body s i hi hI (fun s' hlt hI' => by have := ih s' (i + 1) (by omega) (by omega) hI'; simpa using this)
theorem T.loop0 {α σ : Type} {f : Nat → σ → Int → Option α} {p : α → Prop} (n : Nat) (I : σ → Nat → Prop) (s : σ) (h0 : I s 0) (body : ∀ s i, i ≤ n → I s i → (∀ s', i < n → I s' (i + 1) → T (fun k => f k s' ((i : Int) + 1)) p) → T (fun k => f k s (i : Int)) p) :
    T (fun k => f k s 0) p := by
  have := T.loop n I body n s 0 (by omega) (by omega) h0
  simpa using this
theorem w64_in {n : Int} (h1 : -9223372036854775808 ≤ n) (h2 : n ≤ 9223372036854775807) : w64 n = n := Go.IntWalk.i64_in n ⟨h1, h2⟩
theorem inB_nat {i n : Nat} (h : i < n) : inB (i : Int) n = true := by simp [inB]; omega
theorem inB_int {i : Int} {n : Nat} (h1 : 0 ≤ i) (h2 : i < n) : inB i n = true := by simp [inB]; omega
theorem room_ok {n b : Nat} (h : n * b ≤ 140737488355328) : room n b = true := Nat.ble_eq_true_of_le h
abbrev E := Int × Int × Unit
abbrev O := Int × Int × Int × E × Unit
def z : E := (0, 0, ())
/-- Whether an element is of a level. -/
def ofB (l : Int) (x : E) : Bool :=
  if l < 0 then false else if l > 7 then false else if l = 7 then true else if l = 6 then x.1 == 0 else if x.1 == 0 then (shrI .u64 x.2.1 (shlI .u64 1 l)) == 0 else false
theorem shl_u64_pos {a b : Int} : ¬ shlI .u64 a b < 0 := by
  unfold shlI
  have : IntKind.u64.wrap (a * 2 ^ min b.toNat IntKind.u64.bits) = (a * 2 ^ min b.toNat IntKind.u64.bits) % 2 ^ 64 := by
    unfold IntKind.wrap; simp [IntKind.signed, IntKind.bits]
  rw [this]
  have := Int.emod_nonneg (a * 2 ^ min b.toNat IntKind.u64.bits) (show (2 ^ 64 : Int) ≠ 0 by decide)
  omega
theorem of_T (l : Int) (x : E) : T (fun k => octet_Of.f k l x) (fun b => b = ofB l x) := by
  refine T.eq (octet_Of.f_eq · l x) ?_
  unfold ofB
  by_cases h1 : l < 0
  · exact T.yes (by simp [h1]) (T.pure (by simp [h1]))
  refine T.no (by simp [h1]) ?_
  by_cases h2 : l > 7
  · exact T.yes (by simp [h2]) (T.pure (by simp [h1, h2]))
  refine T.no (by simp [h2]) ?_
  by_cases h3 : l = 7
  · exact T.yes (by simp [h3]) (T.pure (by simp [h1, h2, h3]))
  refine T.no (by simpa using h3) ?_
  by_cases h4 : l = 6
  · exact T.yes (by simp [h4]) (T.pure (by simp [h4]))
  refine T.no (by simpa using h4) (T.ite (fun h => ?_) (fun h => T.pure (by simp [h1, h2, h3, h4, h])))
  exact T.no (by simp [h1]) (T.no (by simpa using shl_u64_pos) (T.pure (by simp [h1, h2, h3, h4, h])))
theorem wide_T (l : Int) : T (fun k => octet_Wide.f k l) (fun _ => True) := by
  refine T.eq (octet_Wide.f_eq · l) (T.ite (fun _ => T.pure trivial) fun h1 => T.ite (fun _ => T.pure trivial) fun h2 => T.ite (fun _ => T.pure trivial) fun h3 => T.no ?_ (T.pure trivial))
  simp only [decide_eq_false_iff_not] at *
  rw [w64_in (by omega) (by omega)]; omega
theorem add_T (a b : E) : T (fun k => tower_Add.f k a b) (fun r => r = (xorI .u64 a.1 b.1, xorI .u64 a.2.1 b.2.1, ())) := T.eq (tower_Add.f_eq · a b) (T.pure rfl)
theorem halves_T {l : Nat} (h1 : 1 ≤ l) (h2 : l ≤ 7) (a : Int) : T (fun k => tower_halves.f k l a) (fun r => a = 0 → r = (0, 0)) := by
  have hl : l = 1 ∨ l = 2 ∨ l = 3 ∨ l = 4 ∨ l = 5 ∨ l = 6 ∨ l = 7 := by omega
  rcases hl with rfl | rfl | rfl | rfl | rfl | rfl | rfl <;>
  exact T.eq (tower_halves.f_eq · _ a) (T.no (by decide) (T.no (by decide) (T.no (by decide) (T.pure (by rintro rfl; decide)))))
theorem join_T {l : Nat} (h1 : 1 ≤ l) (h2 : l ≤ 7) (a b : Int) : T (fun k => tower_join.f k l a b) (fun r => a = 0 → b = 0 → r = 0) := by
  have hl : l = 1 ∨ l = 2 ∨ l = 3 ∨ l = 4 ∨ l = 5 ∨ l = 6 ∨ l = 7 := by omega
  rcases hl with rfl | rfl | rfl | rfl | rfl | rfl | rfl <;>
  exact T.eq (tower_join.f_eq · _ a b) (T.no (by decide) (T.no (by decide) (T.pure (by rintro rfl rfl; decide))))
theorem lev {l : Nat} (h : l ≤ 7) : w64 (((l + 1 : Nat) : Int) - 1) = (l : Int) := by rw [w64_in (by omega) (by omega)]; omega
theorem mulX_T : ∀ (l : Nat), l ≤ 6 → ∀ a, T (fun k => tower_mulX.f k l a) (fun r => a = 0 → r = 0)
  | 0, h, a => T.eq (tower_mulX.f_eq · _ a) (T.yes (by simp) (T.pure id))
  | l + 1, h, a => by
    refine T.eq (tower_mulX.f_eq · _ a) (T.no (by simp; omega) (T.bind (halves_T (by omega) (by omega) a) fun r hr => ?_))
    rw [lev (by omega)]
    refine T.bind (mulX_T l (by omega) r.1) fun s hs => T.bind (join_T (by omega) (by omega) _ _) fun t ht => T.pure fun ha => ?_
    have e := hr ha
    have e1 : r.1 = 0 := by rw [e]
    have e2 : r.2 = 0 := by rw [e]
    exact ht (by rw [e2, hs e1]; decide) e1
theorem and0 (a : Int) : andI .u64 (andI .u64 a 0) 1 = 0 := by
  have e : andI .u64 a 0 = 0 := by unfold andI; simp [IntKind.wrap, IntKind.signed]
  rw [e]; decide
theorem mul_T : ∀ (l : Nat), l ≤ 6 → ∀ a b, T (fun k => tower_mul.f k l a b) (fun r => b = 0 → r = 0)
  | 0, h, a, b => T.eq (tower_mul.f_eq · _ a b) (T.yes (by simp) (T.pure (by rintro rfl; exact and0 a)))
  | l + 1, h, a, b => by
    refine T.eq (tower_mul.f_eq · _ a b) (T.no (by simp; omega) (T.ite (fun _ => T.pure (by rintro rfl; exact and0 a)) fun _ => T.ite (fun _ => T.pure (by rintro rfl; exact and0 a)) fun hb => ?_))
    refine T.bind (halves_T (by omega) (by omega) a) fun r _ => T.bind (halves_T (by omega) (by omega) b) fun s _ => ?_
    rw [lev (by omega)]
    refine T.bind (mul_T l (by omega) _ _) fun t1 _ => T.bind (mul_T l (by omega) _ _) fun t2 _ => T.bind (mul_T l (by omega) _ _) fun t3 _ => T.bind (mulX_T l (by omega) _) fun t4 _ => T.bind (join_T (by omega) (by omega) _ _) fun t5 _ => T.pure fun h0 => ?_
    subst h0; simp at hb
theorem Mul_T (l : Int) (a b : E) : T (fun k => tower_Mul.f k l a b) (fun r => b = z → r = z) := by
  refine T.eq (tower_Mul.f_eq · l a b) (T.bind (of_T l a) fun o1 h1 => T.ite (fun _ => T.pure fun _ => rfl) fun g1 => T.bind (of_T l b) fun o2 h2 => T.ite (fun _ => T.pure fun _ => rfl) fun g2 => ?_)
  have h0 : 0 ≤ l ∧ l ≤ 7 := by
    rw [h1] at g1
    unfold ofB at g1
    by_cases k1 : l < 0
    · simp [k1] at g1
    · by_cases k2 : l > 7
      · simp [k1, k2] at g1
      · omega
  refine T.ite (fun g => ?_) (fun g => ?_)
  · obtain ⟨n, rfl⟩ := Int.eq_ofNat_of_zero_le h0.1
    simp only [decide_eq_true_eq] at g
    exact T.bind (mul_T n (by omega) _ _) fun r hr => T.pure fun hb => by rw [hr (by rw [hb]; rfl)]; rfl
  · refine T.bind (mul_T 6 (by omega) _ _) fun r1 q1 => T.bind (mul_T 6 (by omega) _ _) fun r2 q2 => T.bind (mul_T 6 (by omega) _ _) fun r3 q3 => T.bind (mulX_T 6 (by omega) _) fun r4 q4 => T.pure fun hb => ?_
    subst hb
    have e1 := q1 rfl
    have e2 := q2 rfl
    have e3 := q3 (by decide)
    have e4 := q4 e1
    rw [e1, e2, e3, e4]; decide
end Go.Proofs.Ytlmcalffemklnaa.H1
-- Pb
namespace Go.Proofs.Ytlmcalffemklnaa.H1
open Go Go.Proofs.Ytlmcalffemklnaa.Rf
def zo : O := (0, 0, 0, (0, 0, ()), ())
/-- A step that may be. -/
def okS (vars : Int) (j : Nat) (o : O) : Prop :=
  (o.1 = 1 ∨ o.1 = 2 ∨ o.1 = 3 ∨ o.1 = 4) ∧ (o.1 = 2 → 0 ≤ o.2.1 ∧ o.2.1 < vars) ∧ (o.1 = 3 ∨ o.1 = 4 → 0 ≤ o.2.1 ∧ o.2.1 < j ∧ 0 ≤ o.2.2.1 ∧ o.2.2.1 < j)
theorem ahead_T (o : O) (i : Int) : T (fun k => expr_ahead.f k o i) (fun b => b = true → 0 ≤ o.2.1 ∧ o.2.1 < i ∧ 0 ≤ o.2.2.1 ∧ o.2.2.1 < i) := by
  refine T.eq (expr_ahead.f_eq · o i) (T.ite (fun h1 => T.ite (fun h2 => T.ite (fun h3 => T.pure fun h4 => ?_) (fun _ => T.pure (by simp))) (fun _ => T.pure (by simp))) (fun _ => T.pure (by simp)))
  simp only [decide_eq_true_eq] at *
  omega
theorem step_T (lv vars : Int) (o : O) (ds : List Int) : T (fun k => expr_step.f k lv vars o ds) (fun r => r.2 = 0 → okS vars ds.length o) := by
  refine T.eq (expr_step.f_eq · lv vars o ds) ?_
  repeat' (first
    | exact T.pure (fun h => absurd h (by decide))
    | refine T.bind (of_T _ _) fun _ _ => ?_
    | refine T.bind (ahead_T _ _) fun b hb => ?_
    | refine T.ite (fun _ => ?_) (fun _ => ?_))
  all_goals first
    | (refine T.pure fun _ => ?_; simp only [inB, beq_iff_eq, decide_eq_true_eq, decide_eq_false_iff_not, Bool.and_eq_true, beq_eq_false_iff_ne, ne_eq] at *; unfold okS; omega)
    | (exfalso; rename_i b hb h1 h2; obtain ⟨a1, a2, a3, a4⟩ := hb h1; rw [inB_int a1 a2] at h2; cases h2)
    | (exfalso; rename_i b hb h1 h2 h3; obtain ⟨a1, a2, a3, a4⟩ := hb h1; rw [inB_int a3 a4] at h3; cases h3)
theorem getD_app_lt {α : Type} (l : List α) (a d : α) {j : Nat} (h : j < l.length) : (l ++ [a]).getD j d = l.getD j d := by
  simp [List.getD_eq_getElem?_getD, List.getElem?_append_left h]
theorem lt_dec {i n : Nat} : decide ((i : Int) < (n : Int)) = true → i < n := fun h => by simpa using h
theorem nlt_dec {i n : Nat} : decide ((i : Int) < (n : Int)) = false → n ≤ i := fun h => by simpa using h
theorem inc {i : Nat} (h : i ≤ 100000000) : w64 ((i : Int) + 1) = (i : Int) + 1 := w64_in (by omega) (by omega)
/-- Steps that may be. -/
def okL (vars : Int) (l : List O) : Prop := ∀ j, j < l.length → okS vars j (l.getD j zo)
theorem degrees_T (lv vars : Int) (l : List O) : T (fun k => expr_degrees.f k lv vars l) (fun r => r.2 = 0 → r.1.length = l.length ∧ 0 < l.length ∧ l.length ≤ 200 ∧ okL vars l) := by
  refine T.eq (expr_degrees.f_eq · lv vars l) (T.bind (wide_T lv) fun _ _ => T.ite (fun _ => T.pure fun h => absurd h (by decide)) fun _ => T.ite (fun _ => T.pure fun h => absurd h (by decide)) fun _ => T.ite (fun _ => T.pure fun h => absurd h (by decide)) fun h0 => T.ite (fun _ => T.pure fun h => absurd h (by decide)) fun h1 => ?_)
  have hpos : 0 < l.length := by have : ¬ ((l.length : Int) = 0) := by simpa using h0
                                 omega
  have hle : l.length ≤ 200 := by have : ¬ ((l.length : Int) > 200) := by simpa using h1
                                  omega
  refine T.loop0 (f := fun k s i => expr_degrees.l122 k lv vars s l (l.length : Int) i) l.length (fun s i => s.length = i ∧ ∀ j, j < i → okS vars j (l.getD j zo)) [] ⟨rfl, fun j h => absurd h (by omega)⟩ fun s i hi hI ih => ?_
  refine T.eq (expr_degrees.l122_eq · lv vars s l _ _) (T.ite (fun hlt => ?_) (fun hge => ?_))
  · have hlt := lt_dec hlt
    have hroom : ∀ t : Int, room (s.length + ([t] : List Int).length) 8 = true := fun t => room_ok (by have := hI.1; simp only [List.length_singleton]; omega)
    refine T.yes (inB_nat hlt) (T.bind (step_T _ _ _ _) fun r hr => ?_)
    rw [inc (by omega)]
    have go : r.2 = 0 → T (fun k => expr_degrees.l122 k lv vars (s ++ [r.1]) l (l.length : Int) ((i : Int) + 1)) _ := fun h => ih _ hlt ⟨by simp [hI.1], fun j hj => by
      by_cases e : j = i
      · subst e; have := hr h; rw [hI.1] at this; simpa [zo] using this
      · exact hI.2 j (by omega)⟩
    have bad : ∀ {g : List Int} {e : Int}, e ≠ 0 → T (fun _ : Nat => (some (g, e) : Option (List Int × Int))) (fun r => r.2 = 0 → r.1.length = l.length ∧ 0 < l.length ∧ l.length ≤ 200 ∧ okL vars l) := fun he => T.pure fun h => absurd h he
    refine T.ite (fun h2 => T.ite (fun _ => T.yes (by decide) (bad (by decide))) (fun _ => T.ite (fun h => ?_) (fun _ => T.yes (hroom _) (go (by simpa using h2))))) (fun h2 => T.ite (fun h => bad (by simpa using h)) (fun h => T.yes (hroom _) (go (by simpa using h))))
    simp at h h2; exact absurd h2 h
  · have hge := nlt_dec hge
    have e : i = l.length := by omega
    subst e
    exact T.pure fun _ => ⟨hI.1, hpos, hle, hI.2⟩
theorem Check_T (lv vars : Int) (l : List O) : T (fun k => expr_Check.f k lv vars l) (fun e => e = 0 → 0 < l.length ∧ l.length ≤ 200 ∧ okL vars l) :=
  T.eq (expr_Check.f_eq · lv vars l) (T.bind (degrees_T lv vars l) fun r hr => T.pure fun h => (hr h).2)
/-- Tables that are not too great. -/
def fewT (t : List (List E)) : Prop := t.length ≤ 1000 ∧ ∀ i, (t.getD i []).length ≤ 100000000
/-- What is known of tables that may be. -/
def okT (t : List (List E)) : Prop := 0 < t.length ∧ ∀ i, i < t.length → (t.getD i []).length = (t.getD 0 []).length
end Go.Proofs.Ytlmcalffemklnaa.H1
-- Pc
namespace Go.Proofs.Ytlmcalffemklnaa.H1
open Go Go.Proofs.Ytlmcalffemklnaa.Rf
noncomputable def Mv (lv : Int) (a b : E) : E := (Mul_T lv a b).choose
theorem Mv_ev (lv : Int) (a b : E) : Ev (fun k => tower_Mul.f k lv a b) (Mv lv a b) := (Mul_T lv a b).choose_spec.2
theorem Mv_T (lv : Int) (a b : E) : T (fun k => tower_Mul.f k lv a b) (fun r => r = Mv lv a b) := ⟨_, rfl, Mv_ev lv a b⟩
def Av (a b : E) : E := (xorI .u64 a.1 b.1, xorI .u64 a.2.1 b.2.1, ())
/-- A step's value. -/
noncomputable def nxt (lv : Int) (v out : List E) (o : O) : E :=
  if o.1 = 1 then o.2.2.2.1 else if o.1 = 2 then v.getD o.2.1.toNat z else if o.1 = 3 then Av (out.getD o.2.1.toNat z) (out.getD o.2.2.1.toNat z) else if o.1 = 4 then Mv lv (out.getD o.2.1.toNat z) (out.getD o.2.2.1.toNat z) else z
noncomputable def outs (lv : Int) (v : List E) : List E → List O → List E
  | out, [] => out
  | out, o :: l => outs lv v (out ++ [nxt lv v out o]) l
theorem outs_append (lv : Int) (v : List E) : ∀ (l m : List O) (out : List E), outs lv v out (l ++ m) = outs lv v (outs lv v out l) m
  | [], m, out => rfl
  | o :: l, m, out => outs_append lv v l m _
theorem take_snoc {α : Type} (l : List α) (d : α) {i : Nat} (h : i < l.length) : l.take (i + 1) = l.take i ++ [l.getD i d] := by
  rw [List.take_add_one, List.getElem?_eq_getElem h, List.getD_eq_getElem?_getD, List.getElem?_eq_getElem h]; rfl
theorem Eval_T (lv : Int) (l : List O) (v : List E) (hv : v.length ≤ 100000) : T (fun k => expr_Eval.f k lv l v) (fun r =>
    (Ev (fun k => expr_Check.f k lv (v.length : Int) l) 0 → (∀ i, i < v.length → ofB lv (v.getD i z) = true) → r.1 = (outs lv v [] l).getD (l.length - 1) z) ∧
    (r.1 = z ∨ (Ev (fun k => expr_Check.f k lv (v.length : Int) l) 0 ∧ ∀ i, i < v.length → ofB lv (v.getD i z) = true))) := by
  refine T.eq (expr_Eval.f_eq · lv l v) (T.bindE (Check_T lv _ l) fun e he hE => T.ite (fun h => T.pure ⟨fun h0 _ => ?_, .inl rfl⟩) fun h => ?_)
  · have := hE.uniq h0; subst this; simp at h
  have h : e = 0 := by simpa using h
  subst h
  obtain ⟨q1, q2, q3⟩ := he rfl
  refine T.loop0 (σ := Unit) (f := fun k _ i => expr_Eval.l58 k lv l v (0, 0, ()) v (v.length : Int) i) v.length (fun _ i => ∀ j, j < i → ofB lv (v.getD j z) = true) () (fun j h => absurd h (by omega)) fun s i hi hI ih => ?_
  refine T.eq (expr_Eval.l58_eq · lv l v _ v _ _) (T.ite (fun h => ?_) (fun h => ?_))
  · have hlt := lt_dec h
    simp only [Int.toNat_natCast]
    refine T.yes (inB_nat hlt) (T.bind (of_T _ _) fun b hb => T.ite (fun hn => T.pure ⟨fun _ ho => ?_, .inl rfl⟩) fun hy => ?_)
    · have := ho i hlt
      rw [show ofB lv (v.getD i z) = b from hb.symm] at this
      subst this; simp at hn
    · rw [inc (by omega)]
      refine ih () hlt fun j hj => ?_
      by_cases e : j = i
      · subst e
        rw [show ofB lv (v.getD j z) = b from hb.symm]; simpa using hy
      · exact hI j (by omega)
  · have e : i = v.length := by have := nlt_dec h; omega
    subst e
    refine T.loop0 (f := fun k s i => expr_Eval.l250 k lv v (0, 0, ()) s l (l.length : Int) i) l.length (fun s i => s = outs lv v [] (l.take i) ∧ s.length = i) [] ⟨rfl, rfl⟩ fun s i hi hI' ih => ?_
    refine T.eq (expr_Eval.l250_eq · lv v _ s l _ _) (T.ite (fun h => ?_) (fun h => ?_))
    · have hlt := lt_dec h
      simp only [Int.toNat_natCast]
      have hok := q3 i hlt
      obtain ⟨o, ho⟩ : ∃ o, o = l.getD i zo := ⟨_, rfl⟩
      have ho' : l.getD i (0, 0, 0, (0, 0, ()), ()) = o := ho.symm
      rw [← ho] at hok
      have hroom : ∀ t : E, room (s.length + ([t] : List E).length) 16 = true := fun t => room_ok (by have := hI'.2; simp only [List.length_singleton]; omega)
      have go : ∀ t, t = nxt lv v s o → T (fun k => expr_Eval.l250 k lv v (0, 0, ()) (s ++ [t]) l (l.length : Int) (w64 ((i : Int) + 1))) _ := fun t ht => by
        rw [inc (by omega)]
        refine ih _ hlt ⟨?_, by simp [hI'.2]⟩
        rw [take_snoc l zo hlt, outs_append, ← hI'.1, ht, ho]; rfl
      simp only [ho']
      obtain ⟨u1, u2, u3⟩ := hok
      rw [← hI'.2] at u3
      refine T.yes (inB_nat hlt) (T.ite (fun k1 => T.yes (hroom _) (go _ ?_)) fun k1 => T.ite (fun k2 => T.yes ?_ (T.yes (hroom _) (go _ ?_))) fun k2 => T.ite (fun k3 => T.yes ?_ (T.yes ?_ (T.bind (add_T _ _) fun t ht => T.yes (hroom _) (go _ ?_)))) fun k3 => T.ite (fun k4 => T.yes ?_ (T.yes ?_ (T.bind (Mv_T _ _ _) fun t ht => T.yes (hroom _) (go _ ?_)))) fun k4 => T.yes (hroom _) (go _ ?_))
      all_goals simp only [beq_iff_eq, beq_eq_false_iff_ne, ne_eq] at *
      · rw [nxt, if_pos k1]
      · exact inB_int (u2 k2).1 (u2 k2).2
      · rw [nxt, if_neg k1, if_pos k2]; rfl
      · exact inB_int (u3 (.inl k3)).1 (u3 (.inl k3)).2.1
      · exact inB_int (u3 (.inl k3)).2.2.1 (u3 (.inl k3)).2.2.2
      · rw [nxt, if_neg k1, if_neg k2, if_pos k3, ht]; rfl
      · exact inB_int (u3 (.inr k4)).1 (u3 (.inr k4)).2.1
      · exact inB_int (u3 (.inr k4)).2.2.1 (u3 (.inr k4)).2.2.2
      · rw [nxt, if_neg k1, if_neg k2, if_neg k3, if_pos k4, ht]; rfl
      · rw [nxt, if_neg k1, if_neg k2, if_neg k3, if_neg k4]; rfl
    · have e : i = l.length := by have := nlt_dec h; omega
      subst e
      rw [List.take_length] at hI'
      have hw : w64 ((s.length : Int) - 1) = ((l.length - 1 : Nat) : Int) := by rw [w64_in (by omega) (by omega)]; omega
      rw [hw]
      refine T.yes (inB_nat (by omega)) (T.pure ⟨fun _ _ => ?_, .inr ⟨hE, hI⟩⟩)
      rw [Int.toNat_natCast, hI'.1]; rfl
end Go.Proofs.Ytlmcalffemklnaa.H1
-- Pd
namespace Go.Proofs.Ytlmcalffemklnaa.H1
open Go Go.Proofs.Ytlmcalffemklnaa.Rf
/-- One corner's values. -/
def col (t : List (List E)) (i : Nat) : List E := t.map fun x => x.getD i z
theorem col_len (t : List (List E)) (i : Nat) : (col t i).length = t.length := by simp [col]
theorem col_at (t : List (List E)) (i j : Nat) (h : j < t.length) : (col t i).getD j z = (t.getD j []).getD i z := by
  simp [col, List.getD_eq_getElem?_getD, h]
theorem set_get {α : Type} (l : List α) (i j : Nat) (a d : α) (hi : i < l.length) : (l.set i a).getD j d = if j = i then a else l.getD j d := by
  by_cases h : j = i
  · subst h; simp [List.getD_eq_getElem?_getD, hi]
  · simp [List.getD_eq_getElem?_getD, h, List.getElem?_set_ne (Ne.symm h)]
theorem list_eq {α : Type} {l m : List α} (d : α) (hl : l.length = m.length) (h : ∀ j, j < m.length → l.getD j d = m.getD j d) : l = m := by
  apply List.ext_getElem hl
  intro j h1 h2
  have := h j h2
  simpa [List.getD_eq_getElem?_getD, h1, h2] using this
end Go.Proofs.Ytlmcalffemklnaa.H1
-- Pe
namespace Go.Proofs.Ytlmcalffemklnaa.H1
open Go Go.Proofs.Ytlmcalffemklnaa.Rf
theorem getD_app_l {α : Type} (l m : List α) (d : α) {j : Nat} (h : j < l.length) : (l ++ m).getD j d = l.getD j d := by simp [List.getD_eq_getElem?_getD, List.getElem?_append_left h]
theorem getD_app_r {α : Type} (l m : List α) (d : α) (j : Nat) : (l ++ m).getD (l.length + j) d = m.getD j d := by simp [List.getD_eq_getElem?_getD, List.getElem?_append_right]
end Go.Proofs.Ytlmcalffemklnaa.H1
-- Pg
namespace Go.Proofs.Ytlmcalffemklnaa.H1
open Go Go.Proofs.Ytlmcalffemklnaa.Rf
def rng (n : Int) : Prop := 0 ≤ n ∧ n < 18446744073709551616
theorem wrap_in {n : Int} (h : rng n) : IntKind.u64.wrap n = n := by
  have : IntKind.u64.wrap n = n % 18446744073709551616 := by unfold IntKind.wrap; simp [IntKind.signed, IntKind.bits]
  rw [this]; exact Int.emod_eq_of_lt h.1 h.2
theorem ofInt_nat {n : Int} (h : rng n) : ((BitVec.ofInt 64 n).toNat : Int) = n := by
  rw [BitVec.toNat_ofInt]
  obtain ⟨h1, h2⟩ := h
  have : n % ((2 ^ 64 : Nat) : Int) = n := Int.emod_eq_of_lt h1 (by simpa using h2)
  rw [this]; omega
end Go.Proofs.Ytlmcalffemklnaa.H1
-- Pl
namespace Go.Proofs.Ytlmcalffemklnaa.H1
open Go Go.Proofs.Ytlmcalffemklnaa.Rf
theorem T.both {α : Type} {g : Nat → Option α} {p q : α → Prop} (h1 : T g p) (h2 : T g q) : T g (fun a => p a ∧ q a) := by
  obtain ⟨a, ha, he⟩ := h1
  exact ⟨a, ⟨ha, h2.of he⟩, he⟩
theorem Ev.T {α : Type} {g : Nat → Option α} {a : α} (h : Ev g a) : T g (fun r => r = a) := ⟨a, rfl, h⟩
theorem shl_pow {m : Nat} (h : m ≤ 6) : shlI .i64 1 (m : Int) = ((2 ^ m : Nat) : Int) := by
  have hl : m = 0 ∨ m = 1 ∨ m = 2 ∨ m = 3 ∨ m = 4 ∨ m = 5 ∨ m = 6 := by omega
  rcases hl with rfl | rfl | rfl | rfl | rfl | rfl | rfl <;> decide
theorem wu_in {n : Int} (h1 : 0 ≤ n) (h2 : n < 18446744073709551616) : wu64 n = n := wrap_in ⟨h1, h2⟩
end Go.Proofs.Ytlmcalffemklnaa.H1
-- Qa
namespace Go.Proofs.Ytlmcalffemklnaa.Tow
/-- Words of a level, times the level's generator. -/
def mulX : Nat → Nat → Nat
  | 0, a => a
  | l + 1, a => (((a &&& (2 ^ 2 ^ l - 1)) ^^^ mulX l (a >>> 2 ^ l)) <<< 2 ^ l) ^^^ (a >>> 2 ^ l)
/-- The product of words of a level. -/
def mul : Nat → Nat → Nat → Nat
  | 0, a, b => a &&& b &&& 1
  | l + 1, a, b =>
    match Nat.beq a 0 || Nat.beq b 0 with
    | true => 0
    | false =>
      ((mul l ((a >>> 2 ^ l) ^^^ (a &&& (2 ^ 2 ^ l - 1))) ((b >>> 2 ^ l) ^^^ (b &&& (2 ^ 2 ^ l - 1))) ^^^ mul l (a >>> 2 ^ l) (b >>> 2 ^ l) ^^^ mul l (a &&& (2 ^ 2 ^ l - 1)) (b &&& (2 ^ 2 ^ l - 1)) ^^^ mulX l (mul l (a >>> 2 ^ l) (b >>> 2 ^ l))) <<< 2 ^ l)
        ^^^ (mul l (a &&& (2 ^ 2 ^ l - 1)) (b &&& (2 ^ 2 ^ l - 1)) ^^^ mul l (a >>> 2 ^ l) (b >>> 2 ^ l))
theorem mulX0 : ∀ l, mulX l 0 = 0
  | 0 => rfl
  | l + 1 => by simp [mulX, mulX0 l]
theorem mul0l : ∀ l b, mul l 0 b = 0
  | 0, b => by simp [mul]
  | l + 1, b => rfl
theorem mul0r : ∀ l a, mul l a 0 = 0
  | 0, a => by simp [mul]
  | l + 1, a => by
    unfold mul
    have : (Nat.beq a 0 || Nat.beq 0 0) = true := by simp
    rw [this]
theorem mul_eq (l a b : Nat) : mul (l + 1) a b =
      ((mul l ((a >>> 2 ^ l) ^^^ (a &&& (2 ^ 2 ^ l - 1))) ((b >>> 2 ^ l) ^^^ (b &&& (2 ^ 2 ^ l - 1))) ^^^ mul l (a >>> 2 ^ l) (b >>> 2 ^ l) ^^^ mul l (a &&& (2 ^ 2 ^ l - 1)) (b &&& (2 ^ 2 ^ l - 1)) ^^^ mulX l (mul l (a >>> 2 ^ l) (b >>> 2 ^ l))) <<< 2 ^ l)
        ^^^ (mul l (a &&& (2 ^ 2 ^ l - 1)) (b &&& (2 ^ 2 ^ l - 1)) ^^^ mul l (a >>> 2 ^ l) (b >>> 2 ^ l)) := by
  by_cases ha : a = 0
  · subst ha
    simp [mul0l, mulX0]
  · by_cases hb : b = 0
    · subst hb
      simp [mul0r, mulX0]
    · cases a with
      | zero => exact absurd rfl ha
      | succ a =>
        cases b with
        | zero => exact absurd rfl hb
        | succ b => rfl
theorem xor_shl {w x y : Nat} (h : y < 2 ^ w) : x <<< w + y = x <<< w ^^^ y := by
  rw [Nat.shiftLeft_eq, Nat.mul_comm, Nat.two_pow_add_eq_or_of_lt h x]
  apply Nat.eq_of_testBit_eq
  intro i
  rw [Nat.testBit_or, Nat.testBit_xor]
  by_cases e : i < w
  · have : (2 ^ w * x).testBit i = false := by
      rw [Nat.mul_comm, ← Nat.shiftLeft_eq, Nat.testBit_shiftLeft]; simp; omega
    rw [this]; simp
  · have : y.testBit i = false := Nat.testBit_lt_two_pow (Nat.lt_of_lt_of_le h (Nat.pow_le_pow_right (by decide) (by omega)))
    rw [this]; simp
/-- A word's halves. -/
theorem halves (w a : Nat) : a = (a >>> w) <<< w ^^^ (a &&& (2 ^ w - 1)) := by
  have hlt : a &&& (2 ^ w - 1) < 2 ^ w := by rw [Nat.and_two_pow_sub_one_eq_mod]; exact Nat.mod_lt _ (Nat.two_pow_pos w)
  rw [← xor_shl hlt, Nat.and_two_pow_sub_one_eq_mod, Nat.shiftLeft_eq, Nat.shiftRight_eq_div_pow]
  rw [Nat.mul_comm]; exact (Nat.div_add_mod a (2 ^ w)).symm
theorem lo_lt (w a : Nat) : a &&& (2 ^ w - 1) < 2 ^ w := by rw [Nat.and_two_pow_sub_one_eq_mod]; exact Nat.mod_lt _ (Nat.two_pow_pos w)
theorem hi_lt {w a : Nat} (h : a < 2 ^ (w + w)) : a >>> w < 2 ^ w := by
  rw [Nat.shiftRight_eq_div_pow, Nat.div_lt_iff_lt_mul (Nat.two_pow_pos w), ← Nat.pow_add]; exact h
theorem two_two (l : Nat) : 2 ^ 2 ^ (l + 1) = 2 ^ (2 ^ l + 2 ^ l) := by rw [Nat.pow_succ, Nat.mul_two]
end Go.Proofs.Ytlmcalffemklnaa.Tow
-- Fa
namespace Go.Proofs.Ytlmcalffemklnaa.Tow
/-! The tower's fields. -/
theorem mul_comm : ∀ l a b, mul l a b = mul l b a
  | 0, a, b => by simp only [mul, Nat.and_comm a b]
  | l + 1, a, b => by
    rw [mul_eq l a b, mul_eq l b a, mul_comm l (b >>> 2 ^ l ^^^ (b &&& (2 ^ 2 ^ l - 1))) _, mul_comm l (b >>> 2 ^ l) _, mul_comm l (b &&& (2 ^ 2 ^ l - 1)) _]
theorem split {l a : Nat} (h : a < 2 ^ 2 ^ (l + 1)) : ∃ a1 a0, a1 < 2 ^ 2 ^ l ∧ a0 < 2 ^ 2 ^ l ∧ a = a1 <<< 2 ^ l ^^^ a0 := by
  rw [two_two] at h
  exact ⟨_, _, hi_lt h, lo_lt (2 ^ l) a, halves _ _⟩
/-! Frobenius. -/
end Go.Proofs.Ytlmcalffemklnaa.Tow
-- Ua
namespace Go.Proofs.Ytlmcalffemklnaa.H1
open Go Go.Proofs.Ytlmcalffemklnaa.Rf
theorem rng_nat {n : Int} (h : rng n) : ∃ m : Nat, n = (m : Int) ∧ m < 2 ^ 64 := ⟨n.toNat, by have := h.1; omega, by have := h.2; have := h.1; omega⟩
theorem nat_rng {m : Nat} (h : m < 2 ^ 64) : rng (m : Int) := ⟨by omega, by have : (2:Nat)^64 = 18446744073709551616 := rfl; omega⟩
theorem toNat_nat {m : Nat} (h : m < 2 ^ 64) : (BitVec.ofInt 64 (m : Int)).toNat = m := by
  have := ofInt_nat (nat_rng h); omega
theorem xor_nat {a b : Nat} (ha : a < 2 ^ 64) (hb : b < 2 ^ 64) : xorI .u64 (a : Int) (b : Int) = ((a ^^^ b : Nat) : Int) := by
  show IntKind.u64.wrap ((BitVec.ofInt 64 (a : Int) ^^^ BitVec.ofInt 64 (b : Int)).toNat : Int) = _
  rw [BitVec.toNat_xor, toNat_nat ha, toNat_nat hb]
  exact wrap_in (nat_rng (Nat.xor_lt_two_pow ha hb))
theorem and_nat {a b : Nat} (ha : a < 2 ^ 64) (hb : b < 2 ^ 64) : andI .u64 (a : Int) (b : Int) = ((a &&& b : Nat) : Int) := by
  show IntKind.u64.wrap ((BitVec.ofInt 64 (a : Int) &&& BitVec.ofInt 64 (b : Int)).toNat : Int) = _
  rw [BitVec.toNat_and, toNat_nat ha, toNat_nat hb]
  exact wrap_in (nat_rng (Nat.lt_of_le_of_lt Nat.and_le_left ha))
theorem or_nat {a b : Nat} (ha : a < 2 ^ 64) (hb : b < 2 ^ 64) : orI .u64 (a : Int) (b : Int) = ((a ||| b : Nat) : Int) := by
  show IntKind.u64.wrap ((BitVec.ofInt 64 (a : Int) ||| BitVec.ofInt 64 (b : Int)).toNat : Int) = _
  rw [BitVec.toNat_or, toNat_nat ha, toNat_nat hb]
  exact wrap_in (nat_rng (Nat.or_lt_two_pow ha hb))
theorem shr_nat {a s : Nat} (hs : s ≤ 64) : shrI .u64 (a : Int) (s : Int) = ((a >>> s : Nat) : Int) := by
  unfold shrI
  have e : min ((s : Int).toNat) IntKind.u64.bits = s := by rw [Int.toNat_natCast]; exact Nat.min_eq_left hs
  rw [e, Nat.shiftRight_eq_div_pow, Int.fdiv_eq_ediv_of_nonneg _ (by exact Int.le_of_lt (Int.pow_pos (by decide)))]
  simp
theorem shl_nat {a s : Nat} (hs : s ≤ 64) (h : a <<< s < 2 ^ 64) : shlI .u64 (a : Int) (s : Int) = ((a <<< s : Nat) : Int) := by
  unfold shlI
  have e : min ((s : Int).toNat) IntKind.u64.bits = s := by rw [Int.toNat_natCast]; exact Nat.min_eq_left hs
  rw [e, show (a : Int) * 2 ^ s = ((a <<< s : Nat) : Int) by rw [Nat.shiftLeft_eq]; simp]
  exact wrap_in (nat_rng h)
theorem pow_le {l m : Nat} (h : l ≤ m) : (2 : Nat) ^ 2 ^ l ≤ 2 ^ 2 ^ m := Nat.pow_le_pow_right (by decide) (Nat.pow_le_pow_right (by decide) h)
theorem lt64 {l a : Nat} (hl : l ≤ 6) (h : a < 2 ^ 2 ^ l) : a < 2 ^ 64 := Nat.lt_of_lt_of_le h (pow_le hl)
theorem shl_pow_u {m : Nat} (h : m ≤ 6) : shlI .u64 1 (m : Int) = ((2 ^ m : Nat) : Int) := by
  rcases (show m = 0 ∨ m = 1 ∨ m = 2 ∨ m = 3 ∨ m = 4 ∨ m = 5 ∨ m = 6 by omega) with rfl | rfl | rfl | rfl | rfl | rfl | rfl <;> decide
theorem p2le {l m : Nat} (h : l ≤ m) : 2 ^ l ≤ 2 ^ m := Nat.pow_le_pow_right (by decide) h
end Go.Proofs.Ytlmcalffemklnaa.H1
namespace Go.Proofs.Ytlmcalffemklnaa.H1
open Go Go.Proofs.Ytlmcalffemklnaa.Rf
abbrev Gt := Int × Int × Int × Int × Int × Unit
abbrev Sy := Int × Int × Int × Int × Int × List Gt × Unit
def g0 : Gt := (0, 0, 0, 0, 0, ())
theorem two_T (n : Nat) (hn : n ≤ 62) : T (fun k => steepleref15_Two.f k (n : Int)) (fun r => r = ((2 ^ n : Nat) : Int)) := by
  refine T.eq (steepleref15_Two.f_eq · _) ?_
  refine T.loop0 (σ := Int) (f := fun k s i => steepleref15_Two.l58 k n s i) n (fun s i => s = ((2 ^ i : Nat) : Int)) 1 rfl fun s i hi hI ih => ?_
  refine T.eq (steepleref15_Two.l58_eq · _ _ _) (T.ite (fun h => ?_) (fun h => ?_))
  · have hlt := lt_dec h
    have hp : 2 ^ i ≤ 2 ^ 61 := Nat.pow_le_pow_right (by decide) (by omega)
    have h61 : (2 : Nat) ^ 61 = 2305843009213693952 := rfl
    have e : w64 (2 * s) = ((2 ^ (i + 1) : Nat) : Int) := by
      rw [hI, Nat.pow_succ]
      generalize 2 ^ i = q at hp
      rw [w64_in (by omega) (by omega)]; omega
    rw [e, inc (by omega)]
    exact ih _ hlt rfl
  · have := nlt_dec h
    exact T.pure (by rw [hI, show i = n by omega])
def pw (n : Int) : Int := ((2 ^ n.toNat : Nat) : Int)
theorem two_int {n : Int} (h0 : 0 ≤ n) (h1 : n ≤ 62) : T (fun k => steepleref15_Two.f k n) (fun r => r = pw n) := by
  obtain ⟨m, rfl⟩ := Int.eq_ofNat_of_zero_le h0
  exact two_T m (by omega)
theorem shl_pw {n : Int} (h0 : 0 ≤ n) (h1 : n ≤ 6) : shlI .i64 1 n = pw n := by
  obtain ⟨m, rfl⟩ := Int.eq_ofNat_of_zero_le h0
  exact shl_pow (by omega)
theorem pw_rng {n : Int} (h0 : 0 ≤ n) (h1 : n ≤ 6) : 1 ≤ pw n ∧ pw n ≤ 64 := by
  obtain ⟨m, rfl⟩ := Int.eq_ofNat_of_zero_le h0
  have hm : m ≤ 6 := by omega
  have h1 : 2 ^ m ≤ 2 ^ 6 := Nat.pow_le_pow_right (by decide) hm
  have h2 := Nat.two_pow_pos m
  unfold pw
  simp only [Int.toNat_natCast]
  have : (2 : Nat) ^ 6 = 64 := rfl
  omega
/-- Whether words turn so. -/
def fitB (k w s : Int) : Bool := decide (0 ≤ k) && decide (k ≤ 3) && decide (0 ≤ w) && decide (w ≤ 6) && decide (0 ≤ s) && decide (s < pw w) && (k != 0 || s == 0)
theorem tfits_T (k w s : Int) : T (fun f => turn_Fits.f f k w s) (fun b => b = fitB k w s) := by
  refine T.eq (turn_Fits.f_eq · k w s) ?_
  by_cases c : 0 ≤ w ∧ w ≤ 6
  · rw [shl_pw c.1 c.2]
    repeat' (first | refine T.pure ?_ | refine T.no (b := decide (w < 0)) (by simpa using c.1) ?_ | refine T.ite (fun h => ?_) (fun h => ?_))
    all_goals (simp_all [fitB] <;> (intros; omega))
  · refine T.ite (fun h1 => T.ite (fun h2 => T.ite (fun h3 => T.ite (fun h4 => absurd ⟨of_decide_eq_true h3, of_decide_eq_true h4⟩ c) (fun h4 => T.pure ?_)) (fun h3 => T.pure ?_)) (fun h2 => T.pure ?_)) (fun h1 => T.pure ?_)
    all_goals (clear c; simp_all [fitB] <;> (intros; omega))
theorem rfits_T (k w s : Int) : T (fun f => steepleref18_Fits.f f k w s) (fun b => b = fitB k w s) := by
  refine T.eq (steepleref18_Fits.f_eq · k w s) ?_
  by_cases c : 0 ≤ w ∧ w ≤ 6
  · refine T.ite (fun h => T.pure ?_) (fun h1 => T.ite (fun h => T.pure ?_) (fun h2 => T.ite (fun h => T.pure ?_) (fun h3 => T.ite (fun h => T.pure ?_) (fun h4 => T.ite (fun h => T.pure ?_) (fun h5 => T.bind (two_int c.1 (by omega)) fun r hr => T.ite (fun h => T.pure ?_) (fun h6 => T.ite (fun h => T.pure ?_) (fun h7 => T.pure ?_)))))))
    all_goals (simp_all [fitB] <;> (intros; omega))
  · refine T.ite (fun h => T.pure ?_) (fun h1 => T.ite (fun h => T.pure ?_) (fun h2 => T.ite (fun h => T.pure ?_) (fun h3 => T.ite (fun h => T.pure ?_) (fun h4 => absurd ⟨by simpa using h3, by simpa using h4⟩ c))))
    all_goals (clear c; simp_all [fitB] <;> (intros; omega))
def twoB (k : Int) : Bool := k == 1 || k == 2 || k == 7 || k == 8
def shB (k : Int) : Bool := decide (4 ≤ k) && decide (k ≤ 6)
theorem rtwo_T (k : Int) : T (fun f => steepleref25_two.f f k) (fun b => b = twoB k) := by
  refine T.eq (steepleref25_two.f_eq · k) ?_
  repeat' (first | refine T.pure ?_ | refine T.ite (fun h => ?_) (fun h => ?_))
  all_goals simp_all [twoB]
theorem rsh_T (k : Int) : T (fun f => steepleref25_shifts.f f k) (fun b => b = shB k) := by
  refine T.eq (steepleref25_shifts.f_eq · k) ?_
  repeat' (first | refine T.pure ?_ | refine T.ite (fun h => ?_) (fun h => ?_))
  all_goals (simp_all [shB] <;> (intros; omega))
def mkN (k : Int) : Int := if k = 8 then 0 else if k = 7 then 2 else 1
theorem rmakes_T (g : Gt) : T (fun f => steepleref25_Makes.f f g) (fun b => b = mkN g.1) := by
  refine T.eq (steepleref25_Makes.f_eq · g) ?_
  repeat' (first | refine T.pure ?_ | refine T.ite (fun h => ?_) (fun h => ?_))
  all_goals simp_all [mkN]
theorem turned_T (k : Int) : T (fun f => circuit_turned.f f k) (fun r => r = if shB k then k - 3 else 0) := by
  refine T.eq (circuit_turned.f_eq · k) ?_
  repeat' (first | refine T.pure ?_ | refine T.ite (fun h => ?_) (fun h => ?_))
  all_goals (simp_all [shB] <;> (intros; omega))
def inK (k : Int) : Bool := decide (1 ≤ k) && decide (k ≤ 8)
theorem needs_T (k : Int) : T (fun f => circuit_needs.f f k) (fun r => r = (twoB k, inK k && k != 8, shB k || k == 7)) := by
  refine T.eq (circuit_needs.f_eq · k) ?_
  repeat' (first | refine T.pure ?_ | refine T.ite (fun h => ?_) (fun h => ?_))
  all_goals (simp_all [twoB, inK, shB] <;> (intros; omega))
end Go.Proofs.Ytlmcalffemklnaa.H1
namespace Go.Proofs.Ytlmcalffemklnaa.H1
open Go Go.Proofs.Ytlmcalffemklnaa.Rf
/-- What is wrong with a gate behind so many columns, but for its kind and what it leaves out. -/
def gE1 (x : Sy) (g : Gt) (n : Int) : Int :=
  if g.2.2.1 < 0 ∨ n ≤ g.2.2.1 ∨ (twoB g.1 = true ∧ (g.2.2.2.1 < 0 ∨ n ≤ g.2.2.2.1)) then 4
  else if shB g.1 = true ∧ fitB (g.1 - 3) x.1 g.2.2.2.2.1 = false then 1
  else if (g.1 ≠ 8 ∧ g.2.1 ≠ n) ∨ (g.1 = 7 ∧ g.2.2.2.2.1 ≠ n + 1) then 3
  else if pw x.2.2.1 < n + mkN g.1 then 2 else 0
def gBad (g : Gt) : Prop := g.1 < 1 ∨ 8 < g.1 ∨ (twoB g.1 = false ∧ g.2.2.2.1 ≠ 0) ∨ (g.1 = 8 ∧ g.2.1 ≠ 0) ∨ (shB g.1 = false ∧ g.1 ≠ 7 ∧ g.2.2.2.2.1 ≠ 0)
open Classical in
noncomputable def gE (x : Sy) (g : Gt) (n : Int) : Int := if gBad g then 3 else gE1 x g n
/-- What a system must be for its gates to be looked at. -/
structure Sz (x : Sy) : Prop where
  w0 : 0 ≤ x.1
  w1 : x.1 ≤ 5
  r0 : 0 ≤ x.2.1
  r1 : x.2.1 ≤ 4
  c0 : 0 ≤ x.2.2.1
  c1 : x.2.2.1 ≤ 6
theorem mkN_rng (k : Int) : 0 ≤ mkN k ∧ mkN k ≤ 2 := by unfold mkN; split <;> (try split) <;> omega
theorem rl63_T (x : Sy) (g : Gt) (n : Int) (hx : Sz x) (h0 : 0 ≤ n) (h1 : n ≤ 100) : T (fun k => steepleref25_System_Gate.l63 k n x g) (fun r => r = if (g.1 ≠ 8 ∧ g.2.1 ≠ n) ∨ (g.1 = 7 ∧ g.2.2.2.2.1 ≠ n + 1) then 3 else if pw x.2.2.1 < n + mkN g.1 then 2 else 0) := by
  have hm := mkN_rng g.1
  have e1 : w64 (n + 1) = n + 1 := w64_in (by omega) (by omega)
  have e2 : w64 (n + mkN g.1) = n + mkN g.1 := w64_in (by omega) (by omega)
  refine T.eq (steepleref25_System_Gate.l63_eq · _ _ _) ?_
  rw [e1]
  repeat' (first | refine T.pure ?_ | (refine T.bind (rmakes_T _) fun t ht => ?_; subst ht; rw [e2]) | (refine T.bind (two_int hx.c0 (by have := hx.c1; omega)) fun t ht => ?_; subst ht) | refine T.ite (fun h => ?_) (fun h => ?_))
  all_goals (clear e1 e2; simp_all <;> (intros; omega))
theorem rl31_T (x : Sy) (g : Gt) (n : Int) (hx : Sz x) (h0 : 0 ≤ n) (h1 : n ≤ 100) (hk : 1 ≤ g.1 ∧ g.1 ≤ 8) : T (fun k => steepleref25_System_Gate.l31 k n x g) (fun r => r = if shB g.1 = true ∧ fitB (g.1 - 3) x.1 g.2.2.2.2.1 = false then 1 else if (g.1 ≠ 8 ∧ g.2.1 ≠ n) ∨ (g.1 = 7 ∧ g.2.2.2.2.1 ≠ n + 1) then 3 else if pw x.2.2.1 < n + mkN g.1 then 2 else 0) := by
  have e1 : w64 (g.1 - 3) = g.1 - 3 := w64_in (by omega) (by omega)
  refine T.eq (steepleref25_System_Gate.l31_eq · _ _ _) (T.bind (rsh_T _) fun t ht => ?_)
  subst ht
  rw [e1]
  refine T.ite (fun h => T.bind (rfits_T _ _ _) fun b hb => T.ite (fun h2 => T.pure ?_) (fun h2 => (rl63_T x g n hx h0 h1).mono fun r hr => ?_)) (fun h => (rl63_T x g n hx h0 h1).mono fun r hr => ?_)
  · subst hb; rw [if_pos ⟨h, by simpa using h2⟩]
  · subst hb; rw [if_neg (by simp_all)]; exact hr
  · rw [if_neg (by simp_all)]; exact hr
theorem rl15_T (x : Sy) (g : Gt) (n : Int) (hx : Sz x) (h0 : 0 ≤ n) (h1 : n ≤ 100) (hk : 1 ≤ g.1 ∧ g.1 ≤ 8) : T (fun k => steepleref25_System_Gate.l15 k n x g) (fun r => r = gE1 x g n) := by
  refine T.eq (steepleref25_System_Gate.l15_eq · _ _ _) ?_
  have key := rl31_T x g n hx h0 h1 hk
  unfold gE1
  refine T.ite (fun h => T.pure ?_) (fun ha => T.ite (fun h => T.pure ?_) (fun hb => T.bind (rtwo_T _) fun t ht => T.ite (fun hc => T.ite (fun h => T.pure ?_) (fun hd => T.ite (fun h => T.pure ?_) (fun he => key.mono fun r hr => ?_))) (fun hc => key.mono fun r hr => ?_)))
  · rw [if_pos (by simp_all)]
  · rw [if_pos (by simp_all)]
  · rw [if_pos (by simp_all)]
  · rw [if_pos (by simp_all)]
  · rw [if_neg (by simp_all <;> omega)]; exact hr
  · rw [if_neg (by simp_all <;> omega)]; exact hr
theorem rgate_T (x : Sy) (g : Gt) (n : Int) (hx : Sz x) (h0 : 0 ≤ n) (h1 : n ≤ 100) : T (fun k => steepleref25_System_Gate.f k x g n) (fun r => r = gE x g n) := by
  refine T.eq (steepleref25_System_Gate.f_eq · _ _ _) ?_
  have bad : gBad g → (3 : Int) = gE x g n := fun h => by unfold gE; rw [if_pos h]
  refine T.ite (fun h => T.pure (bad (.inl (by simpa using h)))) (fun ha => T.ite (fun h => T.pure (bad (.inr (.inl (by simpa using h))))) (fun hb => ?_))
  have hk : 1 ≤ g.1 ∧ g.1 ≤ 8 := by simp_all
  have key := fun (h : ¬ gBad g) => (rl15_T x g n hx h0 h1 hk).mono (q := fun r => r = gE x g n) fun r hr => by unfold gE; rw [if_neg h]; exact hr
  have hk1 : ¬ g.1 < 1 := by omega
  have hk2 : ¬ 8 < g.1 := by omega
  clear hk
  repeat' (first | refine T.pure (bad ?_) | (refine T.bind (rtwo_T _) fun t ht => ?_; subst ht) | (refine T.bind (rsh_T _) fun t ht => ?_; subst ht) | refine key ?_ | refine T.ite (fun h => ?_) (fun h => ?_))
  all_goals (clear key bad; simp_all [gBad])
/-- The same columns behind a gate, by the program. -/
theorem cl63_T (x : Sy) (g : Gt) (n : Int) (hx : Sz x) (h0 : 0 ≤ n) (h1 : n ≤ 100) : T (fun k => circuit_gate.l63 k n x g) (fun r => r = if pw x.2.2.1 < (if g.1 = 7 then n + 1 else n) then (0, 2) else ((if g.1 = 7 then n + 1 else n), 0)) := by
  have e1 : w64 (n + 1) = n + 1 := w64_in (by omega) (by omega)
  refine T.eq (circuit_gate.l63_eq · _ _ _) ?_
  rw [e1, shl_pw hx.c0 hx.c1]
  have hc : decide (x.2.2.1 < 0) = false := by have := hx.c0; simpa using this
  refine T.ite (fun h => T.no hc (T.ite (fun h2 => T.pure ?_) (fun h2 => T.pure ?_))) (fun h => T.no hc (T.ite (fun h2 => T.pure ?_) (fun h2 => T.pure ?_)))
  all_goals (clear e1; simp_all <;> (intros; omega))
theorem cl121_T (x : Sy) (g : Gt) (n : Int) (b d : Bool) (kind : Int) (fl : Bool) (hx : Sz x) (h0 : 0 ≤ n) (h1 : n ≤ 98) : T (fun k => circuit_gate.l121 k n x g b d kind fl) (fun r => r =
    if fl = true then (0, 3) else if g.2.2.1 < 0 ∨ n ≤ g.2.2.1 ∨ g.2.2.2.1 < 0 ∨ (b = true ∧ n ≤ g.2.2.2.1) then (0, 4) else if kind ≠ 0 ∧ fitB kind x.1 g.2.2.2.2.1 = false then (0, 1)
    else if (d = true ∧ g.2.1 ≠ n) ∨ (g.1 = 7 ∧ g.2.2.2.2.1 ≠ n + 1) then (0, 3) else if pw x.2.2.1 < (if g.1 = 7 then (if d = true then n + 1 else n) + 1 else (if d = true then n + 1 else n)) then (0, 2) else ((if g.1 = 7 then (if d = true then n + 1 else n) + 1 else (if d = true then n + 1 else n)), 0)) := by
  have e1 : w64 (n + 1) = n + 1 := w64_in (by omega) (by omega)
  refine T.eq (circuit_gate.l121_eq · _ _ _ _ _ _ _) ?_
  rw [e1]
  have k0 := cl63_T x g n hx h0 (by omega)
  have k1 := cl63_T x g (n + 1) hx (by omega) (by omega)
  clear e1
  repeat' (first | refine T.pure ?_ | (refine T.bind (tfits_T _ _ _) fun t ht => ?_; subst ht) | refine k0.mono fun r hr => ?_ | refine k1.mono fun r hr => ?_ | refine T.ite (fun h => ?_) (fun h => ?_))
  all_goals (clear k0 k1; try subst hr)
  all_goals (simp_all <;> (try (intros; omega)))
theorem cgate_T (x : Sy) (g : Gt) (n : Int) (hx : Sz x) (h0 : 0 ≤ n) (h1 : n ≤ 98) : T (fun k => circuit_gate.f k x g n) (fun r => r = (if gE x g n = 0 then n + mkN g.1 else 0, gE x g n)) := by
  refine T.eq (circuit_gate.f_eq · _ _ _) (T.bind (needs_T _) fun t ht => T.bind (turned_T _) fun u hu => ?_)
  subst ht; subst hu
  have key : ∀ fl : Bool, (fl = true ↔ gBad g) → T (fun k => circuit_gate.l121 k n x g (twoB g.1) (inK g.1 && g.1 != 8) (if shB g.1 then g.1 - 3 else 0) fl) (fun r => r = (if gE x g n = 0 then n + mkN g.1 else 0, gE x g n)) := fun fl hfl => by
    refine (cl121_T x g n _ _ _ fl hx h0 h1).mono fun r hr => ?_
    rw [hr]
    unfold gE
    by_cases hb : gBad g
    · rw [if_pos (hfl.2 hb), if_pos hb]; rfl
    · rw [if_neg (fun h => hb (hfl.1 h)), if_neg hb]
      have hb' := hb
      unfold gBad at hb
      have hin : inK g.1 = true := by unfold inK; simp; omega
      have htw : g.2.2.2.1 < 0 → twoB g.1 = true := fun h => by
        cases ht : twoB g.1 with
        | true => rfl
        | false => exact absurd (.inr (.inr (.inl ⟨ht, by omega⟩))) hb
      unfold gE1
      have e1 : (g.2.2.1 < 0 ∨ n ≤ g.2.2.1 ∨ g.2.2.2.1 < 0 ∨ (twoB g.1 = true ∧ n ≤ g.2.2.2.1)) ↔ (g.2.2.1 < 0 ∨ n ≤ g.2.2.1 ∨ (twoB g.1 = true ∧ (g.2.2.2.1 < 0 ∨ n ≤ g.2.2.2.1))) := by
        constructor
        · rintro (h | h | h | h)
          · exact .inl h
          · exact .inr (.inl h)
          · exact .inr (.inr ⟨htw h, .inl h⟩)
          · exact .inr (.inr ⟨h.1, .inr h.2⟩)
        · rintro (h | h | ⟨h, k | k⟩)
          · exact .inl h
          · exact .inr (.inl h)
          · exact .inr (.inr (.inl k))
          · exact .inr (.inr (.inr ⟨h, k⟩))
      have e2 : ((if shB g.1 = true then g.1 - 3 else 0) ≠ 0 ∧ fitB (if shB g.1 = true then g.1 - 3 else 0) x.1 g.2.2.2.2.1 = false) ↔ (shB g.1 = true ∧ fitB (g.1 - 3) x.1 g.2.2.2.2.1 = false) := by
        cases hs : shB g.1 with
        | false => simp
        | true =>
          have : 4 ≤ g.1 := by unfold shB at hs; simp at hs; omega
          simp; intro _; omega
      have e3 : ((inK g.1 && g.1 != 8) = true ∧ g.2.1 ≠ n) ↔ (g.1 ≠ 8 ∧ g.2.1 ≠ n) := by rw [hin]; simp
      have e4 : (if g.1 = 7 then (if (inK g.1 && g.1 != 8) = true then n + 1 else n) + 1 else (if (inK g.1 && g.1 != 8) = true then n + 1 else n)) = n + mkN g.1 := by
        rw [hin]; unfold mkN
        by_cases h8 : g.1 = 8
        · simp [h8]
        · by_cases h7 : g.1 = 7
          · simp [h7]; try omega
          · simp [h7, h8]
      rw [e4]
      by_cases c1 : (g.2.2.1 < 0 ∨ n ≤ g.2.2.1 ∨ (twoB g.1 = true ∧ (g.2.2.2.1 < 0 ∨ n ≤ g.2.2.2.1)))
      · rw [if_pos (e1.2 c1), if_pos c1]; rfl
      · rw [if_neg (fun h => c1 (e1.1 h)), if_neg c1]
        by_cases c2 : (shB g.1 = true ∧ fitB (g.1 - 3) x.1 g.2.2.2.2.1 = false)
        · rw [if_pos (e2.2 c2), if_pos c2]; rfl
        · rw [if_neg (fun h => c2 (e2.1 h)), if_neg c2]
          by_cases c3 : (g.1 ≠ 8 ∧ g.2.1 ≠ n) ∨ (g.1 = 7 ∧ g.2.2.2.2.1 ≠ n + 1)
          · rw [if_pos (c3.imp e3.2 id), if_pos c3]; rfl
          · rw [if_neg (fun h => c3 (h.imp e3.1 id)), if_neg c3]
            by_cases c4 : pw x.2.2.1 < n + mkN g.1
            · rw [if_pos c4, if_pos c4]; rfl
            · rw [if_neg c4, if_neg c4]; rfl
  have b1 : (true = true ↔ gBad g) ↔ gBad g := by simp
  repeat' (first | refine key _ ?_ | refine T.ite (fun h => ?_) (fun h => ?_))
  all_goals (clear key b1; simp only [gBad])
  all_goals (simp_all [inK] <;> first | omega | (intros; simp_all; done))
end Go.Proofs.Ytlmcalffemklnaa.H1
namespace Go.Proofs.Ytlmcalffemklnaa.H1
open Go Go.Proofs.Ytlmcalffemklnaa.Rf
abbrev gts (x : Sy) : List Gt := x.2.2.2.2.2.1
def sBad (x : Sy) : Prop := x.1 < 0 ∨ 5 < x.1 ∨ x.2.1 < 0 ∨ 4 < x.2.1 ∨ x.2.2.1 < 0 ∨ 6 < x.2.2.1 ∨ x.2.2.2.1 < 0 ∨ x.2.2.2.2.1 < 0 ∨ pw x.2.2.1 < x.2.2.2.1 + x.2.2.2.2.1
open Classical in
noncomputable def gW (x : Sy) : List Gt → Int → Int × Int
  | [], n => (n, 0)
  | g :: l, n => if gE x g n = 0 then gW x l (n + mkN g.1) else (0, gE x g n)
open Classical in
/-- What is wrong with a system, and how many columns there are. -/
noncomputable def chk (x : Sy) : Int × Int := if sBad x then (0, 1) else if 30 < (gts x).length then (0, 2) else gW x (gts x) (x.2.2.2.1 + x.2.2.2.2.1)
theorem drop_getD {α : Type} (l : List α) (d : α) {i : Nat} (h : i < l.length) : l.drop i = l.getD i d :: l.drop (i + 1) := by
  rw [List.drop_eq_getElem_cons h, List.getD_eq_getElem?_getD, List.getElem?_eq_getElem h]; rfl
theorem gE_zero {x : Sy} {g : Gt} {n : Int} (h : gE x g n = 0) : ¬ gBad g ∧ gE1 x g n = 0 := by
  unfold gE at h
  split at h
  · omega
  · rename_i hb; exact ⟨hb, h⟩
theorem gE1_zero {x : Sy} {g : Gt} {n : Int} (h : gE1 x g n = 0) : ¬ (g.2.2.1 < 0 ∨ n ≤ g.2.2.1 ∨ (twoB g.1 = true ∧ (g.2.2.2.1 < 0 ∨ n ≤ g.2.2.2.1))) ∧ ¬ (shB g.1 = true ∧ fitB (g.1 - 3) x.1 g.2.2.2.2.1 = false) ∧ ¬ ((g.1 ≠ 8 ∧ g.2.1 ≠ n) ∨ (g.1 = 7 ∧ g.2.2.2.2.1 ≠ n + 1)) ∧ ¬ pw x.2.2.1 < n + mkN g.1 := by
  unfold gE1 at h
  split at h
  · omega
  rename_i h1
  split at h
  · omega
  rename_i h2
  split at h
  · omega
  rename_i h3
  split at h
  · omega
  rename_i h4
  exact ⟨h1, h2, h3, h4⟩
theorem step_rng {x : Sy} {g : Gt} {n : Int} (hx : Sz x) (h0 : 0 ≤ n) (h : gE x g n = 0) : 0 ≤ n + mkN g.1 ∧ n + mkN g.1 ≤ 64 := by
  have := (gE1_zero (gE_zero h).2).2.2.2
  have := pw_rng hx.c0 hx.c1
  have := mkN_rng g.1
  omega
theorem sz_of {x : Sy} (h : ¬ sBad x) : Sz x ∧ 0 ≤ x.2.2.2.1 ∧ 0 ≤ x.2.2.2.2.1 ∧ x.2.2.2.1 + x.2.2.2.2.1 ≤ 64 ∧ x.2.2.2.1 + x.2.2.2.2.1 ≤ pw x.2.2.1 := by
  unfold sBad at h
  have hx : Sz x := ⟨by omega, by omega, by omega, by omega, by omega, by omega⟩
  have := pw_rng hx.c0 hx.c1
  refine ⟨hx, by omega, by omega, by omega, by omega⟩
theorem rcheck_T (x : Sy) (hl : (gts x).length ≤ 1000) : T (fun k => steepleref25_Check.f k x) (fun r => r = (chk x).2) := by
  refine T.eq (steepleref25_Check.f_eq · x) ?_
  have bad : sBad x → (1 : Int) = (chk x).2 := fun h => by unfold chk; rw [if_pos h]
  refine T.ite (fun h => T.pure (bad (.inl (by simpa using h)))) (fun a1 => T.ite (fun h => T.pure (bad (.inr (.inl (by simpa using h))))) (fun a2 => T.ite (fun h => T.pure (bad (.inr (.inr (.inl (by simpa using h)))))) (fun a3 => T.ite (fun h => T.pure (bad (.inr (.inr (.inr (.inl (by simpa using h))))))) (fun a4 =>
    T.ite (fun h => T.pure (bad (.inr (.inr (.inr (.inr (.inl (by simpa using h)))))))) (fun a5 => T.ite (fun h => T.pure (bad (.inr (.inr (.inr (.inr (.inr (.inl (by simpa using h))))))))) (fun a6 => T.ite (fun h => T.pure (bad (.inr (.inr (.inr (.inr (.inr (.inr (.inl (by simpa using h)))))))))) (fun a7 => T.ite (fun h => T.pure (bad (.inr (.inr (.inr (.inr (.inr (.inr (.inr (.inl (by simpa using h))))))))))) (fun a8 => ?_))))))))
  simp only [decide_eq_false_iff_not] at a1 a2 a3 a4 a5 a6 a7 a8
  have hp := pw_rng (n := x.2.2.1) (by omega) (by omega)
  refine T.ite (fun h => T.pure (bad ?_)) (fun a9 => T.ite (fun h => T.pure (bad ?_)) (fun a10 => T.bind (two_int (n := x.2.2.1) (by omega) (by omega)) fun t ht => ?_))
  · simp only [decide_eq_true_eq] at h; unfold sBad; omega
  · simp only [decide_eq_true_eq] at h; unfold sBad; omega
  subst ht
  simp only [decide_eq_false_iff_not] at a9 a10
  rw [w64_in (n := x.2.2.2.1 + x.2.2.2.2.1) (by omega) (by omega)]
  refine T.ite (fun h => T.pure (bad ?_)) (fun a11 => ?_)
  · simp only [decide_eq_true_eq] at h; unfold sBad; omega
  simp only [decide_eq_false_iff_not] at a11
  have hnb : ¬ sBad x := by unfold sBad; omega
  have hx := (sz_of hnb).1
  refine T.ite (fun h => T.pure ?_) (fun a12 => ?_)
  · simp only [decide_eq_true_eq] at h; unfold chk; rw [if_neg hnb, if_pos (by show 30 < x.2.2.2.2.2.1.length; omega)]
  simp only [decide_eq_false_iff_not] at a12
  have hc : chk x = gW x (gts x) (x.2.2.2.1 + x.2.2.2.2.1) := by unfold chk; rw [if_neg hnb, if_neg (by show ¬ 30 < x.2.2.2.2.2.1.length; omega)]
  rw [hc]
  refine T.loop0 (σ := Int) (f := fun k s i => steepleref25_Check.l506 k x s i) (gts x).length (fun s i => (0 ≤ s ∧ s ≤ 64) ∧ gW x (gts x) (x.2.2.2.1 + x.2.2.2.2.1) = gW x ((gts x).drop i) s) _ ⟨⟨by omega, by omega⟩, rfl⟩ fun s i hi hI ih => ?_
  obtain ⟨hs, hI⟩ := hI
  refine T.eq (steepleref25_Check.l506_eq · x s i) (T.ite (fun h => ?_) (fun h => ?_))
  · have hlt := lt_dec h
    refine T.yes (inB_nat hlt) (T.bind (rgate_T x ((gts x).getD i g0) s hx hs.1 (by omega)) fun t ht => ?_)
    have hd := drop_getD (gts x) g0 hlt
    rw [hd] at hI
    refine T.ite (fun hne => T.pure ?_) (fun he => T.yes (inB_nat hlt) (T.bind (rmakes_T ((gts x).getD i g0)) fun m hm => ?_))
    · have : gE x ((gts x).getD i g0) s ≠ 0 := by rw [← ht]; simpa using hne
      rw [hI]; show t = _; simp only [gW]; rw [if_neg this]; exact ht
    · have h0 : gE x ((gts x).getD i g0) s = 0 := by rw [← ht]; simpa using he
      subst hm
      have hr := step_rng hx hs.1 h0
      have e : w64 (s + mkN ((gts x).getD i g0).1) = s + mkN ((gts x).getD i g0).1 := w64_in (by omega) (by omega)
      have := ih (s + mkN ((gts x).getD i g0).1) hlt ⟨hr, by rw [hI]; simp only [gW]; rw [if_pos h0]⟩
      rw [inc (by omega)]
      rw [e]
      exact this
  · have := nlt_dec h
    exact T.pure (by rw [hI, List.drop_eq_nil_of_le (by omega)]; rfl)
theorem look_T (x : Sy) (hl : (gts x).length ≤ 1000) : T (fun k => circuit_look.f k x) (fun r => r = chk x) := by
  refine T.eq (circuit_look.f_eq · x) ?_
  have bad : sBad x → ((0, 1) : Int × Int) = chk x := fun h => by unfold chk; rw [if_pos h]
  refine T.ite (fun h => T.pure (bad (.inl (by simpa using h)))) (fun a1 => T.ite (fun h => T.pure (bad (.inr (.inl (by simpa using h))))) (fun a2 => T.ite (fun h => T.pure (bad (.inr (.inr (.inl (by simpa using h)))))) (fun a3 => T.ite (fun h => T.pure (bad (.inr (.inr (.inr (.inl (by simpa using h))))))) (fun a4 =>
    T.ite (fun h => T.pure (bad (.inr (.inr (.inr (.inr (.inl (by simpa using h)))))))) (fun a5 => T.ite (fun h => T.pure (bad (.inr (.inr (.inr (.inr (.inr (.inl (by simpa using h))))))))) (fun a6 => T.ite (fun h => T.pure (bad (.inr (.inr (.inr (.inr (.inr (.inr (.inl (by simpa using h)))))))))) (fun a7 => T.ite (fun h => T.pure (bad (.inr (.inr (.inr (.inr (.inr (.inr (.inr (.inl (by simpa using h))))))))))) (fun a8 => ?_))))))))
  simp only [decide_eq_false_iff_not] at a1 a2 a3 a4 a5 a6 a7 a8
  have hp := pw_rng (n := x.2.2.1) (by omega) (by omega)
  have hc0 : decide (x.2.2.1 < 0) = false := by simpa using a5
  rw [shl_pw (n := x.2.2.1) (by omega) (by omega)]
  refine T.no hc0 (T.ite (fun h => T.pure (bad ?_)) (fun a9 => T.no hc0 ?_))
  · simp only [decide_eq_true_eq] at h; unfold sBad; omega
  simp only [decide_eq_false_iff_not] at a9
  rw [w64_in (n := pw x.2.2.1 - x.2.2.2.1) (by omega) (by omega)]
  refine T.ite (fun h => T.pure (bad ?_)) (fun a10 => ?_)
  · simp only [decide_eq_true_eq] at h; unfold sBad; omega
  simp only [decide_eq_false_iff_not] at a10
  have hnb : ¬ sBad x := by unfold sBad; omega
  have hx := (sz_of hnb).1
  refine T.ite (fun h => T.pure ?_) (fun a12 => ?_)
  · simp only [decide_eq_true_eq] at h; unfold chk; rw [if_neg hnb, if_pos (by show 30 < x.2.2.2.2.2.1.length; omega)]
  simp only [decide_eq_false_iff_not] at a12
  have hc : chk x = gW x (gts x) (x.2.2.2.1 + x.2.2.2.2.1) := by unfold chk; rw [if_neg hnb, if_neg (by show ¬ 30 < x.2.2.2.2.2.1.length; omega)]
  rw [hc, w64_in (n := x.2.2.2.1 + x.2.2.2.2.1) (by omega) (by omega)]
  refine T.loop0 (σ := Int) (f := fun k s i => circuit_look.l122 k x s (gts x) ((gts x).length : Int) i) (gts x).length (fun s i => (0 ≤ s ∧ s ≤ 64) ∧ gW x (gts x) (x.2.2.2.1 + x.2.2.2.2.1) = gW x ((gts x).drop i) s) _ ⟨⟨by omega, by omega⟩, rfl⟩ fun s i hi hI ih => ?_
  obtain ⟨hs, hI⟩ := hI
  refine T.eq (circuit_look.l122_eq · x s _ _ i) (T.ite (fun h => ?_) (fun h => ?_))
  · have hlt := lt_dec h
    refine T.yes (inB_nat hlt) (T.bind (cgate_T x ((gts x).getD i g0) s hx hs.1 (by omega)) fun t ht => ?_)
    have hd := drop_getD (gts x) g0 hlt
    rw [hd] at hI
    have et : t.2 = gE x ((gts x).getD i g0) s := by rw [ht]
    refine T.ite (fun hne => T.pure ?_) (fun he => ?_)
    · have : gE x ((gts x).getD i g0) s ≠ 0 := by rw [← et]; simpa using hne
      rw [hI]; simp only [gW]; rw [if_neg this]; exact congrArg (Prod.mk 0) et
    · have h0 : gE x ((gts x).getD i g0) s = 0 := by rw [← et]; simpa using he
      have hr := step_rng hx hs.1 h0
      have e1 : t.1 = s + mkN ((gts x).getD i g0).1 := by
        rw [ht]
        show (if gE x ((gts x).getD i g0) s = 0 then s + mkN ((gts x).getD i g0).1 else 0) = _
        rw [if_pos h0]
      have := ih (s + mkN ((gts x).getD i g0).1) hlt ⟨hr, by rw [hI]; simp only [gW]; rw [if_pos h0]⟩
      rw [inc (by omega), e1]
      exact this
  · have := nlt_dec h
    exact T.pure (by rw [hI, List.drop_eq_nil_of_le (by omega)]; rfl)
theorem ccheck_T (x : Sy) (hl : (gts x).length ≤ 1000) : T (fun k => circuit_Check.f k x) (fun r => r = (chk x).2) :=
  T.eq (circuit_Check.f_eq · x) (T.bind (look_T x hl) fun t ht => T.pure (by rw [ht]))
theorem ref_T (x : Sy) (hl : (gts x).length ≤ 1000) : T (fun k => steeplelaw25_Ref.f k x) (fun r => r = x) := by
  refine T.eq (steeplelaw25_Ref.f_eq · x) ?_
  refine T.loop0 (σ := Sy) (f := fun k s i => steeplelaw25_Ref.l58 k x (0, 0, 0, 0, 0, (), ()) s i) (gts x).length (fun s i => s = (x.1, x.2.1, x.2.2.1, x.2.2.2.1, x.2.2.2.2.1, (gts x).take i, ())) _ rfl fun s i hi hI ih => ?_
  refine T.eq (steeplelaw25_Ref.l58_eq · x _ s i) (T.ite (fun h => ?_) (fun h => ?_))
  · have hlt := lt_dec h
    subst hI
    refine T.yes (inB_nat hlt) (T.yes (room_ok (by simp only [List.length_take, List.length_cons, List.length_nil]; omega)) ?_)
    rw [inc (by omega)]
    refine ih _ hlt ?_
    rw [take_snoc _ g0 hlt]; rfl
  · have := nlt_dec h
    exact T.pure (by rw [hI, List.take_of_length_le (by omega)])
/-- No more than statements go through. -/
theorem few_T (x : Sy) : T (fun k => steeplelaw27_Few.f k x) (fun b => b = true → (gts x).length ≤ 40 ∧ ((chk x).2 = 0 → (gts x).length ≤ 12 ∧ x.2.1 ≤ 2 ∧ x.2.2.1 ≤ 5)) := by
  refine T.eq (steeplelaw27_Few.f_eq · x) (T.ite (fun h1 => T.ite (fun h2 => T.pure fun h => ?_) (fun h2 => T.pure fun h => by cases h)) (fun h1 => ?_))
  · simp only [decide_eq_true_eq] at h1 h2 h
    refine ⟨by show x.2.2.2.2.2.1.length ≤ 40; omega, fun hc => ?_⟩
    unfold chk at hc
    split at hc
    · cases hc
    · rw [if_pos (by show 30 < x.2.2.2.2.2.1.length; omega)] at hc; cases hc
  · simp only [decide_eq_false_iff_not] at h1
    have hl : (gts x).length ≤ 12 := by show x.2.2.2.2.2.1.length ≤ 12; omega
    refine T.bind (ref_T x (by omega)) fun y hy => ?_
    subst hy
    refine T.bind (rcheck_T y (by omega)) fun e he => T.ite (fun h => T.pure fun _ => ⟨by omega, fun hc => ?_⟩) (fun h => T.ite (fun h2 => T.pure fun h3 => ⟨by omega, fun _ => ⟨hl, by simpa using h2, by simpa using h3⟩⟩) (fun h2 => T.pure fun h3 => by cases h3))
    rw [he, hc] at h; cases h
end Go.Proofs.Ytlmcalffemklnaa.H1
namespace Go.Proofs.Ytlmcalffemklnaa.H1
open Go Go.Proofs.Ytlmcalffemklnaa.Rf
/-- A wire that is a column turned. -/
def okW (x : Sy) (w : O) : Prop := 0 ≤ w.1 ∧ w.1 < pw x.2.2.1 ∧ fitB w.2.1 x.1 w.2.2.1 = true
structure BOk (x : Sy) (ws : List O) (cs : List (List O)) (l : List O) (m : Nat) : Prop where
  ok : ∀ y ∈ ws, okW x y
  w : ws.length ≤ m
  c : cs.length ≤ m
  l : l.length ≤ m
theorem index_T (l : List O) (w : O) (hl : l.length ≤ 100000) : T (fun k => slices_Index_Claim.f k l w) (fun r => (∃ i : Nat, r = (i : Int) ∧ i < l.length ∧ l.getD i zo = w) ∨ (r = -1 ∧ w ∉ l)) := by
  refine T.eq (slices_Index_Claim.f_eq · l w) ?_
  refine T.loop0 (σ := Unit) (f := fun k _ i => slices_Index_Claim.l26 k l w (l.length : Int) i) l.length (fun _ i => ∀ j, j < i → l.getD j zo ≠ w) () (fun j h => absurd h (by omega)) fun s i hi hI ih => ?_
  refine T.eq (slices_Index_Claim.l26_eq · l w _ _) (T.ite (fun h => ?_) (fun h => ?_))
  · have hlt := lt_dec h
    refine T.yes (inB_nat hlt) (T.ite (fun he => T.pure (.inl ⟨i, rfl, hlt, ?_⟩)) (fun he => ?_))
    · simp only [Int.toNat_natCast, Bool.and_eq_true, beq_iff_eq] at he
      obtain ⟨a, b, c, d, e⟩ := he
      exact Prod.ext a.symm (Prod.ext b.symm (Prod.ext c.symm (Prod.ext (Prod.ext d.symm (Prod.ext e.symm rfl)) rfl)))
    · rw [inc (by omega)]
      refine ih () hlt fun j hj => ?_
      by_cases hji : j = i
      · subst hji
        intro e
        rw [Int.toNat_natCast] at he
        have e' : l.getD j (0, 0, 0, (0, 0, ()), ()) = w := e
        rw [e'] at he
        simp at he
      · exact hI j (by omega)
  · have := nlt_dec h
    refine T.pure (.inr ⟨rfl, fun hm => ?_⟩)
    obtain ⟨j, hj, e⟩ := List.getElem_of_mem hm
    exact hI j (by omega) (by rw [List.getD_eq_getElem?_getD, List.getElem?_eq_getElem hj]; exact e)
abbrev Bd := List O × List (List O) × List O × Unit
theorem bwire_T {x : Sy} {b : Bd} {m : Nat} (h : BOk x b.1 b.2.1 b.2.2.1 m) (hm : m ≤ 100000) (w : O) (hw : okW x w) : T (fun k => circuit_board_wire_v703.f k b w) (fun r => BOk x r.2.1 r.2.2.1 r.2.2.2.1 (m + 1)) := by
  have := h.w
  have hlen : (b.1 ++ [w]).length = b.1.length + 1 := by simp
  refine T.eq (circuit_board_wire_v703.f_eq · b w) (T.bind (index_T b.1 w (by omega)) fun t ht => T.ite (fun _ => T.pure ⟨h.ok, by have := h.w; show b.1.length ≤ _; omega, by have := h.c; show b.2.1.length ≤ _; omega, by have := h.l; show b.2.2.1.length ≤ _; omega⟩) (fun _ => T.yes (room_ok (by simp only [List.length_cons, List.length_nil]; omega)) (T.pure ⟨fun y hy => ?_, ?_, ?_, ?_⟩)))
  · rcases List.mem_append.1 hy with k | k
    · exact h.ok y k
    · rw [List.mem_singleton.1 k]; exact hw
  · show (b.1 ++ [w]).length ≤ _; omega
  · have := h.c; show b.2.1.length ≤ _; omega
  · have := h.l; show b.2.2.1.length ≤ _; omega
theorem bput_T {x : Sy} {b : Bd} {m : Nat} (h : BOk x b.1 b.2.1 b.2.2.1 m) (hm : m ≤ 100000) (o : O) : T (fun k => circuit_board_put_v703.f k b o) (fun r => BOk x r.2.1 r.2.2.1 r.2.2.2.1 (m + 1)) := by
  have h1 := h.w; have h2 := h.c; have h3 := h.l
  refine T.eq (circuit_board_put_v703.f_eq · b o) (T.yes (room_ok (by simp only [List.length_cons, List.length_nil]; omega)) (T.pure ⟨h.ok, by show b.1.length ≤ _; omega, by show b.2.1.length ≤ _; omega, ?_⟩))
  show (b.2.2.1 ++ [o]).length ≤ _
  rw [List.length_append]; simp only [List.length_cons, List.length_nil]; omega
theorem bv_T {x : Sy} {b : Bd} {m : Nat} (h : BOk x b.1 b.2.1 b.2.2.1 m) (hm : m ≤ 100000) (i : Int) : T (fun k => circuit_board_v_vaac.f k b i) (fun r => BOk x r.2.1 r.2.2.1 r.2.2.2.1 (m + 1)) :=
  T.eq (circuit_board_v_vaac.f_eq · b i) (T.bind (bput_T h hm _) fun t ht => T.pure ht)
theorem bsum_T {x : Sy} {b : Bd} {m : Nat} (h : BOk x b.1 b.2.1 b.2.2.1 m) (hm : m ≤ 100000) (i j : Int) : T (fun k => circuit_board_sum_v224.f k b i j) (fun r => BOk x r.2.1 r.2.2.1 r.2.2.2.1 (m + 1)) :=
  T.eq (circuit_board_sum_v224.f_eq · b i j) (T.bind (bput_T h hm _) fun t ht => T.pure ht)
theorem bprod_T {x : Sy} {b : Bd} {m : Nat} (h : BOk x b.1 b.2.1 b.2.2.1 m) (hm : m ≤ 100000) (i j : Int) : T (fun k => circuit_board_prod_v224.f k b i j) (fun r => BOk x r.2.1 r.2.2.1 r.2.2.2.1 (m + 1)) :=
  T.eq (circuit_board_prod_v224.f_eq · b i j) (T.bind (bput_T h hm _) fun t ht => T.pure ht)
theorem bdone_T {x : Sy} {b : Bd} {m : Nat} (h : BOk x b.1 b.2.1 b.2.2.1 m) (hm : m ≤ 100000) : T (fun k => circuit_board_done_v6c7.f k b) (fun r => BOk x r.1 r.2.1 [] (m + 1)) := by
  have h1 := h.w; have h2 := h.c; have h3 := h.l
  refine T.eq (circuit_board_done_v6c7.f_eq · b) (T.yes (room_ok (by simp only [List.length_cons, List.length_nil]; omega)) (T.pure ⟨h.ok, by show b.1.length ≤ _; omega, ?_, Nat.zero_le _⟩))
  show (b.2.1 ++ [b.2.2.1]).length ≤ _
  rw [List.length_append]; simp only [List.length_cons, List.length_nil]; omega
theorem okW0 {x : Sy} {c : Int} (hx : Sz x) (h0 : 0 ≤ c) (h1 : c < pw x.2.2.1) : okW x (c, 0, 0, (0, 0, ()), ()) := by
  refine ⟨h0, h1, ?_⟩
  have := hx.w0; have := hx.w1; have := pw_rng (n := x.1) (by omega) (by omega)
  unfold fitB; simp; omega
theorem badd_T {x : Sy} {b : Bd} {m : Nat} {g : Gt} (hx : Sz x) (h : BOk x b.1 b.2.1 b.2.2.1 m) (hm : m ≤ 6000) (d i : Int) (hb : 0 ≤ g.2.2.2.1 ∧ g.2.2.2.1 < pw x.2.2.1) (hs : 0 ≤ g.2.2.2.2.1 ∧ g.2.2.2.2.1 < pw x.2.2.1) :
    T (fun k => circuit_board_add_v65b.f k b x g d i) (fun r => BOk x r.1 r.2.1 r.2.2.1 (m + 30)) := by
  refine T.eq (circuit_board_add_v65b.f_eq · b x g d i) (T.bind (bwire_T h (by omega) _ (okW0 hx hb.1 hb.2)) fun t1 h1 => T.bind (bwire_T h1 (by omega) _ (okW0 hx hs.1 hs.2)) fun t2 h2 => T.ite (fun _ => ?_) (fun hw => ?_))
  · refine T.bind (bv_T h2 (by omega) _) fun _ h => T.bind (bv_T h (by omega) _) fun _ h => T.bind (bsum_T h (by omega) _ _) fun _ h => T.bind (bv_T h (by omega) _) fun _ h => T.bind (bsum_T h (by omega) _ _) fun _ h => T.bind (bdone_T h (by omega)) fun t h => ?_
    refine T.bind (bv_T (b := (t.1, t.2.1, [], t.2.2.2)) h (by omega) _) fun _ h => T.bind (bv_T h (by omega) _) fun _ h => T.bind (bv_T h (by omega) _) fun _ h => T.bind (bprod_T h (by omega) _ _) fun _ h => T.bind (bsum_T h (by omega) _ _) fun _ h => T.pure ⟨h.ok, by have := h.w; omega, by have := h.c; omega, by have := h.l; omega⟩
  · have hk : okW x (g.2.2.2.2.1, 1, 1, (0, 0, ()), ()) := by
      refine ⟨hs.1, hs.2, ?_⟩
      have h0 := hx.w0; have h1 := hx.w1
      have hne : x.1 ≠ 0 := by simpa using hw
      have : 2 ≤ pw x.1 := by
        unfold pw
        have : 2 ^ 1 ≤ 2 ^ x.1.toNat := Nat.pow_le_pow_right (by decide) (by omega)
        omega
      unfold fitB; simp; omega
    refine T.bind (bwire_T h2 (by omega) _ hk) fun _ h => T.bind (bv_T h (by omega) _) fun _ h => T.bind (bv_T h (by omega) _) fun _ h => T.bind (bsum_T h (by omega) _ _) fun _ h => T.bind (bv_T h (by omega) _) fun _ h => T.bind (bsum_T h (by omega) _ _) fun _ h => T.bind (bv_T h (by omega) _) fun _ h => T.bind (bsum_T h (by omega) _ _) fun _ h => T.bind (bdone_T h (by omega)) fun t h => ?_
    refine T.bind (bv_T (b := (t.1, t.2.1, [], t.2.2.2)) h (by omega) _) fun _ h => T.bind (bv_T h (by omega) _) fun _ h => T.bind (bv_T h (by omega) _) fun _ h => T.bind (bprod_T h (by omega) _ _) fun _ h => T.bind (bsum_T h (by omega) _ _) fun _ h => T.bind (bv_T h (by omega) _) fun _ h => T.bind (bv_T h (by omega) _) fun _ h => T.bind (bv_T h (by omega) _) fun _ h => T.bind (bsum_T h (by omega) _ _) fun _ h => T.bind (bprod_T h (by omega) _ _) fun _ h => T.bind (bsum_T h (by omega) _ _) fun _ h => T.pure ⟨h.ok, by have := h.w; omega, by have := h.c; omega, by have := h.l; omega⟩
/-- What a gate that may be says of its columns. -/
theorem gate_cols {x : Sy} {g : Gt} {n : Int} (hx : Sz x) (h0 : 0 ≤ n) (h : gE x g n = 0) : (0 ≤ g.2.2.1 ∧ g.2.2.1 < pw x.2.2.1) ∧ (twoB g.1 = true → 0 ≤ g.2.2.2.1 ∧ g.2.2.2.1 < pw x.2.2.1) ∧ (g.1 ≠ 8 → 0 ≤ g.2.1 ∧ g.2.1 < pw x.2.2.1) ∧ (g.1 = 7 → 0 ≤ g.2.2.2.2.1 ∧ g.2.2.2.2.1 < pw x.2.2.1) ∧ (shB g.1 = true → fitB (g.1 - 3) x.1 g.2.2.2.2.1 = true) ∧ 1 ≤ g.1 ∧ g.1 ≤ 8 := by
  obtain ⟨hb, h1⟩ := gE_zero h
  obtain ⟨k1, k2, k3, k4⟩ := gE1_zero h1
  have hm := mkN_rng g.1
  unfold gBad at hb
  have m7 : g.1 = 7 → mkN g.1 = 2 := fun e => by unfold mkN; rw [if_neg (by omega), if_pos e]
  have m8 : g.1 ≠ 8 → 1 ≤ mkN g.1 := fun e => by unfold mkN; rw [if_neg e]; split <;> omega
  refine ⟨by omega, fun e => ?_, fun e => ?_, fun e => ?_, fun e => ?_, by omega⟩
  · have : ¬ (g.2.2.2.1 < 0 ∨ n ≤ g.2.2.2.1) := fun k => k1 (.inr (.inr ⟨e, k⟩))
    omega
  · have := m8 e; omega
  · have := m7 e; omega
  · cases hf : fitB (g.1 - 3) x.1 g.2.2.2.2.1 with
    | true => rfl
    | false => exact absurd ⟨e, hf⟩ k2
theorem bgate_T {x : Sy} {b : Bd} {m : Nat} {g : Gt} {n : Int} (hx : Sz x) (h : BOk x b.1 b.2.1 b.2.2.1 m) (hm : m ≤ 5000) (h0 : 0 ≤ n) (hg : gE x g n = 0) :
    T (fun k => circuit_board_gate_ve6a.f k b x g) (fun r => BOk x r.1 r.2.1 [] (m + 40)) := by
  obtain ⟨hA, hB, hD, hS, hF, hk⟩ := gate_cols hx h0 hg
  have fin : ∀ {ws : List O} {cs : List (List O)} {q : Nat}, BOk x ws cs [] q → q ≤ m + 40 → BOk x ws cs [] (m + 40) := fun h hq => ⟨h.ok, by have := h.w; omega, by have := h.c; omega, Nat.zero_le _⟩
  refine T.eq (circuit_board_gate_ve6a.f_eq · b x g) (T.ite (fun e8 => ?_) (fun e8 => ?_))
  · have e8 : g.1 = 8 := by simpa using e8
    have hb := hB (by unfold twoB; simp [e8])
    refine T.bind (bwire_T h (by omega) _ (okW0 hx hA.1 hA.2)) fun _ h => T.bind (bwire_T h (by omega) _ (okW0 hx hb.1 hb.2)) fun _ h => T.bind (bv_T h (by omega) _) fun _ h => T.bind (bv_T h (by omega) _) fun _ h => T.bind (bsum_T h (by omega) _ _) fun _ h => T.bind (bdone_T h (by omega)) fun t h => T.pure (fin h (by omega))
  have e8 : g.1 ≠ 8 := by simpa using e8
  have hd := hD e8
  refine T.bind (bwire_T h (by omega) _ (okW0 hx hd.1 hd.2)) fun t1 h1 => T.bind (turned_T _) fun tk htk => T.ite (fun ek => ?_) (fun ek => ?_)
  · have hs : shB g.1 = true := by
      cases hs : shB g.1 with
      | true => rfl
      | false => rw [htk, hs] at ek; simp at ek
    have hw : okW x (g.2.2.1, tk, g.2.2.2.2.1, (0, 0, ()), ()) := ⟨hA.1, hA.2, by rw [htk, hs, if_pos rfl]; exact hF hs⟩
    refine T.bind (bwire_T h1 (by omega) _ hw) fun _ h => T.bind (bv_T h (by omega) _) fun _ h => T.bind (bv_T h (by omega) _) fun _ h => T.bind (bsum_T h (by omega) _ _) fun _ h => T.bind (bdone_T h (by omega)) fun t h => T.pure (fin h (by omega))
  refine T.bind (bwire_T h1 (by omega) _ (okW0 hx hA.1 hA.2)) fun t2 h2 => T.ite (fun e3 => ?_) (fun e3 => T.ite (fun e1 => ?_) (fun e1 => T.ite (fun e2 => ?_) (fun e2 => T.ite (fun e7 => ?_) (fun e7 => ?_))))
  · refine T.bind (bv_T h2 (by omega) _) fun _ h => T.bind (bv_T h (by omega) _) fun _ h => T.bind (bsum_T h (by omega) _ _) fun _ h => T.bind (bput_T h (by omega) _) fun _ h => T.bind (bsum_T h (by omega) _ _) fun _ h => T.bind (bdone_T h (by omega)) fun t h => T.pure (fin h (by omega))
  · have hb := hB (by unfold twoB; have : g.1 = 1 := by simpa using e1
                      simp [this])
    refine T.bind (bwire_T h2 (by omega) _ (okW0 hx hb.1 hb.2)) fun _ h => T.bind (bv_T h (by omega) _) fun _ h => T.bind (bv_T h (by omega) _) fun _ h => T.bind (bsum_T h (by omega) _ _) fun _ h => T.bind (bv_T h (by omega) _) fun _ h => T.bind (bsum_T h (by omega) _ _) fun _ h => T.bind (bdone_T h (by omega)) fun t h => T.pure (fin h (by omega))
  · have hb := hB (by unfold twoB; have : g.1 = 2 := by simpa using e2
                      simp [this])
    refine T.bind (bwire_T h2 (by omega) _ (okW0 hx hb.1 hb.2)) fun _ h => T.bind (bv_T h (by omega) _) fun _ h => T.bind (bv_T h (by omega) _) fun _ h => T.bind (bv_T h (by omega) _) fun _ h => T.bind (bprod_T h (by omega) _ _) fun _ h => T.bind (bsum_T h (by omega) _ _) fun _ h => T.bind (bdone_T h (by omega)) fun t h => T.pure (fin h (by omega))
  · have e7 : g.1 = 7 := by simpa using e7
    have hb := hB (by unfold twoB; simp [e7])
    have hs := hS e7
    refine T.bind (badd_T hx h2 (by omega) _ _ hb hs) fun _ h => T.bind (bdone_T h (by omega)) fun t h => T.pure (fin h (by omega))
  · exact T.bind (bdone_T h2 (by omega)) fun t h => T.pure (fin h (by omega))
/-- The gates of a system that may be. -/
def Gok (x : Sy) : List Gt → Int → Prop
  | [], n => 0 ≤ n
  | g :: l, n => 0 ≤ n ∧ gE x g n = 0 ∧ Gok x l (n + mkN g.1)
theorem gok_of {x : Sy} (hx : Sz x) : ∀ (l : List Gt) (n : Int), 0 ≤ n → (gW x l n).2 = 0 → Gok x l n
  | [], n, h0, h => h0
  | g :: l, n, h0, h => by
    simp only [gW] at h
    split at h
    · rename_i hg
      have := mkN_rng g.1
      exact ⟨h0, hg, gok_of hx l _ (by omega) h⟩
    · rename_i hg; exact absurd h hg
theorem chk_ok {x : Sy} (h : (chk x).2 = 0) : Sz x ∧ Gok x (gts x) (x.2.2.2.1 + x.2.2.2.2.1) ∧ (gts x).length ≤ 30 ∧ 0 ≤ x.2.2.2.1 ∧ 0 ≤ x.2.2.2.2.1 ∧ x.2.2.2.1 + x.2.2.2.2.1 ≤ pw x.2.2.1 := by
  unfold chk at h
  split at h
  · cases h
  · rename_i hb
    obtain ⟨hx, h1, h2, h3, h4⟩ := sz_of hb
    split at h
    · cases h
    · exact ⟨hx, gok_of hx _ _ (by omega) h, by omega, h1, h2, h4⟩
theorem lay_T (x : Sy) (hl : (gts x).length ≤ 1000) : T (fun k => circuit_lay.f k x) (fun r => ((chk x).2 ≠ 0 → r = (([], [], [], ()), (chk x).2)) ∧ ((chk x).2 = 0 → (∀ y ∈ r.1.1, okW x y) ∧ r.1.1.length ≤ 2000 ∧ (r.2 = 0 ∨ r.2 = 2) ∧ (r.2 ≠ 0 → r.1.1 = []))) := by
  refine T.eq (circuit_lay.f_eq · x) (T.bind (ccheck_T x hl) fun e he => T.ite (fun h => T.pure ⟨fun _ => by rw [he], fun h0 => ?_⟩) (fun h => ?_))
  · rw [he, h0] at h; cases h
  have h0 : (chk x).2 = 0 := by rw [← he]; simpa using h
  obtain ⟨hx, hg, hl2, _⟩ := chk_ok h0
  refine T.loop0 (σ := List O × List (List O) × Unit × Unit) (f := fun k s i => circuit_lay.l122 k x ((), (), (), ()) s (gts x) ((gts x).length : Int) i) (gts x).length (fun s i => BOk x s.1 s.2.1 [] (40 * i) ∧ ∃ n, Gok x ((gts x).drop i) n) _ ⟨⟨fun y hy => (by cases hy), Nat.zero_le _, Nat.zero_le _, Nat.zero_le _⟩, _, hg⟩ fun s i hi hI ih => ?_
  obtain ⟨hI, n, hn⟩ := hI
  refine T.eq (circuit_lay.l122_eq · x _ s _ _ i) (T.ite (fun h => ?_) (fun h => ?_))
  · have hlt := lt_dec h
    rw [drop_getD (gts x) g0 hlt] at hn
    refine T.yes (inB_nat hlt) (T.bind (bgate_T (b := (s.1, s.2.1, [], s.2.2.2)) (g := (gts x).getD i g0) hx hI (by omega) hn.1 hn.2.1) fun t ht => ?_)
    rw [inc (by omega)]
    exact ih t hlt ⟨by rw [show 40 * (i + 1) = 40 * i + 40 by omega]; exact ht, _, hn.2.2⟩
  · have := nlt_dec h
    refine T.ite (fun _ => T.pure ⟨fun k => absurd h0 k, fun _ => ⟨fun y hy => (by cases hy), Nat.zero_le _, .inr rfl, fun _ => rfl⟩⟩) (fun _ => T.pure ⟨fun k => absurd h0 k, fun _ => ⟨hI.ok, by have := hI.w; show s.1.length ≤ 2000; omega, .inl rfl, fun k => absurd rfl k⟩⟩)
end Go.Proofs.Ytlmcalffemklnaa.H1
namespace Go.Proofs.Ytlmcalffemklnaa.H1
open Go Go.Proofs.Ytlmcalffemklnaa.Rf
theorem p2w {w : Nat} (h : w ≤ 5) : 1 ≤ 2 ^ w ∧ 2 ^ w ≤ 32 := by
  have : 2 ^ w ≤ 2 ^ 5 := Nat.pow_le_pow_right (by decide) h
  have := Nat.two_pow_pos w
  have e : (2 : Nat) ^ 5 = 32 := rfl
  omega
theorem p2n {n : Nat} (h : n ≤ 32) : 1 ≤ 2 ^ n ∧ 2 ^ n ≤ 4294967296 := by
  have : 2 ^ n ≤ 2 ^ 32 := Nat.pow_le_pow_right (by decide) h
  have := Nat.two_pow_pos n
  have e : (2 : Nat) ^ 32 = 4294967296 := rfl
  omega
theorem e64 : (2 : Nat) ^ 64 = 18446744073709551616 := rfl
theorem shl1_u {s : Nat} (h : s ≤ 32) : shlI .u64 1 (s : Int) = ((2 ^ s : Nat) : Int) := by
  have := p2n h
  have k := shl_nat (a := 1) (s := s) (by omega) (by rw [Nat.one_shiftLeft, e64]; omega)
  rw [Nat.one_shiftLeft] at k
  exact k
theorem nat_nlt (n : Nat) : decide ((n : Int) < 0) = false := decide_eq_false (by omega)
theorem most_T {w : Int} (h0 : 0 ≤ w) (h1 : w ≤ 5) : T (fun k => witness_most.f k w) (fun r => r = ((2 ^ 2 ^ w.toNat - 1 : Nat) : Int)) := by
  obtain ⟨w, rfl⟩ := Int.eq_ofNat_of_zero_le h0
  have hw : w ≤ 5 := by omega
  have := p2w hw
  have := p2n (n := 2 ^ w) (by omega)
  refine T.eq (witness_most.f_eq · _) (T.no (by simp) ?_)
  rw [shl1_u (s := w) (by omega), shl1_u (s := 2 ^ w) (by omega)]
  refine T.no (nat_nlt _) (T.pure ?_)
  rw [Int.toNat_natCast, wu_in (by omega) (by omega)]
  omega
def badL (rows : Int) (l : List (List Int)) : Prop := ∃ c ∈ l, ((List.length c : Nat) : Int) ≠ pw rows
def badV (wide : Int) (l : List (List Int)) : Prop := ∃ c ∈ l, ∃ w ∈ c, ((2 ^ 2 ^ wide.toNat : Nat) : Int) ≤ w
open Classical in
/-- What is wrong with so many columns. -/
noncomputable def fitsE (x : Sy) (l : List (List Int)) (many : Int) : Int := if (l.length : Int) ≠ many then 6 else if badL x.2.1 l then 6 else if badV x.1 l then 5 else 0
theorem cf1_T (x : Sy) (l : List Int) (hx : Sz x) (hl : l.length ≤ 100000000) : T (fun k => slices_ContainsFunc_witness_fits_1.f k l x) (fun b => b = true ↔ ∃ w ∈ l, ((2 ^ 2 ^ x.1.toNat : Nat) : Int) ≤ w) := by
  have hpos := Nat.two_pow_pos (2 ^ x.1.toNat)
  refine T.eq (slices_ContainsFunc_witness_fits_1.f_eq · l x) (T.bind (p := fun r => 0 ≤ r ↔ ∃ w ∈ l, ((2 ^ 2 ^ x.1.toNat : Nat) : Int) ≤ w) ?_ fun r hr => T.pure (by simpa using hr))
  refine T.eq (slices_IndexFunc_witness_fits_1.f_eq · l x) ?_
  refine T.loop0 (σ := Unit) (f := fun k _ i => slices_IndexFunc_witness_fits_1.l26 k l x (l.length : Int) i) l.length (fun _ i => ∀ j, j < i → ¬ ((2 ^ 2 ^ x.1.toNat : Nat) : Int) ≤ l.getD j 0) () (fun j h => absurd h (by omega)) fun s i hi hI ih => ?_
  refine T.eq (slices_IndexFunc_witness_fits_1.l26_eq · l x _ _) (T.ite (fun h => ?_) (fun h => ?_))
  · have hlt := lt_dec h
    refine T.yes (inB_nat hlt) (T.bind (p := fun b => b = decide (l.getD i 0 > ((2 ^ 2 ^ x.1.toNat - 1 : Nat) : Int))) (T.eq (witness_fits_1.f_eq · _ x) (T.bind (most_T hx.w0 hx.w1) fun t ht => T.pure (by rw [ht]; rfl))) fun t ht => T.ite (fun hb => T.pure ?_) (fun hb => ?_))
    · rw [ht] at hb
      have hb := of_decide_eq_true hb
      refine ⟨fun _ => ⟨l.getD i 0, ?_, by omega⟩, fun _ => by omega⟩
      rw [List.getD_eq_getElem?_getD, List.getElem?_eq_getElem hlt]; exact List.getElem_mem hlt
    · rw [ht] at hb
      have hb := of_decide_eq_false hb
      rw [inc (by omega)]
      refine ih () hlt fun j hj => ?_
      by_cases e : j = i
      · subst e; omega
      · exact hI j (by omega)
  · have hge := nlt_dec h
    refine T.pure ⟨fun k => absurd k (by omega), fun ⟨w, hw, hle⟩ => ?_⟩
    obtain ⟨j, hj, e⟩ := List.getElem_of_mem hw
    exact absurd (by rw [List.getD_eq_getElem?_getD, List.getElem?_eq_getElem hj]; show _ ≤ l[j]; rw [e]; exact hle) (hI j (by omega))
theorem getD_mem {α : Type} {l : List α} {d : α} {i : Nat} (h : i < l.length) : l.getD i d ∈ l := by
  rw [List.getD_eq_getElem?_getD, List.getElem?_eq_getElem h]; exact List.getElem_mem h
theorem mem_getD {α : Type} {l : List α} {a : α} (d : α) (h : a ∈ l) : ∃ i, i < l.length ∧ l.getD i d = a := by
  obtain ⟨i, hi, e⟩ := List.getElem_of_mem h
  exact ⟨i, hi, by rw [List.getD_eq_getElem?_getD, List.getElem?_eq_getElem hi]; exact e⟩
def fewW (l : List (List Int)) : Prop := l.length ≤ 1000 ∧ ∀ c ∈ l, List.length c ≤ 100000
open Classical in
theorem cfits_T (x : Sy) (l : List (List Int)) (many : Int) (hx : Sz x) (hl : fewW l) : T (fun k => witness_fits.f k x l many) (fun r => r = fitsE x l many) := by
  have hL := hl.1
  refine T.eq (witness_fits.f_eq · x l many) (T.ite (fun h => T.pure ?_) (fun h => ?_))
  · unfold fitsE; rw [if_pos (by simpa using h)]
  have hm : ¬ ((l.length : Int) ≠ many) := by simpa using h
  have e0 : fitsE x l many = if badL x.2.1 l then 6 else if badV x.1 l then 5 else 0 := by unfold fitsE; rw [if_neg hm]
  rw [e0]
  have hc0 : decide (x.2.1 < 0) = false := by have := hx.r0; simpa using this
  have hsh : shlI .i64 1 x.2.1 = pw x.2.1 := shl_pw hx.r0 (by have := hx.r1; omega)
  refine T.loop0 (σ := Unit) (f := fun k _ i => witness_fits.l58 k l x l (l.length : Int) i) l.length (fun _ i => ∀ j, j < i → ((List.length (l.getD j []) : Nat) : Int) = pw x.2.1) () (fun j h => absurd h (by omega)) fun s i hi hI ih => ?_
  refine T.eq (witness_fits.l58_eq · l x l _ _) (T.ite (fun h => ?_) (fun h => ?_))
  · have hlt := lt_dec h
    rw [hsh]
    refine T.yes (inB_nat hlt) (T.no hc0 (T.ite (fun hne => T.pure ?_) (fun he => ?_)))
    · rw [if_pos ⟨l.getD i [], getD_mem hlt, by simpa using hne⟩]
    · rw [inc (by omega)]
      refine ih () hlt fun j hj => ?_
      by_cases e : j = i
      · subst e; simpa using he
      · exact hI j (by omega)
  · have hge := nlt_dec h
    have hnb : ¬ badL x.2.1 l := fun ⟨c, hc, hne⟩ => by
      obtain ⟨j, hj, rfl⟩ := mem_getD [] hc
      exact hne (hI j (by omega))
    rw [if_neg hnb]
    refine T.loop0 (σ := Unit) (f := fun k _ i => witness_fits.l122 k x l (l.length : Int) i) l.length (fun _ i => ∀ j, j < i → ¬ ∃ w ∈ l.getD j [], ((2 ^ 2 ^ x.1.toNat : Nat) : Int) ≤ w) () (fun j h => absurd h (by omega)) fun s i hi hI ih => ?_
    refine T.eq (witness_fits.l122_eq · x l _ _) (T.ite (fun h => ?_) (fun h => ?_))
    · have hlt := lt_dec h
      refine T.yes (inB_nat hlt) (T.bind (cf1_T x (l.getD i []) hx (by have := hl.2 _ (getD_mem (d := []) hlt); omega)) fun t ht => T.ite (fun hb => T.pure ?_) (fun hb => ?_))
      · rw [if_pos ⟨l.getD i [], getD_mem hlt, ht.1 hb⟩]
      · rw [inc (by omega)]
        refine ih () hlt fun j hj => ?_
        by_cases e : j = i
        · subst e; intro k; rw [ht.2 k] at hb; cases hb
        · exact hI j (by omega)
    · have hge := nlt_dec h
      refine T.pure ?_
      rw [if_neg]
      rintro ⟨c, hc, hv⟩
      obtain ⟨j, hj, rfl⟩ := mem_getD [] hc
      exact hI j (by omega) hv
open Classical in
/-- What is wrong with all columns. -/
noncomputable def askE (x : Sy) (l : List (List Int)) : Int := if (chk x).2 ≠ 0 then (chk x).2 else fitsE x l (pw x.2.2.1)
theorem wask_T (x : Sy) (l : List (List Int)) (h1 : (gts x).length ≤ 1000) (hl : fewW l) : T (fun k => witness_ask.f k x l) (fun r => r = askE x l) := by
  refine T.eq (witness_ask.f_eq · x l) (T.bind (ccheck_T x h1) fun t ht => T.ite (fun h => T.pure ?_) (fun h => ?_))
  · unfold askE; rw [if_pos (by rw [← ht]; simpa using h), ht]
  · have h0 : (chk x).2 = 0 := by rw [← ht]; simpa using h
    have hx := (chk_ok h0).1
    rw [shl_pw hx.c0 hx.c1]
    refine T.no (by have := hx.c0; simpa using this) (T.bind (cfits_T x l _ hx hl) fun r hr => T.pure ?_)
    unfold askE; rw [if_neg (by rw [h0]; simp)]; exact hr
def rngW (l : List (List Int)) : Prop := ∀ c ∈ l, ∀ w ∈ c, rng w
end Go.Proofs.Ytlmcalffemklnaa.H1
namespace Go.Proofs.Ytlmcalffemklnaa.H1
open Go Go.Proofs.Ytlmcalffemklnaa.Rf
/-- A bit of a word turned. -/
def sb (n : Nat) (kind : Int) (s : Nat) (f : Nat → Bool) (i : Nat) : Bool :=
  if kind = 1 then decide (s ≤ i) && f (i - s) else if kind = 2 then f (i + s) else if kind = 3 then f ((i + n - s) % n) else f i
theorem fitB_spec {k w s : Int} (h : fitB k w s = true) : 0 ≤ k ∧ k ≤ 3 ∧ 0 ≤ w ∧ w ≤ 6 ∧ 0 ≤ s ∧ s < pw w ∧ (k ≠ 0 ∨ s = 0) := by
  unfold fitB at h
  simp only [Bool.and_eq_true, decide_eq_true_eq, Bool.or_eq_true, bne_iff_ne, beq_iff_eq] at h
  obtain ⟨⟨⟨⟨⟨⟨a, b⟩, c⟩, d⟩, e⟩, f⟩, g⟩ := h
  exact ⟨a, b, c, d, e, f, g⟩
theorem mod_back {n s i : Nat} (hs : s < n) (hi : i < n) : (i + n - s) % n = if s ≤ i then i - s else i + n - s := by
  split
  · rw [show i + n - s = (i - s) + n by omega, Nat.add_mod_right, Nat.mod_eq_of_lt (by omega)]
  · rw [Nat.mod_eq_of_lt (by omega)]
theorem bit_eq {w i : Nat} (hw : w < 2 ^ 64) (hi : i ≤ 64) : (andI .u64 (shrI .u64 (w : Int) (i : Int)) 1 == 1) = w.testBit i := by
  have h1 : w >>> i < 2 ^ 64 := Nat.lt_of_le_of_lt (Nat.shiftRight_le w i) hw
  rw [shr_nat hi, show (1 : Int) = ((1 : Nat) : Int) from rfl, and_nat h1 (by decide), Nat.testBit_eq_decide_div_mod_eq, ← Nat.shiftRight_eq_div_pow, Nat.and_one_is_mod]
  rcases Nat.mod_two_eq_zero_or_one (w >>> i) with k | k <;> rw [k] <;> decide
theorem lt_bit {n w i : Nat} (hw : w < 2 ^ n) (hi : n ≤ i) : w.testBit i = false := Nat.testBit_lt_two_pow (Nat.lt_of_lt_of_le hw (Nat.pow_le_pow_right (by decide) hi))
theorem and_most {m n i : Nat} : (m &&& (2 ^ n - 1)).testBit i = (m.testBit i && decide (i < n)) := by rw [Nat.testBit_and, Nat.testBit_two_pow_sub_one]
theorem shifted_T {kind wide s : Int} {w : Nat} (h0 : 0 ≤ wide) (h1 : wide ≤ 5) (hf : fitB kind wide s = true) (hw : w < 2 ^ 2 ^ wide.toNat) :
    T (fun k => witness_shifted.f k kind wide s (w : Int)) (fun r => ∃ m : Nat, r = (m : Int) ∧ m < 2 ^ 2 ^ wide.toNat ∧ ∀ i, i < 2 ^ wide.toNat → m.testBit i = sb (2 ^ wide.toNat) kind s.toNat w.testBit i) := by
  obtain ⟨k0, k3, _, _, s0, s1, s2⟩ := fitB_spec hf
  obtain ⟨wd, rfl⟩ := Int.eq_ofNat_of_zero_le h0
  obtain ⟨s, rfl⟩ := Int.eq_ofNat_of_zero_le s0
  have hwd : wd ≤ 5 := by omega
  obtain ⟨n, hn⟩ : ∃ n, n = 2 ^ wd := ⟨_, rfl⟩
  have hn1 := p2w hwd
  have hm := most_T h0 h1
  simp only [Int.toNat_natCast] at hw hm ⊢
  have e1 : pw (wd : Int) = (n : Int) := by rw [hn]; rfl
  rw [e1] at s1
  have hsh : shlI .i64 1 (wd : Int) = (n : Int) := by rw [hn]; exact shl_pow (by omega)
  rw [← hn] at hw hm hn1 ⊢
  have hs : s < n := by omega
  have hp := p2n (n := n) (by omega)
  have hps := p2n (n := s) (by omega)
  have hN : 2 ^ n - 1 < 2 ^ 64 := by rw [e64]; omega
  have hw64 : w < 2 ^ 64 := by rw [e64]; omega
  have hshl : w <<< s < 2 ^ 64 := by
    rw [Nat.shiftLeft_eq]
    have : w * 2 ^ s < 2 ^ n * 2 ^ s := Nat.mul_lt_mul_of_pos_right hw (Nat.two_pow_pos s)
    have : 2 ^ n * 2 ^ s = 2 ^ (n + s) := (Nat.pow_add 2 n s).symm
    have : 2 ^ (n + s) ≤ 2 ^ 64 := Nat.pow_le_pow_right (by decide) (by omega)
    omega
  refine T.eq (witness_shifted.f_eq · _ _ _ _) (T.no (nat_nlt wd) (T.ite (fun hk => T.no (nat_nlt s) ?_) (fun hk1 => T.ite (fun hk => T.no (nat_nlt s) ?_) (fun hk2 => T.ite (fun hk => T.no (nat_nlt s) ?_) (fun hk3 => T.pure ?_)))))
  · have hk : kind = 1 := by simpa using hk
    refine T.bind hm fun t ht => T.pure ?_
    rw [ht, shl_nat (by omega) hshl, and_nat hshl hN]
    refine ⟨_, rfl, ?_, fun i hi => ?_⟩
    · have := Nat.and_le_right (n := w <<< s) (m := 2 ^ n - 1); omega
    · rw [and_most, Nat.testBit_shiftLeft]
      unfold sb; rw [if_pos hk]; simp [hi]
  · have hk : kind = 2 := by simpa using hk
    rw [shr_nat (by omega)]
    refine T.pure ⟨_, rfl, Nat.lt_of_le_of_lt (Nat.shiftRight_le w s) hw, fun i hi => ?_⟩
    rw [Nat.testBit_shiftRight]
    unfold sb; rw [if_neg (by omega), if_pos hk, Nat.add_comm]
  · have hk : kind = 3 := by simpa using hk
    rw [hsh, w64_in (by omega) (by omega), show (n : Int) - (s : Int) = ((n - s : Nat) : Int) by omega]
    refine T.no (nat_nlt _) (T.bind hm fun t ht => T.pure ?_)
    have h2 : w >>> (n - s) < 2 ^ 64 := Nat.lt_of_le_of_lt (Nat.shiftRight_le w _) hw64
    rw [ht, shl_nat (by omega) hshl, shr_nat (by omega), or_nat hshl h2, and_nat (Nat.or_lt_two_pow hshl h2) hN]
    refine ⟨_, rfl, ?_, fun i hi => ?_⟩
    · have := Nat.and_le_right (n := w <<< s ||| w >>> (n - s)) (m := 2 ^ n - 1); omega
    · rw [and_most, Nat.testBit_or, Nat.testBit_shiftLeft, Nat.testBit_shiftRight]
      unfold sb; rw [if_neg (by omega), if_neg (by omega), if_pos hk, mod_back hs hi]
      split
      · rename_i hle
        rw [lt_bit hw (show n ≤ n - s + i by omega)]; simp [hle, hi]
      · rename_i hle
        rw [show n - s + i = i + n - s by omega]; simp [hle, hi]
  · refine ⟨w, rfl, hw, fun i hi => ?_⟩
    have g1 : kind ≠ 1 := by simpa using hk1
    have g2 : kind ≠ 2 := by simpa using hk2
    have g3 : kind ≠ 3 := by simpa using hk3
    unfold sb; rw [if_neg g1, if_neg g2, if_neg g3]
def bitsL (n : Nat) (f : Nat → Bool) : List Bool := (List.range n).map f
theorem bitsL_len (n : Nat) (f : Nat → Bool) : (bitsL n f).length = n := by simp [bitsL]
theorem bitsL_at {n i : Nat} (f : Nat → Bool) (h : i < n) : (bitsL n f).getD i false = f i := by
  unfold bitsL
  rw [List.getD_eq_getElem?_getD, List.getElem?_map, List.getElem?_range h]; rfl
theorem bitsL_succ (n : Nat) (f : Nat → Bool) : bitsL (n + 1) f = bitsL n f ++ [f n] := by simp [bitsL, List.range_succ]
end Go.Proofs.Ytlmcalffemklnaa.H1
namespace Go.Proofs.Ytlmcalffemklnaa.H1
open Go Go.Proofs.Ytlmcalffemklnaa.Rf
def wireL (x : Sy) (col : List Int) (kind s : Int) : List Bool := col.flatMap fun w => bitsL (2 ^ x.1.toNat) (sb (2 ^ x.1.toNat) kind s.toNat w.toNat.testBit)
theorem flat_take {α β : Type} (l : List α) (d : α) (f : α → List β) {i : Nat} (h : i < l.length) : (l.take (i + 1)).flatMap f = (l.take i).flatMap f ++ f (l.getD i d) := by
  rw [take_snoc l d h, List.flatMap_append]; simp
theorem flat_len {α : Type} {f : α → List Bool} {n : Nat} : ∀ (l : List α), (∀ a, (f a).length = n) → (l.flatMap f).length = l.length * n
  | [], _ => by simp
  | a :: l, h => by rw [List.flatMap_cons, List.length_append, h a, flat_len l h, List.length_cons, Nat.succ_mul]; omega
/-- Words that are words. -/
def okWd (x : Sy) (c : List Int) : Prop := ∀ w ∈ c, 0 ≤ w ∧ w.toNat < 2 ^ 2 ^ x.1.toNat
theorem okWd_of {x : Sy} {l : List (List Int)} (hr : rngW l) (hv : ¬ badV x.1 l) {c : List Int} (hc : c ∈ l) : okWd x c := fun w hw => by
  have h1 := hr c hc w hw
  have h2 : ¬ ((2 ^ 2 ^ x.1.toNat : Nat) : Int) ≤ w := fun k => hv ⟨c, hc, w, hw, k⟩
  exact ⟨h1.1, by have := h1.1; omega⟩
theorem fits_zero {x : Sy} {l : List (List Int)} {many : Int} (h : fitsE x l many = 0) : (l.length : Int) = many ∧ ¬ badL x.2.1 l ∧ ¬ badV x.1 l := by
  unfold fitsE at h
  split at h
  · omega
  rename_i h1
  split at h
  · omega
  rename_i h2
  split at h
  · omega
  rename_i h3
  exact ⟨by omega, h2, h3⟩
theorem ask_zero {x : Sy} {l : List (List Int)} (h : askE x l = 0) : (chk x).2 = 0 ∧ fitsE x l (pw x.2.2.1) = 0 := by
  unfold askE at h
  split at h
  · rename_i k; exact absurd h k
  · rename_i k; exact ⟨by omega, h⟩
open Classical in
noncomputable def wireE (x : Sy) (l : List (List Int)) (c : O) : List Bool × Int :=
  if askE x l ≠ 0 then ([], askE x l) else if c.1 < 0 ∨ (l.length : Int) ≤ c.1 then ([], 4) else if fitB c.2.1 x.1 c.2.2.1 = false then ([], 1) else (wireL x (l.getD c.1.toNat []) c.2.1 c.2.2.1, 0)
theorem cwire_T (x : Sy) (l : List (List Int)) (c : O) (h1 : (gts x).length ≤ 1000) (hl : fewW l) (hr : rngW l) : T (fun k => witness_Wire.f k x l c) (fun r => r = wireE x l c) := by
  unfold wireE
  refine T.eq (witness_Wire.f_eq · x l c) (T.bind (wask_T x l h1 hl) fun t ht => T.ite (fun h => T.pure ?_) (fun h => ?_))
  · rw [if_pos (by rw [← ht]; simpa using h), ht]
  have h0 : askE x l = 0 := by rw [← ht]; simpa using h
  obtain ⟨hc, hf⟩ := ask_zero h0
  have hx := (chk_ok hc).1
  obtain ⟨f1, f2, f3⟩ := fits_zero hf
  rw [if_neg (by rw [h0]; simp)]
  refine T.ite (fun h => T.pure ?_) (fun hb => T.ite (fun h => T.pure ?_) (fun hb2 => ?_))
  · rw [if_pos (.inl (by simpa using h))]
  · rw [if_pos (.inr (by simpa using h))]
  have hb : ¬ c.1 < 0 := of_decide_eq_false hb
  have hb2 : ¬ c.1 ≥ (l.length : Int) := of_decide_eq_false hb2
  rw [if_neg (by omega)]
  refine T.bind (tfits_T _ _ _) fun t ht => T.ite (fun h => T.pure ?_) (fun h => ?_)
  · rw [if_pos (by rw [← ht]; simpa using h)]
  have hfit : fitB c.2.1 x.1 c.2.2.1 = true := by rw [← ht]; simpa using h
  rw [if_neg (by rw [hfit]; simp)]
  refine T.yes (inB_int (by omega) (by omega)) ?_
  have hmem : l.getD c.1.toNat [] ∈ l := getD_mem (by omega)
  have hok := okWd_of (x := x) hr f3 hmem
  have hcl := hl.2 _ hmem
  obtain ⟨col, hcol⟩ : ∃ col, col = l.getD c.1.toNat [] := ⟨_, rfl⟩
  rw [← hcol] at hok hcl ⊢
  have hn := p2w (w := x.1.toNat) (by have := hx.w0; have := hx.w1; omega)
  have hsh : shlI .i64 1 x.1 = ((2 ^ x.1.toNat : Nat) : Int) := shl_pw hx.w0 (by have := hx.w1; omega)
  have hsh2 := fun (w : Nat) (hw : w < 2 ^ 2 ^ x.1.toNat) => shifted_T (kind := c.2.1) (s := c.2.2.1) hx.w0 hx.w1 hfit hw
  have hwire : ∀ i, i < col.length → wireL x (col.take (i + 1)) c.2.1 c.2.2.1 = wireL x (col.take i) c.2.1 c.2.2.1 ++ bitsL (2 ^ x.1.toNat) (sb (2 ^ x.1.toNat) c.2.1 c.2.2.1.toNat (col.getD i 0).toNat.testBit) := fun i hi => flat_take col 0 _ hi
  have hwl : ∀ i, (wireL x (col.take i) c.2.1 c.2.2.1).length ≤ 100000 * 32 := fun i => by
    unfold wireL
    rw [flat_len (n := 2 ^ x.1.toNat) _ fun _ => bitsL_len _ _, List.length_take]
    exact Nat.mul_le_mul (by omega) (by omega)
  have e64' := e64
  have hN := p2n (n := 2 ^ x.1.toNat) (by omega)
  refine T.loop0 (σ := List Bool) (f := fun k s i => witness_Wire.l250 k x c s col (List.length col : Int) i) col.length (fun s i => s = wireL x (col.take i) c.2.1 c.2.2.1) [] rfl fun s i hi hI ih => ?_
  refine T.eq (witness_Wire.l250_eq · x c s col _ i) (T.ite (fun h => ?_) (fun h => ?_))
  · have hlt : i < col.length := by simpa using h
    obtain ⟨w0, w1⟩ := hok _ (getD_mem (d := 0) hlt)
    obtain ⟨w, hw⟩ := Int.eq_ofNat_of_zero_le w0
    have hw1 : w < 2 ^ 2 ^ x.1.toNat := by rw [hw] at w1; simpa using w1
    refine T.yes (inB_nat hlt) ?_
    simp only [Int.toNat_natCast]
    rw [hw]
    refine T.bind (hsh2 w hw1) fun r hr => T.no (by have := hx.w0; simpa using this) ?_
    obtain ⟨m, rfl, hm, hbit⟩ := hr
    have hm64 : m < 2 ^ 64 := by omega
    rw [hsh]
    refine T.loop0 (σ := List Bool) (f := fun k t j => witness_Wire.l128206 k x c t (m : Int) col (List.length col : Int) (i : Int) ((2 ^ x.1.toNat : Nat) : Int) j) (2 ^ x.1.toNat) (fun t j => t = s ++ bitsL j m.testBit) s (by simp [bitsL]) fun t j hj hJ ih2 => ?_
    refine T.eq (witness_Wire.l128206_eq · x c t _ _ _ _ _ j) (T.ite (fun h => ?_) (fun h => ?_))
    · have hjl := lt_dec h
      refine T.no (nat_nlt j) (T.yes (room_ok ?_) ?_)
      · rw [hJ, List.length_append, bitsL_len, hI]; have := hwl i; simp only [List.length_cons, List.length_nil]; omega
      · rw [bit_eq hm64 (by omega), inc (by omega)]
        exact ih2 _ hjl (by rw [hJ, bitsL_succ, List.append_assoc])
    · have hjl := nlt_dec h
      have hje : j = 2 ^ x.1.toNat := by omega
      rw [inc (by omega)]
      refine ih _ hlt ?_
      rw [hwire i hlt, hJ, hI, hje]
      congr 1
      rw [hw]
      exact List.map_congr_left fun q hq => hbit q (List.mem_range.1 hq)
  · have hge : col.length ≤ i := by simpa using h
    refine T.pure ?_
    rw [hI, List.take_of_length_le hge]
def toE (b : Bool) : E := if b then (0, 1, ()) else z
theorem tables_T (x : Sy) (l : List (List Int)) (h1 : (gts x).length ≤ 1000) (hl : fewW l) (hr : rngW l) {W : List O × Int} (hW : Ev (fun k => circuit_Wires.f k x) W) (hlen : W.1.length ≤ 2000) :
    T (fun k => witness_Tables.f k x l) (fun r => (askE x l ≠ 0 → r = ([], askE x l)) ∧ (askE x l = 0 → W.2 ≠ 0 → r = ([], W.2)) ∧ (askE x l = 0 → W.2 = 0 → r = (W.1.map fun c => (wireE x l c).1.map toE, 0))) := by
  refine T.eq (witness_Tables.f_eq · x l) (T.bind (wask_T x l h1 hl) fun t ht => T.ite (fun h => T.pure ?_) (fun h => T.bind (Ev.T hW) fun V hV => T.ite (fun h2 => T.pure ?_) (fun h2 => ?_)))
  · have hne : askE x l ≠ 0 := by rw [← ht]; simpa using h
    exact ⟨fun _ => by rw [ht], fun k => absurd k hne, fun k => absurd k hne⟩
  · have h0 : askE x l = 0 := by rw [← ht]; simpa using h
    subst hV
    have hne : V.2 ≠ 0 := by simpa using h2
    exact ⟨fun k => absurd h0 k, fun _ _ => rfl, fun _ k => absurd k hne⟩
  have h0 : askE x l = 0 := by rw [← ht]; simpa using h
  subst hV
  have hz : V.2 = 0 := by simpa using h2
  obtain ⟨hc, hf⟩ := ask_zero h0
  have hx := (chk_ok hc).1
  have hn := p2w (w := x.1.toNat) (by have := hx.w0; have := hx.w1; omega)
  have hwl : ∀ c : O, (wireE x l c).1.length ≤ 100000 * 32 := fun c => by
    unfold wireE
    rw [if_neg (by rw [h0]; simp)]
    split
    · simp
    split
    · simp
    · rename_i h3 _
      show (wireL x (l.getD c.1.toNat []) c.2.1 c.2.2.1).length ≤ _
      unfold wireL
      rw [flat_len (n := 2 ^ x.1.toNat) _ fun _ => bitsL_len _ _]
      exact Nat.mul_le_mul (hl.2 _ (getD_mem (by omega))) (by omega)
  refine T.loop0 (σ := List (List E)) (f := fun k s i => witness_Tables.l506 k l x s V.1 (V.1.length : Int) i) V.1.length (fun s i => s = (V.1.take i).map fun c => (wireE x l c).1.map toE) [] rfl fun s i hi hI ih => ?_
  refine T.eq (witness_Tables.l506_eq · l x s _ _ i) (T.ite (fun h => ?_) (fun h => ?_))
  · have hlt := lt_dec h
    refine T.yes (inB_nat hlt) (T.bind (cwire_T x l (V.1.getD i zo) h1 hl hr) fun t ht => ?_)
    subst ht
    have hb := hwl (V.1.getD i zo)
    obtain ⟨bs, hbs⟩ : ∃ bs, bs = (wireE x l (V.1.getD i zo)).1 := ⟨_, rfl⟩
    rw [← hbs] at hb ⊢
    refine T.yes (by unfold makeB room; simp; omega) ?_
    simp only [Int.toNat_natCast]
    refine T.loop0 (σ := List E) (f := fun k t j => witness_Tables.l1037114 k l x s bs t V.1 (V.1.length : Int) (i : Int) (bs.length : Int) j) bs.length (fun t j => t.length = bs.length ∧ ∀ q, q < bs.length → t.getD q z = if q < j then toE (bs.getD q false) else z) _ ⟨by simp, fun q hq => ?_⟩ fun t j hj hJ ih2 => ?_
    · rw [if_neg (by omega), List.getD_eq_getElem?_getD, List.getElem?_replicate, if_pos hq]; rfl
    obtain ⟨hJ1, hJ2⟩ := hJ
    refine T.eq (witness_Tables.l1037114_eq · l x s bs t _ _ _ _ j) (T.ite (fun h => ?_) (fun h => ?_))
    · have hjl := lt_dec h
      rw [inc (by omega)]
      refine T.yes (inB_nat hjl) (T.ite (fun hb1 => T.yes (inB_nat (by omega)) (ih2 _ hjl ⟨by simp [hJ1], fun q hq => ?_⟩)) (fun hb0 => ih2 _ hjl ⟨hJ1, fun q hq => ?_⟩))
      · simp only [Int.toNat_natCast] at hb1 ⊢
        rw [set_get _ _ _ _ _ (by omega)]
        by_cases e : q = j
        · subst e
          rw [if_pos rfl, if_pos (by omega), hb1, show (t.getD q (0, 0, ())) = t.getD q z from rfl, hJ2 q hq, if_neg (by omega)]; rfl
        · rw [if_neg e, hJ2 q hq]
          by_cases e2 : q < j
          · rw [if_pos e2, if_pos (by omega)]
          · rw [if_neg e2, if_neg (by omega)]
      · simp only [Int.toNat_natCast] at hb0
        rw [hJ2 q hq]
        by_cases e : q = j
        · subst e; rw [if_neg (by omega), if_pos (by omega), hb0]; rfl
        · by_cases e2 : q < j
          · rw [if_pos e2, if_pos (by omega)]
          · rw [if_neg e2, if_neg (by omega)]
    · have hjl := nlt_dec h
      rw [inc (by omega)]
      refine T.yes (room_ok ?_) (ih _ hlt ?_)
      · rw [hI, List.length_map, List.length_take]; simp only [List.length_cons, List.length_nil]; omega
      · rw [take_snoc _ zo hlt, List.map_append, hI]
        congr 1
        simp only [List.map_cons, List.map_nil]
        rw [← hbs]
        congr 1
        refine list_eq z (by rw [List.length_map]; exact hJ1) fun q hq => ?_
        rw [List.length_map] at hq
        rw [hJ2 q hq, if_pos (by omega)]
        simp [List.getD_eq_getElem?_getD, List.getElem?_map, List.getElem?_eq_getElem hq]
  · have hge := nlt_dec h
    refine T.pure ⟨fun k => absurd h0 k, fun _ k => absurd hz k, fun _ _ => ?_⟩
    rw [hI, List.take_of_length_le hge]
end Go.Proofs.Ytlmcalffemklnaa.H1
namespace Go.Proofs.Ytlmcalffemklnaa.H1
open Go Go.Proofs.Ytlmcalffemklnaa.Rf
theorem words_T (l : List (List Int)) (most long : Int) (hm : most ≤ 1000) (hlg : long ≤ 100000) : T (fun k => steeplelaw27_words.f k l most long) (fun b => b = true → fewW l ∧ (l.length : Int) ≤ most ∧ ∀ c ∈ l, ((List.length c : Nat) : Int) ≤ long) := by
  refine T.eq (steeplelaw27_words.f_eq · l most long) (T.ite (fun h => T.pure fun h => by cases h) (fun h => ?_))
  have hl : ¬ (l.length : Int) > most := of_decide_eq_false h
  refine T.loop0 (σ := Unit) (f := fun k _ i => steeplelaw27_words.l58 k l long i) l.length (fun _ i => ∀ j, j < i → ((List.length (l.getD j []) : Nat) : Int) ≤ long) () (fun j h => absurd h (by omega)) fun s i hi hI ih => ?_
  refine T.eq (steeplelaw27_words.l58_eq · l long i) (T.ite (fun h => ?_) (fun h => ?_))
  · have hlt := lt_dec h
    refine T.yes (inB_nat hlt) (T.ite (fun h => T.pure fun h => by cases h) (fun h => ?_))
    have hc : ¬ ((List.length (l.getD i []) : Nat) : Int) > long := of_decide_eq_false h
    rw [inc (by omega)]
    refine ih () hlt fun j hj => ?_
    by_cases e : j = i
    · subst e; omega
    · exact hI j (by omega)
  · have hge := nlt_dec h
    have hall : ∀ c ∈ l, ((List.length c : Nat) : Int) ≤ long := fun c hc => by
      obtain ⟨j, hj, rfl⟩ := mem_getD [] hc
      exact hI j (by omega)
    exact T.pure fun _ => ⟨⟨by omega, fun c hc => by have := hall c hc; omega⟩, by omega, hall⟩
theorem awake27_ev (k : Nat) : steeplelaw27_awake.f (k + 100) = some true := by kernel_rfl
theorem awake27_T : T (fun k => steeplelaw27_awake.f k) (fun b => b = true) := ⟨true, rfl, 100, fun k hk => by obtain ⟨j, rfl⟩ := Nat.exists_eq_add_of_le hk; rw [Nat.add_comm]; exact awake27_ev j⟩
theorem toE_at (b : List Bool) {j : Nat} (h : j < b.length) : (b.map toE).getD j z = toE (b.getD j false) := by simp [List.getD_eq_getElem?_getD, List.getElem?_map, List.getElem?_eq_getElem h]
end Go.Proofs.Ytlmcalffemklnaa.H1
namespace Go.Proofs.Ytlmcalffemklnaa.H1
open Go Go.Proofs.Ytlmcalffemklnaa.Rf
abbrev TUUs : Ty := .sl false (.sl false U)
theorem rng_of {n : Int} (h : (Lit.int .u64 n).wf = true) : rng n := by
  simp [Lit.wf, IntKind.min, IntKind.max, IntKind.signed, IntKind.bits] at h
  exact ⟨by omega, by omega⟩
theorem rngW_of {l : List (List Int)} (h : okD TUUs l) : rngW l := fun c hc w hw => rng_of ((h.2 c hc).2 w hw)
end Go.Proofs.Ytlmcalffemklnaa.H1
namespace Go.Proofs.Ytlmcalffemklnaa.H1
open Go Go.Proofs.Ytlmcalffemklnaa.Rf
/-- A bit of what a gate makes of two words. -/
def mbit (n : Nat) (g : Gt) (a b : Nat) (y : Nat) : Bool :=
  if g.1 = 1 then a.testBit y ^^ b.testBit y else if g.1 = 2 then a.testBit y && b.testBit y else if g.1 = 3 then !a.testBit y
  else if g.1 = 7 then (a + b).testBit y else sb n (g.1 - 3) g.2.2.2.2.1.toNat a.testBit y
def mcar (a b : Nat) : Nat := ((a + b) ^^^ a ^^^ b) >>> 1
theorem mcar_lt {a b n : Nat} (ha : a < 2 ^ n) (hb : b < 2 ^ n) : mcar a b < 2 ^ n := by
  have h1 : a + b < 2 ^ (n + 1) := by rw [Nat.pow_succ]; omega
  have ha' : a < 2 ^ (n + 1) := by rw [Nat.pow_succ]; omega
  have hb' : b < 2 ^ (n + 1) := by rw [Nat.pow_succ]; omega
  have h2 : (a + b) ^^^ a ^^^ b < 2 ^ (n + 1) := Nat.xor_lt_two_pow (Nat.xor_lt_two_pow h1 ha') hb'
  unfold mcar
  rw [Nat.shiftRight_eq_div_pow, Nat.pow_one]
  rw [Nat.pow_succ] at h2
  omega
theorem made_T (x : Sy) (g : Gt) (a b : Nat) (hx : Sz x) (hk : 1 ≤ g.1 ∧ g.1 ≤ 7) (hf : shB g.1 = true → fitB (g.1 - 3) x.1 g.2.2.2.2.1 = true) (ha : a < 2 ^ 2 ^ x.1.toNat) (hb : b < 2 ^ 2 ^ x.1.toNat) :
    T (fun k => witness_made.f k x g (a : Int) (b : Int)) (fun r => (∃ m : Nat, r.1 = (m : Int) ∧ m < 2 ^ 2 ^ x.1.toNat ∧ ∀ y, y < 2 ^ x.1.toNat → m.testBit y = mbit (2 ^ x.1.toNat) g a b y) ∧ (g.1 = 7 → r.2 = ((mcar a b : Nat) : Int))) := by
  have hn1 := p2w (w := x.1.toNat) (by have := hx.w0; have := hx.w1; omega)
  have hp := p2n (n := 2 ^ x.1.toNat) (by omega)
  have hm := most_T hx.w0 hx.w1
  have hsh := fun (kd : Int) (hfit : fitB kd x.1 g.2.2.2.2.1 = true) => shifted_T (kind := kd) (s := g.2.2.2.2.1) hx.w0 hx.w1 hfit ha
  obtain ⟨n, hn⟩ : ∃ n, n = 2 ^ x.1.toNat := ⟨_, rfl⟩
  rw [← hn] at ha hb hn1 hp hm hsh ⊢
  have e64' := e64
  have ha64 : a < 2 ^ 64 := by omega
  have hb64 : b < 2 ^ 64 := by omega
  have hN : 2 ^ n - 1 < 2 ^ 64 := by omega
  refine T.eq (witness_made.f_eq · _ _ _ _) (T.ite (fun h => T.pure ⟨?_, fun e => ?_⟩) (fun h1 => T.ite (fun h => T.pure ⟨?_, fun e => ?_⟩) (fun h2 => T.ite (fun h => T.bind hm fun t ht => T.pure ⟨?_, fun e => ?_⟩) (fun h3 => T.ite (fun h => ?_) (fun h4 => T.ite (fun h => ?_) (fun h5 => T.ite (fun h => ?_) (fun h6 => T.ite (fun h => T.bind hm fun t ht => T.no (by decide) (T.pure ⟨?_, fun e => ?_⟩)) (fun h7 => ?_))))))))
  · have h : g.1 = 1 := by simpa using h
    rw [xor_nat ha64 hb64]
    exact ⟨_, rfl, Nat.xor_lt_two_pow ha hb, fun y _ => by rw [Nat.testBit_xor]; unfold mbit; rw [if_pos h]⟩
  · have h : g.1 = 1 := by simpa using h
    omega
  · have h : g.1 = 2 := by simpa using h
    rw [and_nat ha64 hb64]
    exact ⟨_, rfl, Nat.lt_of_le_of_lt Nat.and_le_left ha, fun y _ => by rw [Nat.testBit_and]; unfold mbit; rw [if_neg (by omega), if_pos h]⟩
  · have h : g.1 = 2 := by simpa using h
    omega
  · have h : g.1 = 3 := by simpa using h
    rw [ht, xor_nat ha64 hN]
    refine ⟨_, rfl, Nat.xor_lt_two_pow ha (by omega), fun y hy => ?_⟩
    rw [Nat.testBit_xor, Nat.testBit_two_pow_sub_one]; unfold mbit; rw [if_neg (by omega), if_neg (by omega), if_pos h]; simp [hy]
  · have h : g.1 = 3 := by simpa using h
    omega
  · have h : g.1 = 4 := by simpa using h
    refine T.bind (hsh 1 (by have := hf (by unfold shB; simp; omega); rw [h] at this; exact this)) fun r hr => T.pure ⟨?_, fun e => by omega⟩
    obtain ⟨m, e1, e2, e3⟩ := hr
    exact ⟨m, e1, e2, fun y hy => by rw [e3 y hy]; unfold mbit; rw [if_neg (by omega), if_neg (by omega), if_neg (by omega), if_neg (by omega), h]; rfl⟩
  · have h : g.1 = 5 := by simpa using h
    refine T.bind (hsh 2 (by have := hf (by unfold shB; simp; omega); rw [h] at this; exact this)) fun r hr => T.pure ⟨?_, fun e => by omega⟩
    obtain ⟨m, e1, e2, e3⟩ := hr
    exact ⟨m, e1, e2, fun y hy => by rw [e3 y hy]; unfold mbit; rw [if_neg (by omega), if_neg (by omega), if_neg (by omega), if_neg (by omega), h]; rfl⟩
  · have h : g.1 = 6 := by simpa using h
    refine T.bind (hsh 3 (by have := hf (by unfold shB; simp; omega); rw [h] at this; exact this)) fun r hr => T.pure ⟨?_, fun e => by omega⟩
    obtain ⟨m, e1, e2, e3⟩ := hr
    exact ⟨m, e1, e2, fun y hy => by rw [e3 y hy]; unfold mbit; rw [if_neg (by omega), if_neg (by omega), if_neg (by omega), if_neg (by omega), h]; rfl⟩
  · have h : g.1 = 7 := by simpa using h
    have hab : a + b < 2 ^ 64 := by omega
    rw [ht, wu_in (n := (a : Int) + b) (by omega) (by omega), show (a : Int) + b = ((a + b : Nat) : Int) by omega, and_nat hab hN]
    refine ⟨_, rfl, by have := Nat.and_le_right (n := a + b) (m := 2 ^ n - 1); omega, fun y hy => ?_⟩
    rw [and_most]; unfold mbit; rw [if_neg (by omega), if_neg (by omega), if_neg (by omega), if_pos h]; simp [hy]
  · have hab : a + b < 2 ^ 64 := by omega
    rw [wu_in (n := (a : Int) + b) (by omega) (by omega), show (a : Int) + b = ((a + b : Nat) : Int) by omega, xor_nat hab ha64, xor_nat (Nat.xor_lt_two_pow hab ha64) hb64]
    exact shr_nat (s := 1) (by omega)
  · simp only [beq_eq_false_iff_ne] at h1 h2 h3 h4 h5 h6 h7
    omega
/-- A word of a column. -/
def wd (l : List (List Int)) (c : Int) (i : Nat) : Nat := ((l.getD c.toNat []).getD i 0).toNat
/-- Whether a gate holds, bit by bit. -/
def HG (x : Sy) (l : List (List Int)) (g : Gt) : Prop :=
  ∀ i, i < 2 ^ x.2.1.toNat → ∀ y, y < 2 ^ x.1.toNat →
    if g.1 = 8 then (wd l g.2.2.1 i).testBit y = (wd l g.2.2.2.1 i).testBit y
    else (wd l g.2.1 i).testBit y = mbit (2 ^ x.1.toNat) g (wd l g.2.2.1 i) (wd l g.2.2.2.1 i) y ∧ (g.1 = 7 → (wd l g.2.2.2.2.1 i).testBit y = (mcar (wd l g.2.2.1 i) (wd l g.2.2.2.1 i)).testBit y)
/-- Columns that fit. -/
structure Cok (x : Sy) (l : List (List Int)) : Prop where
  sz : Sz x
  many : (l.length : Int) = pw x.2.2.1
  long : ∀ c ∈ l, List.length c = 2 ^ x.2.1.toNat
  word : ∀ c ∈ l, okWd x c
theorem cok_of {x : Sy} {l : List (List Int)} (h : askE x l = 0) (hr : rngW l) : Cok x l := by
  obtain ⟨hc, hf⟩ := ask_zero h
  have hx := (chk_ok hc).1
  obtain ⟨f1, f2, f3⟩ := fits_zero hf
  refine ⟨hx, f1, fun c hc => ?_, fun c hc => okWd_of hr f3 hc⟩
  have : ¬ ((List.length c : Nat) : Int) ≠ pw x.2.1 := fun k => f2 ⟨c, hc, k⟩
  unfold pw at this; omega
theorem Cok.col {x : Sy} {l : List (List Int)} (h : Cok x l) {c : Int} (h0 : 0 ≤ c) (h1 : c < pw x.2.2.1) : l.getD c.toNat [] ∈ l ∧ inB c l.length = true := by
  have := h.many
  exact ⟨getD_mem (by omega), inB_int h0 (by omega)⟩
theorem Cok.wd {x : Sy} {l : List (List Int)} (h : Cok x l) {c : Int} (h0 : 0 ≤ c) (h1 : c < pw x.2.2.1) {i : Nat} (hi : i < 2 ^ x.2.1.toNat) :
    (l.getD c.toNat []).getD i 0 = ((H1.wd l c i : Nat) : Int) ∧ H1.wd l c i < 2 ^ 2 ^ x.1.toNat ∧ i < List.length (l.getD c.toNat []) := by
  obtain ⟨hm, _⟩ := h.col h0 h1
  have hl := h.long _ hm
  obtain ⟨k0, k1⟩ := h.word _ hm _ (getD_mem (d := 0) (show i < List.length (l.getD c.toNat []) by omega))
  exact ⟨by unfold H1.wd; omega, k1, by omega⟩
theorem bits_eq {n a b : Nat} (ha : a < 2 ^ n) (hb : b < 2 ^ n) : a = b ↔ ∀ y, y < n → a.testBit y = b.testBit y := by
  constructor
  · rintro rfl y _; rfl
  · intro h
    refine Nat.eq_of_testBit_eq fun y => ?_
    rcases Nat.lt_or_ge y n with k | k
    · exact h y k
    · rw [lt_bit ha k, lt_bit hb k]
theorem equal_T (a b : List Int) (h : a.length ≤ 100000) : T (fun k => slices_Equal_uint64.f k a b) (fun r => r = true ↔ a = b) := by
  refine T.eq (slices_Equal_uint64.f_eq · a b) (T.ite (fun h => T.pure ⟨fun h => (by cases h), fun e => ?_⟩) (fun hl => ?_))
  · subst e; simp at h
  have hl : a.length = b.length := by have : (a.length : Int) = (b.length : Int) := by simpa using hl
                                      omega
  refine T.loop0 (σ := Unit) (f := fun k _ i => slices_Equal_uint64.l58 k a b (a.length : Int) i) a.length (fun _ i => ∀ j, j < i → a.getD j 0 = b.getD j 0) () (fun j h => absurd h (by omega)) fun s i hi hI ih => ?_
  refine T.eq (slices_Equal_uint64.l58_eq · a b _ i) (T.ite (fun h => ?_) (fun h => ?_))
  · have hlt := lt_dec h
    refine T.yes (inB_nat hlt) (T.yes (inB_nat (by omega)) (T.ite (fun hne => T.pure ⟨fun h => (by cases h), fun e => ?_⟩) (fun he => ?_)))
    · subst e; simp at hne
    · rw [inc (by omega)]
      refine ih () hlt fun j hj => ?_
      by_cases e : j = i
      · subst e; simpa using he
      · exact hI j (by omega)
  · have hge := nlt_dec h
    exact T.pure ⟨fun _ => list_eq 0 hl fun j hj => hI j (by omega), fun _ => rfl⟩
theorem holds1_T (x : Sy) (l : List (List Int)) (g : Gt) (n : Int) (hC : Cok x l) (hl : fewW l) (h0 : 0 ≤ n) (hg : gE x g n = 0) : T (fun k => witness_holds.f k x l g) (fun r => r = true ↔ HG x l g) := by
  have hx := hC.sz
  obtain ⟨hA, hB, hD, hS, hF, hk⟩ := gate_cols hx h0 hg
  refine T.eq (witness_holds.f_eq · x l g) (T.ite (fun e8 => ?_) (fun e8 => ?_))
  · have e8 : g.1 = 8 := by simpa using e8
    have hb := hB (by unfold twoB; simp [e8])
    obtain ⟨mA, iA⟩ := hC.col hA.1 hA.2
    obtain ⟨mB, iB⟩ := hC.col hb.1 hb.2
    refine T.yes iA (T.yes iB (T.bind (equal_T _ _ (hl.2 _ mA)) fun r hr => T.pure (hr.trans ?_)))
    have lA := hC.long _ mA
    have lB := hC.long _ mB
    constructor
    · intro e i hi y hy
      rw [if_pos e8]; unfold wd; rw [e]
    · intro h
      refine list_eq 0 (by rw [lA, lB]) fun i hi => ?_
      rw [lB] at hi
      obtain ⟨a1, a2, _⟩ := hC.wd hA.1 hA.2 hi
      obtain ⟨b1, b2, _⟩ := hC.wd hb.1 hb.2 hi
      rw [a1, b1, (bits_eq a2 b2).2 fun y hy => by have := h i hi y hy; rwa [if_pos e8] at this]
  have e8 : g.1 ≠ 8 := by simpa using e8
  have hd := hD e8
  have hsh : shlI .i64 1 x.2.1 = ((2 ^ x.2.1.toNat : Nat) : Int) := shl_pw hx.r0 (by have := hx.r1; omega)
  rw [hsh]
  have hR : 2 ^ x.2.1.toNat ≤ 32 := (p2w (by have := hx.r0; have := hx.r1; omega)).2
  refine T.no (by have := hx.r0; simpa using this) ?_
  -- the second column is looked up whatever the kind
  have hBc : 0 ≤ g.2.2.2.1 ∧ g.2.2.2.1 < pw x.2.2.1 := by
    cases ht : twoB g.1 with
    | true => exact hB ht
    | false =>
      have := (gE_zero hg).1
      unfold gBad at this
      have e0 : g.2.2.2.1 = 0 := by
        rcases Decidable.em (g.2.2.2.1 = 0) with k | k
        · exact k
        · exact absurd (.inr (.inr (.inl ⟨ht, k⟩))) this
      have := pw_rng hx.c0 hx.c1
      omega
  refine T.loop0 (σ := Unit) (f := fun k _ i => witness_holds.l58 k l x g ((2 ^ x.2.1.toNat : Nat) : Int) i) (2 ^ x.2.1.toNat) (fun _ i => ∀ j, j < i → ∀ y, y < 2 ^ x.1.toNat →
    ((wd l g.2.1 j).testBit y = mbit (2 ^ x.1.toNat) g (wd l g.2.2.1 j) (wd l g.2.2.2.1 j) y ∧ (g.1 = 7 → (wd l g.2.2.2.2.1 j).testBit y = (mcar (wd l g.2.2.1 j) (wd l g.2.2.2.1 j)).testBit y))) () (fun j h => absurd h (by omega)) fun s i hi hI ih => ?_
  refine T.eq (witness_holds.l58_eq · l x g _ i) (T.ite (fun h => ?_) (fun h => ?_))
  · have hlt := lt_dec h
    obtain ⟨mA, iA⟩ := hC.col hA.1 hA.2
    obtain ⟨mB, iB⟩ := hC.col hBc.1 hBc.2
    obtain ⟨mD, iD⟩ := hC.col hd.1 hd.2
    obtain ⟨a1, a2, a3⟩ := hC.wd hA.1 hA.2 hlt
    obtain ⟨b1, b2, b3⟩ := hC.wd hBc.1 hBc.2 hlt
    obtain ⟨d1, d2, d3⟩ := hC.wd hd.1 hd.2 hlt
    simp only [Int.toNat_natCast]
    refine T.yes iA (T.yes (inB_nat a3) (T.yes iB (T.yes (inB_nat b3) ?_)))
    rw [a1, b1]
    refine T.bind (made_T x g _ _ hx ⟨hk.1, by omega⟩ hF a2 b2) fun r hr => T.yes iD (T.yes (inB_nat d3) ?_)
    obtain ⟨⟨m, r1, r2, r3⟩, r4⟩ := hr
    have hbit : ((l.getD g.2.1.toNat []).getD i 0 = r.1) ↔ ∀ y, y < 2 ^ x.1.toNat → (wd l g.2.1 i).testBit y = mbit (2 ^ x.1.toNat) g (wd l g.2.2.1 i) (wd l g.2.2.2.1 i) y := by
      rw [d1, r1]
      constructor
      · intro e y hy
        rw [← r3 y hy, show wd l g.2.1 i = m by omega]
      · intro e
        have : wd l g.2.1 i = m := (bits_eq d2 r2).2 fun y hy => by rw [e y hy, r3 y hy]
        omega
    refine T.ite (fun hne => T.pure ⟨fun h => (by cases h), fun h => ?_⟩) (fun he => ?_)
    · exfalso
      have hne : (l.getD g.2.1.toNat []).getD i 0 ≠ r.1 := by simpa using hne
      exact hne (hbit.2 fun y hy => by have := h i hlt y hy; rw [if_neg e8] at this; exact this.1)
    have he : (l.getD g.2.1.toNat []).getD i 0 = r.1 := by simpa using he
    have he2 := hbit.1 he
    refine T.ite (fun e7 => ?_) (fun e7 => ?_)
    · have e7 : g.1 = 7 := by simpa using e7
      have hs := hS e7
      obtain ⟨mS, iS⟩ := hC.col hs.1 hs.2
      obtain ⟨s1, s2, s3⟩ := hC.wd hs.1 hs.2 hlt
      refine T.yes iS (T.yes (inB_nat s3) (T.ite (fun hne => T.pure ⟨fun h => (by cases h), fun h => ?_⟩) (fun hs2 => ?_)))
      · exfalso
        have hne : (l.getD g.2.2.2.2.1.toNat []).getD i 0 ≠ r.2 := by simpa using hne
        refine hne ?_
        rw [s1, r4 e7, (bits_eq s2 (mcar_lt a2 b2)).2 fun y hy => by have := h i hlt y hy; rw [if_neg e8] at this; exact this.2 e7]
      · have hs2 : (l.getD g.2.2.2.2.1.toNat []).getD i 0 = r.2 := by simpa using hs2
        rw [s1, r4 e7] at hs2
        rw [inc (by omega)]
        refine ih () hlt fun j hj y hy => ?_
        by_cases e : j = i
        · subst e
          exact ⟨he2 y hy, fun _ => by rw [show wd l g.2.2.2.2.1 j = mcar (wd l g.2.2.1 j) (wd l g.2.2.2.1 j) by omega]⟩
        · exact hI j (by omega) y hy
    · have e7 : g.1 ≠ 7 := by simpa using e7
      rw [inc (by omega)]
      refine ih () hlt fun j hj y hy => ?_
      by_cases e : j = i
      · subst e; exact ⟨he2 y hy, fun k => absurd k e7⟩
      · exact hI j (by omega) y hy
  · have hge := nlt_dec h
    exact T.pure ⟨fun _ i hi y hy => by rw [if_neg e8]; exact hI i (by omega) y hy, fun _ => rfl⟩
theorem gok_mem {x : Sy} : ∀ (l : List Gt) (n : Int), Gok x l n → ∀ g ∈ l, ∃ m, 0 ≤ m ∧ gE x g m = 0
  | [], _, _, g, hg => by cases hg
  | a :: l, n, h, g, hg => by
    rcases List.mem_cons.1 hg with rfl | k
    · exact ⟨n, h.1, h.2.1⟩
    · exact gok_mem l _ h.2.2 g k
theorem wholds_T (x : Sy) (l : List (List Int)) (h1 : (gts x).length ≤ 1000) (hl : fewW l) (hr : rngW l) : T (fun k => witness_Holds.f k x l) (fun r => (askE x l ≠ 0 → r = (false, askE x l)) ∧ (askE x l = 0 → r.2 = 0 ∧ (r.1 = true ↔ ∀ g ∈ gts x, HG x l g))) := by
  refine T.eq (witness_Holds.f_eq · x l) (T.bind (wask_T x l h1 hl) fun t ht => T.ite (fun h => T.pure ?_) (fun h => ?_))
  · have hne : askE x l ≠ 0 := by rw [← ht]; simpa using h
    exact ⟨fun _ => by rw [ht], fun k => absurd k hne⟩
  have h0 : askE x l = 0 := by rw [← ht]; simpa using h
  have hC := cok_of h0 hr
  have hgo := (chk_ok (ask_zero h0).1).2.1
  refine T.bind (p := fun b => b = true ↔ ∃ g ∈ gts x, ¬ HG x l g) ?_ fun b hb => T.pure ⟨fun k => absurd h0 k, fun _ => ⟨rfl, ?_⟩⟩
  · refine T.eq (slices_ContainsFunc_witness_Holds_1.f_eq · _ x l) (T.bind (p := fun r => 0 ≤ r ↔ ∃ g ∈ gts x, ¬ HG x l g) ?_ fun r hr => T.pure (by simpa using hr))
    refine T.eq (slices_IndexFunc_witness_Holds_1.f_eq · _ x l) ?_
    refine T.loop0 (σ := Unit) (f := fun k _ i => slices_IndexFunc_witness_Holds_1.l26 k (gts x) x l ((gts x).length : Int) i) (gts x).length (fun _ i => ∀ j, j < i → HG x l ((gts x).getD j g0)) () (fun j h => absurd h (by omega)) fun s i hi hI ih => ?_
    refine T.eq (slices_IndexFunc_witness_Holds_1.l26_eq · _ x l _ i) (T.ite (fun h => ?_) (fun h => ?_))
    · have hlt := lt_dec h
      obtain ⟨m, m0, mg⟩ := gok_mem _ _ hgo _ (getD_mem (d := g0) hlt)
      refine T.yes (inB_nat hlt) (T.bind (p := fun b => b = true ↔ ¬ HG x l ((gts x).getD i g0)) (T.eq (witness_Holds_1.f_eq · _ x l) (T.bind (holds1_T x l ((gts x).getD i g0) m hC hl m0 mg) fun q hq => T.pure (by cases q <;> simp_all))) fun b hb => T.ite (fun e => T.pure ?_) (fun e => ?_))
      · exact ⟨fun _ => ⟨_, getD_mem hlt, hb.1 e⟩, fun _ => by omega⟩
      · rw [inc (by omega)]
        refine ih () hlt fun j hj => ?_
        by_cases e2 : j = i
        · subst e2
          exact Classical.byContradiction fun k => by rw [hb.2 k] at e; cases e
        · exact hI j (by omega)
    · have hge := nlt_dec h
      refine T.pure ⟨fun k => absurd k (by omega), fun ⟨g, hg, hn⟩ => ?_⟩
      obtain ⟨j, hj, rfl⟩ := mem_getD g0 hg
      exact absurd (hI j (by omega)) hn
  · show (!b) = true ↔ _
    cases b with
    | true =>
      obtain ⟨g, hg, hn⟩ := hb.1 rfl
      simp only [Bool.not_true, Bool.false_eq_true, false_iff]
      exact fun k => hn (k g hg)
    | false =>
      simp only [Bool.not_false, true_iff]
      exact fun g hg => Classical.byContradiction fun k => by have := hb.2 ⟨g, hg, k⟩; cases this
end Go.Proofs.Ytlmcalffemklnaa.H1
namespace Go.Proofs.Ytlmcalffemklnaa.H1
open Go Go.Proofs.Ytlmcalffemklnaa.Rf
def oV (a : Int) : O := (2, a, 0, z, ())
def oS (a b : Int) : O := (3, a, b, z, ())
def oP (a b : Int) : O := (4, a, b, z, ())
def o1 : O := (1, 0, 0, (0, 1, ()), ())
/-- A wire stands at a number. -/
def Ix (ws : List O) (i : Int) (w : O) : Prop := 0 ≤ i ∧ i.toNat < ws.length ∧ ws.getD i.toNat zo = w
theorem Ix.app {ws : List O} {i : Int} {w : O} (h : Ix ws i w) (l : List O) : Ix (ws ++ l) i w := by
  obtain ⟨h0, h1, h2⟩ := h
  exact ⟨h0, by rw [List.length_append]; omega, by rw [getD_app_l _ _ _ h1]; exact h2⟩
def Pre (a b : List O) : Prop := ∃ l, b = a ++ l
theorem Pre.refl (a : List O) : Pre a a := ⟨[], by simp⟩
theorem Pre.trans {a b c : List O} (h : Pre a b) (k : Pre b c) : Pre a c := by obtain ⟨l, rfl⟩ := h; obtain ⟨m, rfl⟩ := k; exact ⟨l ++ m, by simp⟩
theorem Ix.pre {ws ws' : List O} {i : Int} {w : O} (h : Ix ws i w) (k : Pre ws ws') : Ix ws' i w := by obtain ⟨l, rfl⟩ := k; exact h.app l
/-- A board: how it stands behind some steps. -/
structure Bst (x : Sy) (ws0 ws : List O) (cs : List (List O)) (l : List O) (b : Bd) (m : Nat) : Prop where
  ok : BOk x b.1 b.2.1 b.2.2.1 m
  w : b.1 = ws
  pre : Pre ws0 ws
  c : b.2.1 = cs
  l : b.2.2.1 = l
theorem swire_T {x : Sy} {b : Bd} {ws0 ws : List O} {cs : List (List O)} {l : List O} {m : Nat} (h : Bst x ws0 ws cs l b m) (hm : m ≤ 100000) (w : O) (hw : okW x w) : T (fun k => circuit_board_wire_v703.f k b w) (fun r => ∃ ws', Pre ws ws' ∧ Ix ws' r.1 w ∧ Bst x ws0 ws' cs l r.2 (m + 1)) := by
  have hb := h.ok.w
  refine T.mono (T.both (bwire_T h.ok hm w hw) (q := fun r => (∃ e, r.2.1 = b.1 ++ e) ∧ Ix r.2.1 r.1 w ∧ r.2.2 = b.2) ?_) fun r hr => ?_
  · refine T.eq (circuit_board_wire_v703.f_eq · b w) (T.bind (index_T b.1 w (by omega)) fun t ht => T.ite (fun hp => T.pure ⟨⟨[], by simp⟩, ?_, rfl⟩) (fun hp => T.yes (room_ok (by simp only [List.length_cons, List.length_nil]; omega)) (T.pure ⟨⟨[w], rfl⟩, ?_, rfl⟩)))
    · rcases ht with ⟨i, rfl, h1, h2⟩ | ⟨rfl, _⟩
      · exact ⟨by omega, by simpa using h1, by simpa using h2⟩
      · simp at hp
    · have e : w64 ((((b.1 ++ [w]).length : Nat) : Int) - 1) = (b.1.length : Int) := by
        rw [List.length_append]; simp only [List.length_cons, List.length_nil]
        rw [w64_in (by omega) (by omega)]; omega
      refine ⟨by show 0 ≤ w64 _; rw [e]; omega, by show (w64 _).toNat < (b.1 ++ [w]).length; rw [e, List.length_append]; simp, ?_⟩
      show (b.1 ++ [w]).getD (w64 _).toNat zo = w
      rw [e, Int.toNat_natCast]
      simp [List.getD_eq_getElem?_getD]
  · obtain ⟨k1, ⟨e, k2⟩, k3, k4⟩ := hr
    have hw' : r.2.1 = ws ++ e := by rw [k2, h.w]
    exact ⟨ws ++ e, ⟨e, rfl⟩, by rw [← hw']; exact k3, ⟨k1, hw', h.pre.trans ⟨e, rfl⟩, by rw [k4]; exact h.c, by rw [k4]; exact h.l⟩⟩
theorem sput_T {x : Sy} {b : Bd} {ws0 ws : List O} {cs : List (List O)} {l : List O} {m : Nat} (h : Bst x ws0 ws cs l b m) (hm : m ≤ 100000) (o : O) : T (fun k => circuit_board_put_v703.f k b o) (fun r => r.1 = (l.length : Int) ∧ Bst x ws0 ws cs (l ++ [o]) r.2 (m + 1)) := by
  have h3 := h.ok.l
  refine T.mono (T.both (bput_T h.ok hm o) (q := fun r => r.1 = (b.2.2.1.length : Int) ∧ r.2.1 = b.1 ∧ r.2.2.1 = b.2.1 ∧ r.2.2.2.1 = b.2.2.1 ++ [o]) ?_) fun r hr => ?_
  · refine T.eq (circuit_board_put_v703.f_eq · b o) (T.yes (room_ok (by simp only [List.length_cons, List.length_nil]; omega)) (T.pure ⟨?_, rfl, rfl, rfl⟩))
    show w64 ((((b.2.2.1 ++ [o]).length : Nat) : Int) - 1) = _
    rw [List.length_append]; simp only [List.length_cons, List.length_nil]
    rw [w64_in (by omega) (by omega)]; omega
  · obtain ⟨k1, k2, k3, k4, k5⟩ := hr
    exact ⟨by rw [k2, h.l], ⟨k1, by rw [k3, h.w], h.pre, by rw [k4, h.c], by rw [k5, h.l]⟩⟩
theorem sv_T {x : Sy} {b : Bd} {ws0 ws : List O} {cs : List (List O)} {l : List O} {m : Nat} (h : Bst x ws0 ws cs l b m) (hm : m ≤ 100000) (i : Int) : T (fun k => circuit_board_v_vaac.f k b i) (fun r => r.1 = (l.length : Int) ∧ Bst x ws0 ws cs (l ++ [oV i]) r.2 (m + 1)) :=
  T.eq (circuit_board_v_vaac.f_eq · b i) (T.bind (sput_T h hm _) fun t ht => T.pure ht)
theorem ss_T {x : Sy} {b : Bd} {ws0 ws : List O} {cs : List (List O)} {l : List O} {m : Nat} (h : Bst x ws0 ws cs l b m) (hm : m ≤ 100000) (i j : Int) : T (fun k => circuit_board_sum_v224.f k b i j) (fun r => r.1 = (l.length : Int) ∧ Bst x ws0 ws cs (l ++ [oS i j]) r.2 (m + 1)) :=
  T.eq (circuit_board_sum_v224.f_eq · b i j) (T.bind (sput_T h hm _) fun t ht => T.pure ht)
theorem sp_T {x : Sy} {b : Bd} {ws0 ws : List O} {cs : List (List O)} {l : List O} {m : Nat} (h : Bst x ws0 ws cs l b m) (hm : m ≤ 100000) (i j : Int) : T (fun k => circuit_board_prod_v224.f k b i j) (fun r => r.1 = (l.length : Int) ∧ Bst x ws0 ws cs (l ++ [oP i j]) r.2 (m + 1)) :=
  T.eq (circuit_board_prod_v224.f_eq · b i j) (T.bind (sput_T h hm _) fun t ht => T.pure ht)
theorem sdone_T {x : Sy} {b : Bd} {ws0 ws : List O} {cs : List (List O)} {l : List O} {m : Nat} (h : Bst x ws0 ws cs l b m) (hm : m ≤ 100000) : T (fun k => circuit_board_done_v6c7.f k b) (fun r => Bst x ws0 ws (cs ++ [l]) [] (r.1, r.2.1, [], r.2.2.2) (m + 1)) := by
  have h3 := h.ok.c
  refine T.mono (T.both (bdone_T h.ok hm) (q := fun r => r.1 = b.1 ∧ r.2.1 = b.2.1 ++ [b.2.2.1]) ?_) fun r hr => ?_
  · exact T.eq (circuit_board_done_v6c7.f_eq · b) (T.yes (room_ok (by simp only [List.length_cons, List.length_nil]; omega)) (T.pure ⟨rfl, rfl⟩))
  · obtain ⟨k1, k2, k3⟩ := hr
    exact ⟨k1, by show r.1 = ws; rw [k2, h.w], h.pre, by show r.2.1 = _; rw [k3, h.c, h.l], rfl⟩
/-- The wire of a column as it is. -/
def wc (c : Int) : O := (c, 0, 0, z, ())
/-- The conditions of a gate. -/
def GC (x : Sy) (ws : List O) (g : Gt) (cs : List (List O)) : Prop :=
  (g.1 = 8 ∧ ∃ a b, Ix ws a (wc g.2.2.1) ∧ Ix ws b (wc g.2.2.2.1) ∧ cs = [[oV a, oV b, oS 0 1]]) ∨
  (shB g.1 = true ∧ ∃ d a, Ix ws d (wc g.2.1) ∧ Ix ws a (g.2.2.1, g.1 - 3, g.2.2.2.2.1, z, ()) ∧ cs = [[oV d, oV a, oS 0 1]]) ∨
  (g.1 = 3 ∧ ∃ d a, Ix ws d (wc g.2.1) ∧ Ix ws a (wc g.2.2.1) ∧ cs = [[oV d, oV a, oS 0 1, o1, oS 2 3]]) ∨
  (g.1 = 1 ∧ ∃ d a b, Ix ws d (wc g.2.1) ∧ Ix ws a (wc g.2.2.1) ∧ Ix ws b (wc g.2.2.2.1) ∧ cs = [[oV d, oV a, oS 0 1, oV b, oS 2 3]]) ∨
  (g.1 = 2 ∧ ∃ d a b, Ix ws d (wc g.2.1) ∧ Ix ws a (wc g.2.2.1) ∧ Ix ws b (wc g.2.2.2.1) ∧ cs = [[oV d, oV a, oV b, oP 1 2, oS 0 3]]) ∨
  (g.1 = 7 ∧ x.1 = 0 ∧ ∃ d a b c, Ix ws d (wc g.2.1) ∧ Ix ws a (wc g.2.2.1) ∧ Ix ws b (wc g.2.2.2.1) ∧ Ix ws c (wc g.2.2.2.2.1) ∧ cs = [[oV d, oV a, oS 0 1, oV b, oS 2 3], [oV c, oV a, oV b, oP 1 2, oS 0 3]]) ∨
  (g.1 = 7 ∧ x.1 ≠ 0 ∧ ∃ d a b c e, Ix ws d (wc g.2.1) ∧ Ix ws a (wc g.2.2.1) ∧ Ix ws b (wc g.2.2.2.1) ∧ Ix ws c (wc g.2.2.2.2.1) ∧ Ix ws e (g.2.2.2.2.1, 1, 1, z, ()) ∧
    cs = [[oV d, oV a, oS 0 1, oV b, oS 2 3, oV e, oS 4 5], [oV c, oV a, oV b, oP 1 2, oS 0 3, oV e, oV a, oV b, oS 6 7, oP 5 8, oS 4 9]])
theorem GC.pre {x : Sy} {ws ws' : List O} {g : Gt} {cs : List (List O)} (h : GC x ws g cs) (k : Pre ws ws') : GC x ws' g cs := by
  rcases h with ⟨e, a, b, h1, h2, h3⟩ | ⟨e, d, a, h1, h2, h3⟩ | ⟨e, d, a, h1, h2, h3⟩ | ⟨e, d, a, b, h1, h2, h3, h4⟩ | ⟨e, d, a, b, h1, h2, h3, h4⟩ | ⟨e, e0, d, a, b, c, h1, h2, h3, h4, h5⟩ | ⟨e, e0, d, a, b, c, f, h1, h2, h3, h4, h5, h6⟩
  · exact .inl ⟨e, a, b, h1.pre k, h2.pre k, h3⟩
  · exact .inr (.inl ⟨e, d, a, h1.pre k, h2.pre k, h3⟩)
  · exact .inr (.inr (.inl ⟨e, d, a, h1.pre k, h2.pre k, h3⟩))
  · exact .inr (.inr (.inr (.inl ⟨e, d, a, b, h1.pre k, h2.pre k, h3.pre k, h4⟩)))
  · exact .inr (.inr (.inr (.inr (.inl ⟨e, d, a, b, h1.pre k, h2.pre k, h3.pre k, h4⟩))))
  · exact .inr (.inr (.inr (.inr (.inr (.inl ⟨e, e0, d, a, b, c, h1.pre k, h2.pre k, h3.pre k, h4.pre k, h5⟩)))))
  · exact .inr (.inr (.inr (.inr (.inr (.inr ⟨e, e0, d, a, b, c, f, h1.pre k, h2.pre k, h3.pre k, h4.pre k, h5.pre k, h6⟩)))))
/-- What an addition leaves: its first condition done, the second one under way. -/
theorem sadd_T {x : Sy} {b : Bd} {g : Gt} {ws0 ws : List O} {cs : List (List O)} {m : Nat} (hx : Sz x) (h : Bst x ws0 ws cs [] b m) (hm : m ≤ 6000) (d i : Int) (hb : 0 ≤ g.2.2.2.1 ∧ g.2.2.2.1 < pw x.2.2.1) (hs : 0 ≤ g.2.2.2.2.1 ∧ g.2.2.2.2.1 < pw x.2.2.1) :
    T (fun k => circuit_board_add_v65b.f k b x g d i) (fun r => ∃ ws' y c c1 l1, Pre ws ws' ∧ Ix ws' y (wc g.2.2.2.1) ∧ Ix ws' c (wc g.2.2.2.2.1) ∧ Bst x ws0 ws' (cs ++ [c1]) l1 r (m + 30) ∧
      ((x.1 = 0 ∧ c1 = [oV d, oV i, oS 0 1, oV y, oS 2 3] ∧ l1 = [oV c, oV i, oV y, oP 1 2, oS 0 3]) ∨
       (x.1 ≠ 0 ∧ ∃ e, Ix ws' e (g.2.2.2.2.1, 1, 1, z, ()) ∧ c1 = [oV d, oV i, oS 0 1, oV y, oS 2 3, oV e, oS 4 5] ∧ l1 = [oV c, oV i, oV y, oP 1 2, oS 0 3, oV e, oV i, oV y, oS 6 7, oP 5 8, oS 4 9]))) := by
  have up : ∀ {ws' : List O} {cs' : List (List O)} {l' : List O} {r : Bd} {q : Nat}, Bst x ws0 ws' cs' l' r q → q ≤ m + 30 → Bst x ws0 ws' cs' l' r (m + 30) := fun h hq => ⟨⟨h.ok.ok, by have := h.ok.w; omega, by have := h.ok.c; omega, by have := h.ok.l; omega⟩, h.w, h.pre, h.c, h.l⟩
  refine T.eq (circuit_board_add_v65b.f_eq · b x g d i) (T.bind (swire_T h (by omega) (wc g.2.2.2.1) (okW0 hx hb.1 hb.2)) fun t1 h1 => ?_)
  obtain ⟨w1, p1, i1, h1⟩ := h1
  refine T.bind (swire_T h1 (by omega) (wc g.2.2.2.2.1) (okW0 hx hs.1 hs.2)) fun t2 h2 => ?_
  obtain ⟨w2, p2, i2, h2⟩ := h2
  refine T.ite (fun e0 => ?_) (fun e0 => ?_)
  · have e0 : x.1 = 0 := by simpa using e0
    refine T.bind (sv_T h2 (by omega) _) fun a ha => T.bind (sv_T ha.2 (by omega) _) fun b hb => T.bind (ss_T hb.2 (by omega) _ _) fun c hc => T.bind (sv_T hc.2 (by omega) _) fun d hd => T.bind (ss_T hd.2 (by omega) _ _) fun e he => T.bind (sdone_T he.2 (by omega)) fun f hf => ?_
    refine T.bind (sv_T (b := (f.1, f.2.1, [], f.2.2.2)) hf (by omega) _) fun a' ha' => T.bind (sv_T ha'.2 (by omega) _) fun b' hb' => T.bind (sv_T hb'.2 (by omega) _) fun c' hc' => T.bind (sp_T hc'.2 (by omega) _ _) fun d' hd' => T.bind (ss_T hd'.2 (by omega) _ _) fun e' he' => T.pure ?_
    refine ⟨w2, t1.1, t2.1, _, _, p1.trans p2, i1.pre p2, i2, up he'.2 (by omega), .inl ⟨e0, ?_, ?_⟩⟩
    · rw [ha.1, hb.1, hc.1, hd.1]; rfl
    · rw [ha'.1, hb'.1, hc'.1, hd'.1]; rfl
  · have e0 : x.1 ≠ 0 := by simpa using e0
    have hk : okW x (g.2.2.2.2.1, 1, 1, z, ()) := by
      refine ⟨hs.1, hs.2, ?_⟩
      have h0 := hx.w0; have h1 := hx.w1
      have : 2 ≤ pw x.1 := by
        unfold pw
        have : 2 ^ 1 ≤ 2 ^ x.1.toNat := Nat.pow_le_pow_right (by decide) (by omega)
        omega
      unfold fitB; simp; omega
    refine T.bind (swire_T h2 (by omega) (g.2.2.2.2.1, 1, 1, z, ()) hk) fun t3 h3 => ?_
    obtain ⟨w3, p3, i3, h3⟩ := h3
    refine T.bind (sv_T h3 (by omega) _) fun a ha => T.bind (sv_T ha.2 (by omega) _) fun b hb => T.bind (ss_T hb.2 (by omega) _ _) fun c hc => T.bind (sv_T hc.2 (by omega) _) fun d hd => T.bind (ss_T hd.2 (by omega) _ _) fun e he => T.bind (sv_T he.2 (by omega) _) fun u hu => T.bind (ss_T hu.2 (by omega) _ _) fun v hv => T.bind (sdone_T hv.2 (by omega)) fun f hf => ?_
    refine T.bind (sv_T (b := (f.1, f.2.1, [], f.2.2.2)) hf (by omega) _) fun a' ha' => T.bind (sv_T ha'.2 (by omega) _) fun b' hb' => T.bind (sv_T hb'.2 (by omega) _) fun c' hc' => T.bind (sp_T hc'.2 (by omega) _ _) fun d' hd' => T.bind (ss_T hd'.2 (by omega) _ _) fun e' he' => ?_
    refine T.bind (sv_T he'.2 (by omega) _) fun q1 g1 => T.bind (sv_T g1.2 (by omega) _) fun q2 g2 => T.bind (sv_T g2.2 (by omega) _) fun q3 g3 => T.bind (ss_T g3.2 (by omega) _ _) fun q4 g4 => T.bind (sp_T g4.2 (by omega) _ _) fun q5 g5 => T.bind (ss_T g5.2 (by omega) _ _) fun q6 g6 => T.pure ?_
    refine ⟨w3, t1.1, t2.1, _, _, (p1.trans p2).trans p3, i1.pre (p2.trans p3), i2.pre p3, up g6.2 (by omega), .inr ⟨e0, t3.1, i3, ?_, ?_⟩⟩
    · rw [ha.1, hb.1, hc.1, hd.1, he.1, hu.1]; rfl
    · rw [ha'.1, hb'.1, hc'.1, hd'.1, he'.1, g1.1, g2.1, g3.1, g4.1, g5.1]; rfl
theorem sgate_T {x : Sy} {b : Bd} {ws0 : List O} {cs : List (List O)} {m : Nat} {g : Gt} {n : Int} (hx : Sz x) (h : Bst x ws0 ws0 cs [] b m) (hm : m ≤ 5000) (h0 : 0 ≤ n) (hg : gE x g n = 0) :
    T (fun k => circuit_board_gate_ve6a.f k b x g) (fun r => ∃ ws' c1, Bst x ws0 ws' (cs ++ c1) [] (r.1, r.2.1, [], r.2.2.2) (m + 40) ∧ GC x ws' g c1) := by
  obtain ⟨hA, hB, hD, hS, hF, hk⟩ := gate_cols hx h0 hg
  have up : ∀ {ws' : List O} {cs' : List (List O)} {l' : List O} {r : Bd} {q : Nat}, Bst x ws0 ws' cs' l' r q → q ≤ m + 40 → Bst x ws0 ws' cs' l' r (m + 40) := fun h hq => ⟨⟨h.ok.ok, by have := h.ok.w; omega, by have := h.ok.c; omega, by have := h.ok.l; omega⟩, h.w, h.pre, h.c, h.l⟩
  refine T.eq (circuit_board_gate_ve6a.f_eq · b x g) (T.ite (fun e8 => ?_) (fun e8 => ?_))
  · have e8 : g.1 = 8 := by simpa using e8
    have hb := hB (by unfold twoB; simp [e8])
    refine T.bind (swire_T h (by omega) (wc g.2.2.1) (okW0 hx hA.1 hA.2)) fun t1 h1 => ?_
    obtain ⟨w1, p1, i1, h1⟩ := h1
    refine T.bind (swire_T h1 (by omega) (wc g.2.2.2.1) (okW0 hx hb.1 hb.2)) fun t2 h2 => ?_
    obtain ⟨w2, p2, i2, h2⟩ := h2
    refine T.bind (sv_T h2 (by omega) _) fun a ha => T.bind (sv_T ha.2 (by omega) _) fun b hb => T.bind (ss_T hb.2 (by omega) _ _) fun c hc => T.bind (sdone_T hc.2 (by omega)) fun f hf => T.pure ⟨w2, _, up hf (by omega), .inl ⟨e8, t1.1, t2.1, i1.pre p2, i2, ?_⟩⟩
    rw [ha.1, hb.1]; rfl
  have e8 : g.1 ≠ 8 := by simpa using e8
  have hd := hD e8
  refine T.bind (swire_T h (by omega) (wc g.2.1) (okW0 hx hd.1 hd.2)) fun t1 h1 => ?_
  obtain ⟨w1, p1, i1, h1⟩ := h1
  refine T.bind (turned_T _) fun tk htk => T.ite (fun ek => ?_) (fun ek => ?_)
  · have hs : shB g.1 = true := by
      cases hs : shB g.1 with
      | true => rfl
      | false => rw [htk, hs] at ek; simp at ek
    have htk : tk = g.1 - 3 := by rw [htk, hs, if_pos rfl]
    subst htk
    have hw : okW x (g.2.2.1, g.1 - 3, g.2.2.2.2.1, z, ()) := ⟨hA.1, hA.2, hF hs⟩
    refine T.bind (swire_T h1 (by omega) (g.2.2.1, g.1 - 3, g.2.2.2.2.1, z, ()) hw) fun t2 h2 => ?_
    obtain ⟨w2, p2, i2, h2⟩ := h2
    refine T.bind (sv_T h2 (by omega) _) fun a ha => T.bind (sv_T ha.2 (by omega) _) fun b hb => T.bind (ss_T hb.2 (by omega) _ _) fun c hc => T.bind (sdone_T hc.2 (by omega)) fun f hf => T.pure ⟨w2, _, up hf (by omega), .inr (.inl ⟨hs, t1.1, t2.1, i1.pre p2, i2, ?_⟩)⟩
    rw [ha.1, hb.1]; rfl
  have hns : shB g.1 = false := by
    cases hs : shB g.1 with
    | false => rfl
    | true =>
      have h4 : 4 ≤ g.1 := by unfold shB at hs; simp at hs; omega
      rw [htk, hs, if_pos rfl] at ek
      have : g.1 - 3 = 0 := by simpa using ek
      omega
  refine T.bind (swire_T h1 (by omega) (wc g.2.2.1) (okW0 hx hA.1 hA.2)) fun t2 h2 => ?_
  obtain ⟨w2, p2, i2, h2⟩ := h2
  refine T.ite (fun e3 => ?_) (fun e3 => T.ite (fun e1 => ?_) (fun e1 => T.ite (fun e2 => ?_) (fun e2 => T.ite (fun e7 => ?_) (fun e7 => ?_))))
  · have e3 : g.1 = 3 := by simpa using e3
    refine T.bind (sv_T h2 (by omega) _) fun a ha => T.bind (sv_T ha.2 (by omega) _) fun b hb => T.bind (ss_T hb.2 (by omega) _ _) fun c hc => T.bind (sput_T hc.2 (by omega) _) fun d hd => T.bind (ss_T hd.2 (by omega) _ _) fun e he => T.bind (sdone_T he.2 (by omega)) fun f hf => T.pure ⟨w2, _, up hf (by omega), .inr (.inr (.inl ⟨e3, t1.1, t2.1, i1.pre p2, i2, ?_⟩))⟩
    rw [ha.1, hb.1, hc.1, hd.1]; rfl
  · have e1 : g.1 = 1 := by simpa using e1
    have hb := hB (by unfold twoB; simp [e1])
    refine T.bind (swire_T h2 (by omega) (wc g.2.2.2.1) (okW0 hx hb.1 hb.2)) fun t3 h3 => ?_
    obtain ⟨w3, p3, i3, h3⟩ := h3
    refine T.bind (sv_T h3 (by omega) _) fun a ha => T.bind (sv_T ha.2 (by omega) _) fun b hb => T.bind (ss_T hb.2 (by omega) _ _) fun c hc => T.bind (sv_T hc.2 (by omega) _) fun d hd => T.bind (ss_T hd.2 (by omega) _ _) fun e he => T.bind (sdone_T he.2 (by omega)) fun f hf => T.pure ⟨w3, _, up hf (by omega), .inr (.inr (.inr (.inl ⟨e1, t1.1, t2.1, t3.1, i1.pre (p2.trans p3), i2.pre p3, i3, ?_⟩)))⟩
    rw [ha.1, hb.1, hc.1, hd.1]; rfl
  · have e2 : g.1 = 2 := by simpa using e2
    have hb := hB (by unfold twoB; simp [e2])
    refine T.bind (swire_T h2 (by omega) (wc g.2.2.2.1) (okW0 hx hb.1 hb.2)) fun t3 h3 => ?_
    obtain ⟨w3, p3, i3, h3⟩ := h3
    refine T.bind (sv_T h3 (by omega) _) fun a ha => T.bind (sv_T ha.2 (by omega) _) fun b hb => T.bind (sv_T hb.2 (by omega) _) fun c hc => T.bind (sp_T hc.2 (by omega) _ _) fun d hd => T.bind (ss_T hd.2 (by omega) _ _) fun e he => T.bind (sdone_T he.2 (by omega)) fun f hf => T.pure ⟨w3, _, up hf (by omega), .inr (.inr (.inr (.inr (.inl ⟨e2, t1.1, t2.1, t3.1, i1.pre (p2.trans p3), i2.pre p3, i3, ?_⟩))))⟩
    rw [ha.1, hb.1, hc.1, hd.1]; rfl
  · have e7 : g.1 = 7 := by simpa using e7
    have hb := hB (by unfold twoB; simp [e7])
    have hs := hS e7
    refine T.bind (sadd_T hx h2 (by omega) t1.1 t2.1 hb hs) fun t3 h3 => ?_
    obtain ⟨w3, y, c, c1, l1, p3, i3, i4, h3, hc⟩ := h3
    refine T.bind (sdone_T h3 (by omega)) fun f hf => T.pure ⟨w3, [c1, l1], ?_, ?_⟩
    · rw [show cs ++ [c1, l1] = cs ++ [c1] ++ [l1] by simp]; exact up hf (by omega)
    · rcases hc with ⟨z0, rfl, rfl⟩ | ⟨z0, e, i5, rfl, rfl⟩
      · exact .inr (.inr (.inr (.inr (.inr (.inl ⟨e7, z0, t1.1, t2.1, y, c, i1.pre (p2.trans p3), i2.pre p3, i3, i4, rfl⟩)))))
      · exact .inr (.inr (.inr (.inr (.inr (.inr ⟨e7, z0, t1.1, t2.1, y, c, e, i1.pre (p2.trans p3), i2.pre p3, i3, i4, i5, rfl⟩)))))
  · exfalso
    simp only [beq_eq_false_iff_ne] at e3 e1 e2 e7
    unfold shB at hns
    simp at hns
    omega
/-- The conditions of gates, one behind the other. -/
def GCs (x : Sy) (ws : List O) : List Gt → List (List O) → Prop
  | [], cs => cs = []
  | g :: gs, cs => ∃ c1 c2, cs = c1 ++ c2 ∧ GC x ws g c1 ∧ GCs x ws gs c2
theorem GCs.pre {x : Sy} {ws ws' : List O} (k : Pre ws ws') : ∀ {gs : List Gt} {cs : List (List O)}, GCs x ws gs cs → GCs x ws' gs cs
  | [], cs, h => h
  | g :: gs, cs, ⟨c1, c2, e, h1, h2⟩ => ⟨c1, c2, e, h1.pre k, h2.pre k⟩
theorem GCs.snoc {x : Sy} {ws : List O} {g : Gt} {c : List (List O)} (hg : GC x ws g c) : ∀ {gs : List Gt} {cs : List (List O)}, GCs x ws gs cs → GCs x ws (gs ++ [g]) (cs ++ c)
  | [], cs, h => by
    have h : cs = [] := h
    subst h
    exact ⟨c, [], by simp, hg, rfl⟩
  | a :: gs, cs, ⟨c1, c2, e, h1, h2⟩ => ⟨c1, c2 ++ c, by rw [e, List.append_assoc], h1, h2.snoc hg⟩
theorem slay_T (x : Sy) (hl : (gts x).length ≤ 1000) (h0 : (chk x).2 = 0) : T (fun k => circuit_lay.f k x) (fun r => (∀ y ∈ r.1.1, okW x y) ∧ r.1.1.length ≤ 40 * (gts x).length ∧ ((r.2 = 0 ∧ GCs x r.1.1 (gts x) r.1.2.1 ∧ r.1.2.1.length ≤ 40) ∨ r = (([], [], [], ()), 2))) := by
  obtain ⟨hx, hg, hl2, _⟩ := chk_ok h0
  refine T.eq (circuit_lay.f_eq · x) (T.bind (ccheck_T x hl) fun e he => T.no (by rw [he, h0]; rfl) ?_)
  refine T.loop0 (σ := List O × List (List O) × Unit × Unit) (f := fun k s i => circuit_lay.l122 k x ((), (), (), ()) s (gts x) ((gts x).length : Int) i) (gts x).length (fun s i => BOk x s.1 s.2.1 [] (40 * i) ∧ (∃ n, Gok x ((gts x).drop i) n) ∧ GCs x s.1 ((gts x).take i) s.2.1) _ ⟨⟨fun y hy => (by cases hy), Nat.zero_le _, Nat.zero_le _, Nat.zero_le _⟩, ⟨_, hg⟩, rfl⟩ fun s i hi hI ih => ?_
  obtain ⟨hI, ⟨n, hn⟩, hcs⟩ := hI
  refine T.eq (circuit_lay.l122_eq · x _ s _ _ i) (T.ite (fun h => ?_) (fun h => ?_))
  · have hlt := lt_dec h
    rw [drop_getD (gts x) g0 hlt] at hn
    refine T.yes (inB_nat hlt) (T.bind (sgate_T (b := (s.1, s.2.1, [], s.2.2.2)) (g := (gts x).getD i g0) (ws0 := s.1) (cs := s.2.1) hx ⟨hI, rfl, Pre.refl _, rfl, rfl⟩ (by omega) hn.1 hn.2.1) fun t ht => ?_)
    obtain ⟨ws', c1, hb, hgc⟩ := ht
    rw [inc (by omega)]
    have hw : t.1 = ws' := hb.w
    have hc : t.2.1 = s.2.1 ++ c1 := hb.c
    refine ih t hlt ⟨by rw [show 40 * (i + 1) = 40 * i + 40 by omega]; exact hb.ok, ⟨_, hn.2.2⟩, ?_⟩
    rw [take_snoc _ g0 hlt, hw, hc]
    exact (hcs.pre hb.pre).snoc hgc
  · have hge := nlt_dec h
    rw [List.take_of_length_le hge] at hcs
    refine T.ite (fun _ => T.pure ⟨fun y hy => (by cases hy), Nat.zero_le _, .inr rfl⟩) (fun hle => T.pure ⟨hI.ok, by have := hI.w; show s.1.length ≤ 40 * (gts x).length; omega, .inl ⟨rfl, hcs, ?_⟩⟩)
    have : ¬ ((s.2.1.length : Nat) : Int) > 40 := of_decide_eq_false hle
    show s.2.1.length ≤ 40; omega
end Go.Proofs.Ytlmcalffemklnaa.H1
