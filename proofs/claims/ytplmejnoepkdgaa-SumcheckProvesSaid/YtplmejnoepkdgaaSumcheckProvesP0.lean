/- A walk by reckoning: what a Go function comes to, reckoned out of its operations, and why that is so. -/
import Derived.Test.YtplmejnoepkdgaaSumcheckProvesH
import Derived.Test.YtplmejnoepkdgaaRf4
import Derived.IntWalk
set_option linter.unusedVariables false
set_option linter.unusedSimpArgs false
namespace Go.Proofs.Ytplmejnoepkdgaa.H1
open Go Go.Proofs.Ytplmejnoepkdgaa.Rf
/-- What a function comes to, from some fuel on. -/
def Ev {α : Type} (g : Nat → Option α) (r : α) : Prop := ∃ K, ∀ k, K ≤ k → g k = some r
def T {α : Type} (g : Nat → Option α) (p : α → Prop) : Prop := ∃ r, p r ∧ Ev g r
theorem Ev.uniq {α : Type} {g : Nat → Option α} {a b : α} (h : Ev g a) (k : Ev g b) : a = b := by
  obtain ⟨K, hK⟩ := h; obtain ⟨L, hL⟩ := k
  have := (hK (K + L) (Nat.le_add_right _ _)).symm.trans (hL (K + L) (Nat.le_add_left _ _))
  exact Option.some.inj this
theorem T.of {α : Type} {g : Nat → Option α} {p : α → Prop} {a : α} (h : T g p) (k : Ev g a) : p a := by
  obtain ⟨r, h1, h2⟩ := h; rw [k.uniq h2]; exact h1
theorem T.pure {α : Type} {p : α → Prop} {r : α} (h : p r) : T (fun _ => some r) p := ⟨r, h, 0, fun _ _ => rfl⟩
theorem T.mono {α : Type} {g : Nat → Option α} {p q : α → Prop} (h : T g p) (k : ∀ a, p a → q a) : T g q := let ⟨r, h1, h2⟩ := h; ⟨r, k r h1, h2⟩
theorem T.eq {α : Type} {f g : Nat → Option α} {p : α → Prop} (he : ∀ k, f (k + 1) = g k) (h : T g p) : T f p := by
  obtain ⟨r, h1, K, h2⟩ := h
  exact ⟨r, h1, K + 1, fun k hk => by obtain ⟨j, rfl⟩ := Nat.exists_eq_add_of_le hk; rw [show K + 1 + j = (K + j) + 1 by omega, he]; exact h2 _ (Nat.le_add_right _ _)⟩
theorem T.bind {α β : Type} {g : Nat → Option α} {h : Nat → α → Option β} {p : α → Prop} {q : β → Prop} (h1 : T g p) (h2 : ∀ a, p a → T (fun k => h k a) q) : T (fun k => (g k).bind (h k)) q := by
  obtain ⟨a, ha, K, hK⟩ := h1
  obtain ⟨b, hb, L, hL⟩ := h2 a ha
  exact ⟨b, hb, K + L, fun k hk => by show (g k).bind (h k) = _; rw [hK k (by omega)]; exact hL k (by omega)⟩
/-- .. where what is bound is known again. -/
theorem T.bindE {α β : Type} {g : Nat → Option α} {h : Nat → α → Option β} {p : α → Prop} {q : β → Prop} (h1 : T g p) (h2 : ∀ a, p a → Ev g a → T (fun k => h k a) q) : T (fun k => (g k).bind (h k)) q := by
  obtain ⟨a, ha, hE⟩ := h1
  obtain ⟨b, hb, L, hL⟩ := h2 a ha hE
  obtain ⟨K, hK⟩ := hE
  exact ⟨b, hb, K + L, fun k hk => by show (g k).bind (h k) = _; rw [hK k (by omega)]; exact hL k (by omega)⟩
theorem T.ite {α : Type} {g h : Nat → Option α} {b : Bool} {p : α → Prop} (h1 : b = true → T g p) (h2 : b = false → T h p) : T (fun k => bif b then g k else h k) p := by
  cases b
  · exact h2 rfl
  · exact h1 rfl
theorem T.yes {α : Type} {g h : Nat → Option α} {b : Bool} {p : α → Prop} (hb : b = true) (h1 : T g p) : T (fun k => bif b then g k else h k) p := T.ite (fun _ => h1) (fun h => by rw [hb] at h; cases h)
theorem T.no {α : Type} {g h : Nat → Option α} {b : Bool} {p : α → Prop} (hb : b = false) (h1 : T h p) : T (fun k => bif b then g k else h k) p := T.ite (fun h => by rw [hb] at h; cases h) (fun _ => h1)
/-- A count from one number up to another. -/
theorem T.loop {α σ : Type} {f : Nat → σ → Int → Option α} {p : α → Prop} (n : Nat) (I : σ → Nat → Prop) (body : ∀ s i, i ≤ n → I s i → (∀ s', i < n → I s' (i + 1) → T (fun k => f k s' ((i : Int) + 1)) p) → T (fun k => f k s (i : Int)) p) :
    ∀ (m : Nat) (s : σ) (i : Nat), n - i = m → i ≤ n → I s i → T (fun k => f k s (i : Int)) p := by
  intro m
  induction m with
  | zero => intro s i hm hi hI; exact body s i hi hI (fun s' hlt _ => absurd hlt (by omega))
  | succ m ih => intro s i hm hi hI; exact body s i hi hI (fun s' hlt hI' => by have := ih s' (i + 1) (by omega) (by omega) hI'; simpa using this)
theorem T.loop0 {α σ : Type} {f : Nat → σ → Int → Option α} {p : α → Prop} (n : Nat) (I : σ → Nat → Prop) (s : σ) (h0 : I s 0) (body : ∀ s i, i ≤ n → I s i → (∀ s', i < n → I s' (i + 1) → T (fun k => f k s' ((i : Int) + 1)) p) → T (fun k => f k s (i : Int)) p) :
    T (fun k => f k s 0) p := by
  have := T.loop n I body n s 0 (by omega) (by omega) h0
  simpa using this
theorem w64_in {n : Int} (h1 : -9223372036854775808 ≤ n) (h2 : n ≤ 9223372036854775807) : w64 n = n := Go.IntWalk.i64_in n ⟨h1, h2⟩
theorem inB_nat {i n : Nat} (h : i < n) : inB (i : Int) n = true := by simp [inB]; omega
theorem inB_int {i : Int} {n : Nat} (h1 : 0 ≤ i) (h2 : i < n) : inB i n = true := by simp [inB]; omega
theorem room_ok {n b : Nat} (h : n * b ≤ 140737488355328) : room n b = true := Nat.ble_eq_true_of_le h
abbrev E := Int × Int × Unit
abbrev O := Int × Int × Int × E × Unit
def z : E := (0, 0, ())
/-- Whether an element is of a level. -/
def ofB (l : Int) (x : E) : Bool :=
  if l < 0 then false else if l > 7 then false else if l = 7 then true else if l = 6 then x.1 == 0 else if x.1 == 0 then (shrI .u64 x.2.1 (shlI .u64 1 l)) == 0 else false
theorem shl_u64_pos {a b : Int} : ¬ shlI .u64 a b < 0 := by
  unfold shlI
  have : IntKind.u64.wrap (a * 2 ^ min b.toNat IntKind.u64.bits) = (a * 2 ^ min b.toNat IntKind.u64.bits) % 2 ^ 64 := by
    unfold IntKind.wrap; simp [IntKind.signed, IntKind.bits]
  rw [this]
  have := Int.emod_nonneg (a * 2 ^ min b.toNat IntKind.u64.bits) (show (2 ^ 64 : Int) ≠ 0 by decide)
  omega
theorem of_T (l : Int) (x : E) : T (fun k => octet_Of.f k l x) (fun b => b = ofB l x) := by
  refine T.eq (octet_Of.f_eq · l x) ?_
  unfold ofB
  by_cases h1 : l < 0
  · exact T.yes (by simp [h1]) (T.pure (by simp [h1]))
  refine T.no (by simp [h1]) ?_
  by_cases h2 : l > 7
  · exact T.yes (by simp [h2]) (T.pure (by simp [h1, h2]))
  refine T.no (by simp [h2]) ?_
  by_cases h3 : l = 7
  · exact T.yes (by simp [h3]) (T.pure (by simp [h1, h2, h3]))
  refine T.no (by simpa using h3) ?_
  by_cases h4 : l = 6
  · exact T.yes (by simp [h4]) (T.pure (by simp [h4]))
  refine T.no (by simpa using h4) (T.ite (fun h => ?_) (fun h => T.pure (by simp [h1, h2, h3, h4, h])))
  exact T.no (by simp [h1]) (T.no (by simpa using shl_u64_pos) (T.pure (by simp [h1, h2, h3, h4, h])))
theorem wide_T (l : Int) : T (fun k => octet_Wide.f k l) (fun _ => True) := by
  refine T.eq (octet_Wide.f_eq · l) (T.ite (fun _ => T.pure trivial) fun h1 => T.ite (fun _ => T.pure trivial) fun h2 => T.ite (fun _ => T.pure trivial) fun h3 => T.no ?_ (T.pure trivial))
  simp only [decide_eq_false_iff_not] at *
  rw [w64_in (by omega) (by omega)]; omega
theorem add_T (a b : E) : T (fun k => tower_Add.f k a b) (fun r => r = (xorI .u64 a.1 b.1, xorI .u64 a.2.1 b.2.1, ())) := T.eq (tower_Add.f_eq · a b) (T.pure rfl)
theorem halves_T {l : Nat} (h1 : 1 ≤ l) (h2 : l ≤ 7) (a : Int) : T (fun k => tower_halves.f k l a) (fun r => a = 0 → r = (0, 0)) := by
  have hl : l = 1 ∨ l = 2 ∨ l = 3 ∨ l = 4 ∨ l = 5 ∨ l = 6 ∨ l = 7 := by omega
  rcases hl with rfl | rfl | rfl | rfl | rfl | rfl | rfl <;>
  exact T.eq (tower_halves.f_eq · _ a) (T.no (by decide) (T.no (by decide) (T.no (by decide) (T.pure (by rintro rfl; decide)))))
theorem join_T {l : Nat} (h1 : 1 ≤ l) (h2 : l ≤ 7) (a b : Int) : T (fun k => tower_join.f k l a b) (fun r => a = 0 → b = 0 → r = 0) := by
  have hl : l = 1 ∨ l = 2 ∨ l = 3 ∨ l = 4 ∨ l = 5 ∨ l = 6 ∨ l = 7 := by omega
  rcases hl with rfl | rfl | rfl | rfl | rfl | rfl | rfl <;>
  exact T.eq (tower_join.f_eq · _ a b) (T.no (by decide) (T.no (by decide) (T.pure (by rintro rfl rfl; decide))))
theorem lev {l : Nat} (h : l ≤ 7) : w64 (((l + 1 : Nat) : Int) - 1) = (l : Int) := by rw [w64_in (by omega) (by omega)]; omega
theorem mulX_T : ∀ (l : Nat), l ≤ 6 → ∀ a, T (fun k => tower_mulX.f k l a) (fun r => a = 0 → r = 0)
  | 0, h, a => T.eq (tower_mulX.f_eq · _ a) (T.yes (by simp) (T.pure id))
  | l + 1, h, a => by
    refine T.eq (tower_mulX.f_eq · _ a) (T.no (by simp; omega) (T.bind (halves_T (by omega) (by omega) a) fun r hr => ?_))
    rw [lev (by omega)]
    refine T.bind (mulX_T l (by omega) r.1) fun s hs => T.bind (join_T (by omega) (by omega) _ _) fun t ht => T.pure fun ha => ?_
    have e := hr ha
    have e1 : r.1 = 0 := by rw [e]
    have e2 : r.2 = 0 := by rw [e]
    exact ht (by rw [e2, hs e1]; decide) e1
theorem and0 (a : Int) : andI .u64 (andI .u64 a 0) 1 = 0 := by
  have e : andI .u64 a 0 = 0 := by unfold andI; simp [IntKind.wrap, IntKind.signed]
  rw [e]; decide
theorem mul_T : ∀ (l : Nat), l ≤ 6 → ∀ a b, T (fun k => tower_mul.f k l a b) (fun r => b = 0 → r = 0)
  | 0, h, a, b => T.eq (tower_mul.f_eq · _ a b) (T.yes (by simp) (T.pure (by rintro rfl; exact and0 a)))
  | l + 1, h, a, b => by
    refine T.eq (tower_mul.f_eq · _ a b) (T.no (by simp; omega) (T.ite (fun _ => T.pure (by rintro rfl; exact and0 a)) fun _ => T.ite (fun _ => T.pure (by rintro rfl; exact and0 a)) fun hb => ?_))
    refine T.bind (halves_T (by omega) (by omega) a) fun r _ => T.bind (halves_T (by omega) (by omega) b) fun s _ => ?_
    rw [lev (by omega)]
    refine T.bind (mul_T l (by omega) _ _) fun t1 _ => T.bind (mul_T l (by omega) _ _) fun t2 _ => T.bind (mul_T l (by omega) _ _) fun t3 _ => T.bind (mulX_T l (by omega) _) fun t4 _ => T.bind (join_T (by omega) (by omega) _ _) fun t5 _ => T.pure fun h0 => ?_
    subst h0; simp at hb
theorem Mul_T (l : Int) (a b : E) : T (fun k => tower_Mul.f k l a b) (fun r => b = z → r = z) := by
  refine T.eq (tower_Mul.f_eq · l a b) (T.bind (of_T l a) fun o1 h1 => T.ite (fun _ => T.pure fun _ => rfl) fun g1 => T.bind (of_T l b) fun o2 h2 => T.ite (fun _ => T.pure fun _ => rfl) fun g2 => ?_)
  have h0 : 0 ≤ l ∧ l ≤ 7 := by
    rw [h1] at g1
    unfold ofB at g1
    by_cases k1 : l < 0
    · simp [k1] at g1
    · by_cases k2 : l > 7
      · simp [k1, k2] at g1
      · omega
  refine T.ite (fun g => ?_) (fun g => ?_)
  · obtain ⟨n, rfl⟩ := Int.eq_ofNat_of_zero_le h0.1
    simp only [decide_eq_true_eq] at g
    exact T.bind (mul_T n (by omega) _ _) fun r hr => T.pure fun hb => by rw [hr (by rw [hb]; rfl)]; rfl
  · refine T.bind (mul_T 6 (by omega) _ _) fun r1 q1 => T.bind (mul_T 6 (by omega) _ _) fun r2 q2 => T.bind (mul_T 6 (by omega) _ _) fun r3 q3 => T.bind (mulX_T 6 (by omega) _) fun r4 q4 => T.pure fun hb => ?_
    subst hb
    have e1 := q1 rfl
    have e2 := q2 rfl
    have e3 := q3 (by decide)
    have e4 := q4 e1
    rw [e1, e2, e3, e4]; decide
end Go.Proofs.Ytplmejnoepkdgaa.H1
namespace Go.Proofs.Ytplmejnoepkdgaa.H1
open Go Go.Proofs.Ytplmejnoepkdgaa.Rf
def zo : O := (0, 0, 0, (0, 0, ()), ())
/-- A step that may be. -/
def okS (vars : Int) (j : Nat) (o : O) : Prop :=
  (o.1 = 1 ∨ o.1 = 2 ∨ o.1 = 3 ∨ o.1 = 4) ∧ (o.1 = 2 → 0 ≤ o.2.1 ∧ o.2.1 < vars) ∧ (o.1 = 3 ∨ o.1 = 4 → 0 ≤ o.2.1 ∧ o.2.1 < j ∧ 0 ≤ o.2.2.1 ∧ o.2.2.1 < j)
theorem ahead_T (o : O) (i : Int) : T (fun k => expr_ahead.f k o i) (fun b => b = true → 0 ≤ o.2.1 ∧ o.2.1 < i ∧ 0 ≤ o.2.2.1 ∧ o.2.2.1 < i) := by
  refine T.eq (expr_ahead.f_eq · o i) (T.ite (fun h1 => T.ite (fun h2 => T.ite (fun h3 => T.pure fun h4 => ?_) (fun _ => T.pure (by simp))) (fun _ => T.pure (by simp))) (fun _ => T.pure (by simp)))
  simp only [decide_eq_true_eq] at *
  omega
theorem step_T (lv vars : Int) (o : O) (ds : List Int) : T (fun k => expr_step.f k lv vars o ds) (fun r => r.2 = 0 → okS vars ds.length o) := by
  refine T.eq (expr_step.f_eq · lv vars o ds) ?_
  repeat' (first
    | exact T.pure (fun h => absurd h (by decide))
    | refine T.bind (of_T _ _) fun _ _ => ?_
    | refine T.bind (ahead_T _ _) fun b hb => ?_
    | refine T.ite (fun _ => ?_) (fun _ => ?_))
  all_goals first
    | (refine T.pure fun _ => ?_; simp only [inB, beq_iff_eq, decide_eq_true_eq, decide_eq_false_iff_not, Bool.and_eq_true, beq_eq_false_iff_ne, ne_eq] at *; unfold okS; omega)
    | (exfalso; rename_i b hb h1 h2; obtain ⟨a1, a2, a3, a4⟩ := hb h1; rw [inB_int a1 a2] at h2; cases h2)
    | (exfalso; rename_i b hb h1 h2 h3; obtain ⟨a1, a2, a3, a4⟩ := hb h1; rw [inB_int a3 a4] at h3; cases h3)
theorem getD_app_lt {α : Type} (l : List α) (a d : α) {j : Nat} (h : j < l.length) : (l ++ [a]).getD j d = l.getD j d := by
  simp [List.getD_eq_getElem?_getD, List.getElem?_append_left h]
theorem lt_dec {i n : Nat} : decide ((i : Int) < (n : Int)) = true → i < n := fun h => by simpa using h
theorem nlt_dec {i n : Nat} : decide ((i : Int) < (n : Int)) = false → n ≤ i := fun h => by simpa using h
theorem inc {i : Nat} (h : i ≤ 100000000) : w64 ((i : Int) + 1) = (i : Int) + 1 := w64_in (by omega) (by omega)
/-- Steps that may be. -/
def okL (vars : Int) (l : List O) : Prop := ∀ j, j < l.length → okS vars j (l.getD j zo)
theorem degrees_T (lv vars : Int) (l : List O) : T (fun k => expr_degrees.f k lv vars l) (fun r => r.2 = 0 → r.1.length = l.length ∧ 0 < l.length ∧ l.length ≤ 200 ∧ okL vars l) := by
  refine T.eq (expr_degrees.f_eq · lv vars l) (T.bind (wide_T lv) fun _ _ => T.ite (fun _ => T.pure fun h => absurd h (by decide)) fun _ => T.ite (fun _ => T.pure fun h => absurd h (by decide)) fun _ => T.ite (fun _ => T.pure fun h => absurd h (by decide)) fun h0 => T.ite (fun _ => T.pure fun h => absurd h (by decide)) fun h1 => ?_)
  have hpos : 0 < l.length := by have : ¬ ((l.length : Int) = 0) := by simpa using h0
                                 omega
  have hle : l.length ≤ 200 := by have : ¬ ((l.length : Int) > 200) := by simpa using h1
                                  omega
  refine T.loop0 (f := fun k s i => expr_degrees.l122 k lv vars s l (l.length : Int) i) l.length (fun s i => s.length = i ∧ ∀ j, j < i → okS vars j (l.getD j zo)) [] ⟨rfl, fun j h => absurd h (by omega)⟩ fun s i hi hI ih => ?_
  refine T.eq (expr_degrees.l122_eq · lv vars s l _ _) (T.ite (fun hlt => ?_) (fun hge => ?_))
  · have hlt := lt_dec hlt
    have hroom : ∀ t : Int, room (s.length + ([t] : List Int).length) 8 = true := fun t => room_ok (by have := hI.1; simp only [List.length_singleton]; omega)
    refine T.yes (inB_nat hlt) (T.bind (step_T _ _ _ _) fun r hr => ?_)
    rw [inc (by omega)]
    have go : r.2 = 0 → T (fun k => expr_degrees.l122 k lv vars (s ++ [r.1]) l (l.length : Int) ((i : Int) + 1)) _ := fun h => ih _ hlt ⟨by simp [hI.1], fun j hj => by
      by_cases e : j = i
      · subst e; have := hr h; rw [hI.1] at this; simpa [zo] using this
      · exact hI.2 j (by omega)⟩
    have bad : ∀ {g : List Int} {e : Int}, e ≠ 0 → T (fun _ : Nat => (some (g, e) : Option (List Int × Int))) (fun r => r.2 = 0 → r.1.length = l.length ∧ 0 < l.length ∧ l.length ≤ 200 ∧ okL vars l) := fun he => T.pure fun h => absurd h he
    refine T.ite (fun h2 => T.ite (fun _ => T.yes (by decide) (bad (by decide))) (fun _ => T.ite (fun h => ?_) (fun _ => T.yes (hroom _) (go (by simpa using h2))))) (fun h2 => T.ite (fun h => bad (by simpa using h)) (fun h => T.yes (hroom _) (go (by simpa using h))))
    simp at h h2; exact absurd h2 h
  · have hge := nlt_dec hge
    have e : i = l.length := by omega
    subst e
    exact T.pure fun _ => ⟨hI.1, hpos, hle, hI.2⟩
theorem Check_T (lv vars : Int) (l : List O) : T (fun k => expr_Check.f k lv vars l) (fun e => e = 0 → 0 < l.length ∧ l.length ≤ 200 ∧ okL vars l) :=
  T.eq (expr_Check.f_eq · lv vars l) (T.bind (degrees_T lv vars l) fun r hr => T.pure fun h => (hr h).2)
/-- Tables that are not too great. -/
def fewT (t : List (List E)) : Prop := t.length ≤ 1000 ∧ ∀ i, (t.getD i []).length ≤ 100000000
/-- What is known of tables that may be. -/
def okT (t : List (List E)) : Prop := 0 < t.length ∧ ∀ i, i < t.length → (t.getD i []).length = (t.getD 0 []).length
end Go.Proofs.Ytplmejnoepkdgaa.H1
namespace Go.Proofs.Ytplmejnoepkdgaa.H1
open Go Go.Proofs.Ytplmejnoepkdgaa.Rf
noncomputable def Mv (lv : Int) (a b : E) : E := (Mul_T lv a b).choose
theorem Mv_ev (lv : Int) (a b : E) : Ev (fun k => tower_Mul.f k lv a b) (Mv lv a b) := (Mul_T lv a b).choose_spec.2
theorem Mv_T (lv : Int) (a b : E) : T (fun k => tower_Mul.f k lv a b) (fun r => r = Mv lv a b) := ⟨_, rfl, Mv_ev lv a b⟩
def Av (a b : E) : E := (xorI .u64 a.1 b.1, xorI .u64 a.2.1 b.2.1, ())
/-- A step's value. -/
noncomputable def nxt (lv : Int) (v out : List E) (o : O) : E :=
  if o.1 = 1 then o.2.2.2.1 else if o.1 = 2 then v.getD o.2.1.toNat z else if o.1 = 3 then Av (out.getD o.2.1.toNat z) (out.getD o.2.2.1.toNat z) else if o.1 = 4 then Mv lv (out.getD o.2.1.toNat z) (out.getD o.2.2.1.toNat z) else z
noncomputable def outs (lv : Int) (v : List E) : List E → List O → List E
  | out, [] => out
  | out, o :: l => outs lv v (out ++ [nxt lv v out o]) l
theorem outs_append (lv : Int) (v : List E) : ∀ (l m : List O) (out : List E), outs lv v out (l ++ m) = outs lv v (outs lv v out l) m
  | [], m, out => rfl
  | o :: l, m, out => outs_append lv v l m _
theorem take_snoc {α : Type} (l : List α) (d : α) {i : Nat} (h : i < l.length) : l.take (i + 1) = l.take i ++ [l.getD i d] := by
  rw [List.take_add_one, List.getElem?_eq_getElem h, List.getD_eq_getElem?_getD, List.getElem?_eq_getElem h]; rfl
theorem Eval_T (lv : Int) (l : List O) (v : List E) (hv : v.length ≤ 100000) : T (fun k => expr_Eval.f k lv l v) (fun r =>
    (Ev (fun k => expr_Check.f k lv (v.length : Int) l) 0 → (∀ i, i < v.length → ofB lv (v.getD i z) = true) → r.1 = (outs lv v [] l).getD (l.length - 1) z) ∧
    (r.1 = z ∨ (Ev (fun k => expr_Check.f k lv (v.length : Int) l) 0 ∧ ∀ i, i < v.length → ofB lv (v.getD i z) = true))) := by
  refine T.eq (expr_Eval.f_eq · lv l v) (T.bindE (Check_T lv _ l) fun e he hE => T.ite (fun h => T.pure ⟨fun h0 _ => ?_, .inl rfl⟩) fun h => ?_)
  · have := hE.uniq h0; subst this; simp at h
  have h : e = 0 := by simpa using h
  subst h
  obtain ⟨q1, q2, q3⟩ := he rfl
  refine T.loop0 (σ := Unit) (f := fun k _ i => expr_Eval.l58 k lv l v (0, 0, ()) v (v.length : Int) i) v.length (fun _ i => ∀ j, j < i → ofB lv (v.getD j z) = true) () (fun j h => absurd h (by omega)) fun s i hi hI ih => ?_
  refine T.eq (expr_Eval.l58_eq · lv l v _ v _ _) (T.ite (fun h => ?_) (fun h => ?_))
  · have hlt := lt_dec h
    simp only [Int.toNat_natCast]
    refine T.yes (inB_nat hlt) (T.bind (of_T _ _) fun b hb => T.ite (fun hn => T.pure ⟨fun _ ho => ?_, .inl rfl⟩) fun hy => ?_)
    · have := ho i hlt
      rw [show ofB lv (v.getD i z) = b from hb.symm] at this
      subst this; simp at hn
    · rw [inc (by omega)]
      refine ih () hlt fun j hj => ?_
      by_cases e : j = i
      · subst e
        rw [show ofB lv (v.getD j z) = b from hb.symm]; simpa using hy
      · exact hI j (by omega)
  · have e : i = v.length := by have := nlt_dec h; omega
    subst e
    refine T.loop0 (f := fun k s i => expr_Eval.l250 k lv v (0, 0, ()) s l (l.length : Int) i) l.length (fun s i => s = outs lv v [] (l.take i) ∧ s.length = i) [] ⟨rfl, rfl⟩ fun s i hi hI' ih => ?_
    refine T.eq (expr_Eval.l250_eq · lv v _ s l _ _) (T.ite (fun h => ?_) (fun h => ?_))
    · have hlt := lt_dec h
      simp only [Int.toNat_natCast]
      have hok := q3 i hlt
      obtain ⟨o, ho⟩ : ∃ o, o = l.getD i zo := ⟨_, rfl⟩
      have ho' : l.getD i (0, 0, 0, (0, 0, ()), ()) = o := ho.symm
      rw [← ho] at hok
      have hroom : ∀ t : E, room (s.length + ([t] : List E).length) 16 = true := fun t => room_ok (by have := hI'.2; simp only [List.length_singleton]; omega)
      have go : ∀ t, t = nxt lv v s o → T (fun k => expr_Eval.l250 k lv v (0, 0, ()) (s ++ [t]) l (l.length : Int) (w64 ((i : Int) + 1))) _ := fun t ht => by
        rw [inc (by omega)]
        refine ih _ hlt ⟨?_, by simp [hI'.2]⟩
        rw [take_snoc l zo hlt, outs_append, ← hI'.1, ht, ho]; rfl
      simp only [ho']
      obtain ⟨u1, u2, u3⟩ := hok
      rw [← hI'.2] at u3
      refine T.yes (inB_nat hlt) (T.ite (fun k1 => T.yes (hroom _) (go _ ?_)) fun k1 => T.ite (fun k2 => T.yes ?_ (T.yes (hroom _) (go _ ?_))) fun k2 => T.ite (fun k3 => T.yes ?_ (T.yes ?_ (T.bind (add_T _ _) fun t ht => T.yes (hroom _) (go _ ?_)))) fun k3 => T.ite (fun k4 => T.yes ?_ (T.yes ?_ (T.bind (Mv_T _ _ _) fun t ht => T.yes (hroom _) (go _ ?_)))) fun k4 => T.yes (hroom _) (go _ ?_))
      all_goals simp only [beq_iff_eq, beq_eq_false_iff_ne, ne_eq] at *
      · rw [nxt, if_pos k1]
      · exact inB_int (u2 k2).1 (u2 k2).2
      · rw [nxt, if_neg k1, if_pos k2]; rfl
      · exact inB_int (u3 (.inl k3)).1 (u3 (.inl k3)).2.1
      · exact inB_int (u3 (.inl k3)).2.2.1 (u3 (.inl k3)).2.2.2
      · rw [nxt, if_neg k1, if_neg k2, if_pos k3, ht]; rfl
      · exact inB_int (u3 (.inr k4)).1 (u3 (.inr k4)).2.1
      · exact inB_int (u3 (.inr k4)).2.2.1 (u3 (.inr k4)).2.2.2
      · rw [nxt, if_neg k1, if_neg k2, if_neg k3, if_pos k4, ht]; rfl
      · rw [nxt, if_neg k1, if_neg k2, if_neg k3, if_neg k4]; rfl
    · have e : i = l.length := by have := nlt_dec h; omega
      subst e
      rw [List.take_length] at hI'
      have hw : w64 ((s.length : Int) - 1) = ((l.length - 1 : Nat) : Int) := by rw [w64_in (by omega) (by omega)]; omega
      rw [hw]
      refine T.yes (inB_nat (by omega)) (T.pure ⟨fun _ _ => ?_, .inr ⟨hE, hI⟩⟩)
      rw [Int.toNat_natCast, hI'.1]; rfl
end Go.Proofs.Ytplmejnoepkdgaa.H1
namespace Go.Proofs.Ytplmejnoepkdgaa.H1
open Go Go.Proofs.Ytplmejnoepkdgaa.Rf
/-- One corner's values. -/
def col (t : List (List E)) (i : Nat) : List E := t.map fun x => x.getD i z
theorem col_len (t : List (List E)) (i : Nat) : (col t i).length = t.length := by simp [col]
theorem col_at (t : List (List E)) (i j : Nat) (h : j < t.length) : (col t i).getD j z = (t.getD j []).getD i z := by
  simp [col, List.getD_eq_getElem?_getD, h]
theorem set_get {α : Type} (l : List α) (i j : Nat) (a d : α) (hi : i < l.length) : (l.set i a).getD j d = if j = i then a else l.getD j d := by
  by_cases h : j = i
  · subst h; simp [List.getD_eq_getElem?_getD, hi]
  · simp [List.getD_eq_getElem?_getD, h, List.getElem?_set_ne (Ne.symm h)]
theorem list_eq {α : Type} {l m : List α} (d : α) (hl : l.length = m.length) (h : ∀ j, j < m.length → l.getD j d = m.getD j d) : l = m := by
  apply List.ext_getElem hl
  intro j h1 h2
  have := h j h2
  simpa [List.getD_eq_getElem?_getD, h1, h2] using this
end Go.Proofs.Ytplmejnoepkdgaa.H1
namespace Go.Proofs.Ytplmejnoepkdgaa.H1
open Go Go.Proofs.Ytplmejnoepkdgaa.Rf
theorem nilB_same {α β : Type} (l : List α) (a b : Option β) (h : l.isEmpty = true → b = a) : nilB l a b = b := by
  unfold nilB
  cases hl : l.isEmpty with
  | false => rfl
  | true => rw [h hl]; simp [both]
end Go.Proofs.Ytplmejnoepkdgaa.H1
namespace Go.Proofs.Ytplmejnoepkdgaa.H1
open Go Go.Proofs.Ytplmejnoepkdgaa.Rf
end Go.Proofs.Ytplmejnoepkdgaa.H1
namespace Go.Proofs.Ytplmejnoepkdgaa.H1
open Go Go.Proofs.Ytplmejnoepkdgaa.Rf
end Go.Proofs.Ytplmejnoepkdgaa.H1
namespace Go.Proofs.Ytplmejnoepkdgaa.H1
open Go Go.Proofs.Ytplmejnoepkdgaa.Rf
def rng (n : Int) : Prop := 0 ≤ n ∧ n < 18446744073709551616
theorem wrap_rng (n : Int) : rng (IntKind.u64.wrap n) := by
  have : IntKind.u64.wrap n = n % 18446744073709551616 := by unfold IntKind.wrap; simp [IntKind.signed, IntKind.bits]
  rw [this]; exact ⟨Int.emod_nonneg _ (by decide), Int.emod_lt_of_pos _ (by decide)⟩
theorem wrap_in {n : Int} (h : rng n) : IntKind.u64.wrap n = n := by
  have : IntKind.u64.wrap n = n % 18446744073709551616 := by unfold IntKind.wrap; simp [IntKind.signed, IntKind.bits]
  rw [this]; exact Int.emod_eq_of_lt h.1 h.2
theorem xor_rng (a b : Int) : rng (xorI .u64 a b) := wrap_rng _
theorem ofInt_nat {n : Int} (h : rng n) : ((BitVec.ofInt 64 n).toNat : Int) = n := by
  rw [BitVec.toNat_ofInt]
  obtain ⟨h1, h2⟩ := h
  have : n % ((2 ^ 64 : Nat) : Int) = n := Int.emod_eq_of_lt h1 (by simpa using h2)
  rw [this]; omega
theorem xor_zl {n : Int} (h : rng n) : xorI .u64 0 n = n := by
  unfold xorI
  have e : IntKind.u64.bits = 64 := rfl
  rw [e, show BitVec.ofInt 64 0 = 0#64 by decide, BitVec.zero_xor, ofInt_nat h]; exact wrap_in h
theorem xor_zr {n : Int} (h : rng n) : xorI .u64 n 0 = n := by
  unfold xorI
  have e : IntKind.u64.bits = 64 := rfl
  rw [e, show BitVec.ofInt 64 0 = 0#64 by decide, BitVec.xor_zero, ofInt_nat h]; exact wrap_in h
def rngE (x : E) : Prop := rng x.1 ∧ rng x.2.1
theorem rngE_z : rngE z := ⟨⟨by decide, by decide⟩, by decide, by decide⟩
theorem Av_zl {x : E} (h : rngE x) : Av z x = x := Prod.ext (xor_zl h.1) (Prod.ext (xor_zl h.2) rfl)
theorem Av_zr {x : E} (h : rngE x) : Av x z = x := Prod.ext (xor_zr h.1) (Prod.ext (xor_zr h.2) rfl)
def one : E := (0, 1, ())
theorem ofB_bit {lv : Int} (h1 : 0 ≤ lv) (h2 : lv ≤ 7) : ofB lv z = true ∧ ofB lv one = true := by
  have hl : lv = 0 ∨ lv = 1 ∨ lv = 2 ∨ lv = 3 ∨ lv = 4 ∨ lv = 5 ∨ lv = 6 ∨ lv = 7 := by omega
  rcases hl with rfl | rfl | rfl | rfl | rfl | rfl | rfl | rfl <;> decide
end Go.Proofs.Ytplmejnoepkdgaa.H1
namespace Go.Proofs.Ytplmejnoepkdgaa.H1
open Go Go.Proofs.Ytplmejnoepkdgaa.Rf
/-- All elements are of a level. -/
def allOf (lv : Int) (l : List E) : Prop := ∀ j, j < l.length → ofB lv (l.getD j z) = true
theorem of1_S (x : E) (lv : Int) : T (fun k => sumcheck_of_1.f k x lv) (fun b => b = !ofB lv x) := T.eq (sumcheck_of_1.f_eq · x lv) (T.bind (of_T lv x) fun b hb => T.pure (by rw [hb]))
/-- Evaluating what may be evaluated is no error. -/
theorem Eval_ok (lv : Int) (l : List O) (v : List E) (hv : v.length ≤ 100000) (hc : Ev (fun k => expr_Check.f k lv (v.length : Int) l) 0) (ho : allOf lv v) : T (fun k => expr_Eval.f k lv l v) (fun r => r.2 = 0) := by
  obtain ⟨q1, q2, q3⟩ := (Check_T lv _ l).of hc rfl
  refine T.eq (expr_Eval.f_eq · lv l v) (T.bindE (Check_T lv _ l) fun e he hE => T.ite (fun h => ?_) fun h => ?_)
  · have := hE.uniq hc; subst this; simp at h
  refine T.loop0 (σ := Unit) (f := fun k _ i => expr_Eval.l58 k lv l v (0, 0, ()) v (v.length : Int) i) v.length (fun _ i => True) () trivial fun s i hi hI ih => ?_
  refine T.eq (expr_Eval.l58_eq · lv l v _ v _ _) (T.ite (fun h => ?_) (fun h => ?_))
  · have hlt := lt_dec h
    simp only [Int.toNat_natCast]
    refine T.yes (inB_nat hlt) (T.bind (of_T _ _) fun b hb => T.no ?_ ?_)
    · rw [hb, show v.getD i (0, 0, ()) = v.getD i z from rfl, ho i hlt]; rfl
    · rw [inc (by omega)]; exact ih () hlt trivial
  · refine T.loop0 (f := fun k s i => expr_Eval.l250 k lv v (0, 0, ()) s l (l.length : Int) i) l.length (fun s i => s.length = i) [] rfl fun s i hi hI' ih => ?_
    refine T.eq (expr_Eval.l250_eq · lv v _ s l _ _) (T.ite (fun h => ?_) (fun h => ?_))
    · have hlt := lt_dec h
      simp only [Int.toNat_natCast]
      have hok := q3 i hlt
      obtain ⟨o, hoo⟩ : ∃ o, o = l.getD i zo := ⟨_, rfl⟩
      have ho' : l.getD i (0, 0, 0, (0, 0, ()), ()) = o := hoo.symm
      rw [← hoo] at hok
      have hroom : ∀ t : E, room (s.length + ([t] : List E).length) 16 = true := fun t => room_ok (by simp only [List.length_singleton]; omega)
      have go : ∀ t, T (fun k => expr_Eval.l250 k lv v (0, 0, ()) (s ++ [t]) l (l.length : Int) (w64 ((i : Int) + 1))) _ := fun t => by
        rw [inc (by omega)]
        exact ih _ hlt (by simp [hI'])
      simp only [ho']
      obtain ⟨u1, u2, u3⟩ := hok
      rw [← hI'] at u3
      refine T.yes (inB_nat hlt) (T.ite (fun k1 => T.yes (hroom _) (go _)) fun k1 => T.ite (fun k2 => T.yes ?_ (T.yes (hroom _) (go _))) fun k2 => T.ite (fun k3 => T.yes ?_ (T.yes ?_ (T.bind (add_T _ _) fun t ht => T.yes (hroom _) (go _)))) fun k3 => T.ite (fun k4 => T.yes ?_ (T.yes ?_ (T.bind (Mv_T _ _ _) fun t ht => T.yes (hroom _) (go _)))) fun k4 => T.yes (hroom _) (go _))
      all_goals simp only [beq_iff_eq, beq_eq_false_iff_ne, ne_eq] at *
      · exact inB_int (u2 k2).1 (u2 k2).2
      · exact inB_int (u3 (.inl k3)).1 (u3 (.inl k3)).2.1
      · exact inB_int (u3 (.inl k3)).2.2.1 (u3 (.inl k3)).2.2.2
      · exact inB_int (u3 (.inr k4)).1 (u3 (.inr k4)).2.1
      · exact inB_int (u3 (.inr k4)).2.2.1 (u3 (.inr k4)).2.2.2
    · have e : i = l.length := by have := nlt_dec h; omega
      subst e
      have hw : w64 ((s.length : Int) - 1) = ((l.length - 1 : Nat) : Int) := by rw [w64_in (by omega) (by omega)]; omega
      rw [hw]
      exact T.yes (inB_nat (by omega)) (T.pure rfl)
end Go.Proofs.Ytplmejnoepkdgaa.H1
namespace Go.Proofs.Ytplmejnoepkdgaa.H1
open Go Go.Proofs.Ytplmejnoepkdgaa.Rf
def fold (f : Nat → E) : Nat → E
  | 0 => z
  | n + 1 => Av (fold f n) (f n)
theorem sum_S (lv : Int) (l : List O) (t : List (List E)) (ht : fewT t) (h1 : okT t) : T (fun k => sumcheck_sum.f k lv l t) (fun r => ∀ f : Nat → E, (∀ i, i < (t.getD 0 []).length → ∀ r', Ev (fun k => expr_Eval.f k lv l (col t i)) r' → r'.1 = f i) → r = fold f (t.getD 0 []).length) := by
  have hlen := ht.2 0
  have h1000 := ht.1
  refine T.eq (sumcheck_sum.f_eq · lv l t) (T.yes (inB_nat (i := 0) h1.1) (T.loop0 (f := fun k s i => sumcheck_sum.l58 k lv l t (0, 0, ()) s ((t.getD 0 []).length : Int) i) (t.getD 0 []).length (fun s n => ∀ f : Nat → E, (∀ i, i < (t.getD 0 []).length → ∀ r', Ev (fun k => expr_Eval.f k lv l (col t i)) r' → r'.1 = f i) → s = fold f n) _ (fun _ _ => rfl) fun acc i hi hI ih => ?_))
  refine T.eq (sumcheck_sum.l58_eq · lv l t _ acc _ _) (T.ite (fun h => ?_) (fun h => ?_))
  rotate_left
  · have e : i = (t.getD 0 []).length := Nat.le_antisymm hi (nlt_dec h)
    subst e
    exact T.pure hI
  have hlt := lt_dec h
  refine T.yes ?_ ?_
  · simp only [makeB, Bool.and_eq_true, decide_eq_true_eq]
    exact ⟨⟨by omega, by omega⟩, room_ok (by simp only [Int.toNat_natCast]; omega)⟩
  refine T.loop0 (f := fun k s n => sumcheck_sum.l59802 k lv l t (0, 0, ()) acc (i : Int) s ((t.getD 0 []).length : Int) (i : Int) t (t.length : Int) n) t.length (fun s n => s.length = t.length ∧ ∀ j, j < n → s.getD j z = (t.getD j []).getD i z) _ ⟨by simp, fun j h => absurd h (by omega)⟩ fun s n hn hI2 ih2 => ?_
  refine T.eq (sumcheck_sum.l59802_eq · lv l t _ acc _ s _ _ t _ _) (T.ite (fun h => ?_) (fun h => ?_))
  · have hlt2 := lt_dec h
    simp only [Int.toNat_natCast]
    refine T.yes (inB_nat hlt2) (T.yes (inB_nat (by have := h1.2 n hlt2; omega)) (T.yes (inB_nat (by omega)) ?_))
    rw [inc (by omega)]
    refine ih2 _ hlt2 ⟨by simp [hI2.1], fun j hj => ?_⟩
    rw [set_get _ _ _ _ _ (by omega)]
    split
    · rename_i e; subst e; rfl
    · exact hI2.2 j (by omega)
  · have e : n = t.length := by have := nlt_dec h; omega
    subst e
    have hs : s = col t i := list_eq z (by rw [col_len]; exact hI2.1) fun j hj => by rw [col_len] at hj; rw [hI2.2 j hj, col_at t i j hj]
    subst hs
    refine T.bindE (Eval_T lv l _ (by rw [col_len]; omega)) fun r _ hE => T.bind (add_T _ _) fun a ha => ?_
    rw [inc (by omega)]
    refine ih a hlt fun f H => ?_
    rw [ha, hI f H, H i hlt r hE]; rfl
end Go.Proofs.Ytplmejnoepkdgaa.H1
namespace Go.Proofs.Ytplmejnoepkdgaa.H1
open Go Go.Proofs.Ytplmejnoepkdgaa.Rf
theorem T.both {α : Type} {g : Nat → Option α} {p q : α → Prop} (h1 : T g p) (h2 : T g q) : T g (fun a => p a ∧ q a) := by
  obtain ⟨a, ha, he⟩ := h1
  exact ⟨a, ⟨ha, h2.of he⟩, he⟩
theorem Ev.T {α : Type} {g : Nat → Option α} {a : α} (h : Ev g a) : T g (fun r => r = a) := ⟨a, rfl, h⟩
theorem shl_pow {m : Nat} (h : m ≤ 6) : shlI .i64 1 (m : Int) = ((2 ^ m : Nat) : Int) := by
  have hl : m = 0 ∨ m = 1 ∨ m = 2 ∨ m = 3 ∨ m = 4 ∨ m = 5 ∨ m = 6 := by omega
  rcases hl with rfl | rfl | rfl | rfl | rfl | rfl | rfl <;> decide
theorem wu_in {n : Int} (h1 : 0 ≤ n) (h2 : n < 18446744073709551616) : wu64 n = n := wrap_in ⟨h1, h2⟩
end Go.Proofs.Ytplmejnoepkdgaa.H1
namespace Go.Proofs.Ytplmejnoepkdgaa.Tow
/-- Words of a level, times the level's generator. -/
def mulX : Nat → Nat → Nat
  | 0, a => a
  | l + 1, a => (((a &&& (2 ^ 2 ^ l - 1)) ^^^ mulX l (a >>> 2 ^ l)) <<< 2 ^ l) ^^^ (a >>> 2 ^ l)
/-- The product of words of a level. -/
def mul : Nat → Nat → Nat → Nat
  | 0, a, b => a &&& b &&& 1
  | l + 1, a, b =>
    match Nat.beq a 0 || Nat.beq b 0 with
    | true => 0
    | false =>
      ((mul l ((a >>> 2 ^ l) ^^^ (a &&& (2 ^ 2 ^ l - 1))) ((b >>> 2 ^ l) ^^^ (b &&& (2 ^ 2 ^ l - 1))) ^^^ mul l (a >>> 2 ^ l) (b >>> 2 ^ l) ^^^ mul l (a &&& (2 ^ 2 ^ l - 1)) (b &&& (2 ^ 2 ^ l - 1)) ^^^ mulX l (mul l (a >>> 2 ^ l) (b >>> 2 ^ l))) <<< 2 ^ l)
        ^^^ (mul l (a &&& (2 ^ 2 ^ l - 1)) (b &&& (2 ^ 2 ^ l - 1)) ^^^ mul l (a >>> 2 ^ l) (b >>> 2 ^ l))
theorem mulX0 : ∀ l, mulX l 0 = 0
  | 0 => rfl
  | l + 1 => by simp [mulX, mulX0 l]
theorem mul0l : ∀ l b, mul l 0 b = 0
  | 0, b => by simp [mul]
  | l + 1, b => rfl
theorem mul0r : ∀ l a, mul l a 0 = 0
  | 0, a => by simp [mul]
  | l + 1, a => by
    unfold mul
    have : (Nat.beq a 0 || Nat.beq 0 0) = true := by simp
    rw [this]
theorem mul_eq (l a b : Nat) : mul (l + 1) a b =
      ((mul l ((a >>> 2 ^ l) ^^^ (a &&& (2 ^ 2 ^ l - 1))) ((b >>> 2 ^ l) ^^^ (b &&& (2 ^ 2 ^ l - 1))) ^^^ mul l (a >>> 2 ^ l) (b >>> 2 ^ l) ^^^ mul l (a &&& (2 ^ 2 ^ l - 1)) (b &&& (2 ^ 2 ^ l - 1)) ^^^ mulX l (mul l (a >>> 2 ^ l) (b >>> 2 ^ l))) <<< 2 ^ l)
        ^^^ (mul l (a &&& (2 ^ 2 ^ l - 1)) (b &&& (2 ^ 2 ^ l - 1)) ^^^ mul l (a >>> 2 ^ l) (b >>> 2 ^ l)) := by
  by_cases ha : a = 0
  · subst ha
    simp [mul0l, mulX0]
  · by_cases hb : b = 0
    · subst hb
      simp [mul0r, mulX0]
    · cases a with
      | zero => exact absurd rfl ha
      | succ a =>
        cases b with
        | zero => exact absurd rfl hb
        | succ b => rfl
theorem mulX_xor : ∀ l a b, mulX l (a ^^^ b) = mulX l a ^^^ mulX l b
  | 0, a, b => rfl
  | l + 1, a, b => by
    simp only [mulX, Nat.shiftRight_xor_distrib, Nat.and_xor_distrib_right, mulX_xor l, Nat.shiftLeft_xor_distrib]
    ac_rfl
theorem mul_xorl : ∀ l a a' b, mul l (a ^^^ a') b = mul l a b ^^^ mul l a' b
  | 0, a, a', b => by simp only [mul, Nat.and_xor_distrib_right]
  | l + 1, a, a', b => by
    have e : ((a ^^^ a') >>> 2 ^ l) ^^^ ((a ^^^ a') &&& (2 ^ 2 ^ l - 1)) = ((a >>> 2 ^ l) ^^^ (a &&& (2 ^ 2 ^ l - 1))) ^^^ ((a' >>> 2 ^ l) ^^^ (a' &&& (2 ^ 2 ^ l - 1))) := by
      simp only [Nat.shiftRight_xor_distrib, Nat.and_xor_distrib_right]; ac_rfl
    simp only [mul_eq, e]
    simp only [Nat.shiftRight_xor_distrib, Nat.and_xor_distrib_right, mul_xorl l, mulX_xor, Nat.shiftLeft_xor_distrib]
    ac_rfl
theorem mul_xorr : ∀ l a b b', mul l a (b ^^^ b') = mul l a b ^^^ mul l a b'
  | 0, a, b, b' => by simp only [mul, Nat.and_xor_distrib_left, Nat.and_xor_distrib_right]
  | l + 1, a, b, b' => by
    have e : ((b ^^^ b') >>> 2 ^ l) ^^^ ((b ^^^ b') &&& (2 ^ 2 ^ l - 1)) = ((b >>> 2 ^ l) ^^^ (b &&& (2 ^ 2 ^ l - 1))) ^^^ ((b' >>> 2 ^ l) ^^^ (b' &&& (2 ^ 2 ^ l - 1))) := by
      simp only [Nat.shiftRight_xor_distrib, Nat.and_xor_distrib_right]; ac_rfl
    simp only [mul_eq, e]
    simp only [Nat.shiftRight_xor_distrib, Nat.and_xor_distrib_right, mul_xorr l, mulX_xor, Nat.shiftLeft_xor_distrib]
    ac_rfl
theorem xor_shl {w x y : Nat} (h : y < 2 ^ w) : x <<< w + y = x <<< w ^^^ y := by
  rw [Nat.shiftLeft_eq, Nat.mul_comm, Nat.two_pow_add_eq_or_of_lt h x]
  apply Nat.eq_of_testBit_eq
  intro i
  rw [Nat.testBit_or, Nat.testBit_xor]
  by_cases e : i < w
  · have : (2 ^ w * x).testBit i = false := by
      rw [Nat.mul_comm, ← Nat.shiftLeft_eq, Nat.testBit_shiftLeft]; simp; omega
    rw [this]; simp
  · have : y.testBit i = false := Nat.testBit_lt_two_pow (Nat.lt_of_lt_of_le h (Nat.pow_le_pow_right (by decide) (by omega)))
    rw [this]; simp
/-- A word's halves. -/
theorem halves (w a : Nat) : a = (a >>> w) <<< w ^^^ (a &&& (2 ^ w - 1)) := by
  have hlt : a &&& (2 ^ w - 1) < 2 ^ w := by rw [Nat.and_two_pow_sub_one_eq_mod]; exact Nat.mod_lt _ (Nat.two_pow_pos w)
  rw [← xor_shl hlt, Nat.and_two_pow_sub_one_eq_mod, Nat.shiftLeft_eq, Nat.shiftRight_eq_div_pow]
  rw [Nat.mul_comm]; exact (Nat.div_add_mod a (2 ^ w)).symm
theorem lo_lt (w a : Nat) : a &&& (2 ^ w - 1) < 2 ^ w := by rw [Nat.and_two_pow_sub_one_eq_mod]; exact Nat.mod_lt _ (Nat.two_pow_pos w)
theorem hi_lt {w a : Nat} (h : a < 2 ^ (w + w)) : a >>> w < 2 ^ w := by
  rw [Nat.shiftRight_eq_div_pow, Nat.div_lt_iff_lt_mul (Nat.two_pow_pos w), ← Nat.pow_add]; exact h
theorem hi_of {w x y : Nat} (h : y < 2 ^ w) : (x <<< w ^^^ y) >>> w = x := by
  rw [← xor_shl h, Nat.shiftRight_eq_div_pow, Nat.shiftLeft_eq, Nat.add_comm, Nat.add_mul_div_right _ _ (Nat.two_pow_pos w), Nat.div_eq_of_lt h, Nat.zero_add]
theorem lo_of {w x y : Nat} (h : y < 2 ^ w) : (x <<< w ^^^ y) &&& (2 ^ w - 1) = y := by
  rw [← xor_shl h, Nat.and_two_pow_sub_one_eq_mod, Nat.shiftLeft_eq, Nat.add_comm, Nat.add_mul_mod_self_right, Nat.mod_eq_of_lt h]
theorem cat_lt {w x y : Nat} (hx : x < 2 ^ w) (hy : y < 2 ^ w) : x <<< w ^^^ y < 2 ^ (w + w) := by
  rw [← xor_shl hy, Nat.shiftLeft_eq, Nat.pow_add]
  have : (x + 1) * 2 ^ w ≤ 2 ^ w * 2 ^ w := Nat.mul_le_mul_right _ hx
  rw [Nat.add_mul] at this; omega
theorem two_two (l : Nat) : 2 ^ 2 ^ (l + 1) = 2 ^ (2 ^ l + 2 ^ l) := by rw [Nat.pow_succ, Nat.mul_two]
theorem mulX_lt : ∀ (l : Nat) (a : Nat), a < 2 ^ 2 ^ l → mulX l a < 2 ^ 2 ^ l
  | 0, a, h => h
  | l + 1, a, h => by
    rw [two_two] at h ⊢
    exact cat_lt (Nat.xor_lt_two_pow (lo_lt _ _) (mulX_lt l _ (hi_lt h))) (hi_lt h)
theorem mul_lt : ∀ (l : Nat) (a b : Nat), a < 2 ^ 2 ^ l → b < 2 ^ 2 ^ l → mul l a b < 2 ^ 2 ^ l
  | 0, a, b, _, _ => by
    simp only [mul]
    have : a &&& b &&& 1 ≤ 1 := Nat.and_le_right
    have e : (2 : Nat) ^ 2 ^ 0 = 2 := rfl
    omega
  | l + 1, a, b, ha, hb => by
    rw [two_two] at ha hb ⊢
    rw [mul_eq]
    have h1 := hi_lt ha
    have h2 := hi_lt hb
    have h3 := lo_lt (2 ^ l) a
    have h4 := lo_lt (2 ^ l) b
    have hh := mul_lt l _ _ h1 h2
    have hl := mul_lt l _ _ h3 h4
    have hm := mul_lt l _ _ (Nat.xor_lt_two_pow h1 h3) (Nat.xor_lt_two_pow h2 h4)
    exact cat_lt (Nat.xor_lt_two_pow (Nat.xor_lt_two_pow (Nat.xor_lt_two_pow hm hh) hl) (mulX_lt l _ hh)) (Nat.xor_lt_two_pow hl hh)
/-- A lower level's words multiply as before. -/
theorem mul_up {l a b : Nat} (ha : a < 2 ^ 2 ^ l) (hb : b < 2 ^ 2 ^ l) : mul (l + 1) a b = mul l a b := by
  rw [mul_eq]
  have h1 : a >>> 2 ^ l = 0 := by rw [Nat.shiftRight_eq_div_pow]; exact Nat.div_eq_of_lt ha
  have h2 : b >>> 2 ^ l = 0 := by rw [Nat.shiftRight_eq_div_pow]; exact Nat.div_eq_of_lt hb
  have h3 : a &&& (2 ^ 2 ^ l - 1) = a := by rw [Nat.and_two_pow_sub_one_eq_mod]; exact Nat.mod_eq_of_lt ha
  have h4 : b &&& (2 ^ 2 ^ l - 1) = b := by rw [Nat.and_two_pow_sub_one_eq_mod]; exact Nat.mod_eq_of_lt hb
  rw [h1, h2, h3, h4]
  simp [mul0l, mulX0]
end Go.Proofs.Ytplmejnoepkdgaa.Tow
namespace Go.Proofs.Ytplmejnoepkdgaa.Tow
theorem x4 (p q r s : Nat) : (p ^^^ q) ^^^ (r ^^^ s) = (p ^^^ r) ^^^ (q ^^^ s) := by ac_rfl
/-- What is checked bit by bit. -/
def allB : Nat → (Nat → Bool) → Bool
  | 0, _ => true
  | n + 1, p => p n && allB n p
end Go.Proofs.Ytplmejnoepkdgaa.Tow
namespace Go.Proofs.Ytplmejnoepkdgaa.Tow
theorem mul_to7 {l a b : Nat} (hl : l ≤ 7) (ha : a < 2 ^ 2 ^ l) (hb : b < 2 ^ 2 ^ l) : mul 7 a b = mul l a b := by
  have up : ∀ m, l ≤ m → m ≤ 7 → mul m a b = mul l a b := by
    intro m
    induction m with
    | zero => intro h _; have : l = 0 := by omega
              subst this; rfl
    | succ m ih =>
      intro h1 h2
      by_cases e : l = m + 1
      · subst e; rfl
      · have hle : 2 ^ 2 ^ l ≤ 2 ^ 2 ^ m := Nat.pow_le_pow_right (by decide) (Nat.pow_le_pow_right (by decide) (by omega))
        rw [mul_up (Nat.lt_of_lt_of_le ha hle) (Nat.lt_of_lt_of_le hb hle)]
        exact ih (by omega) (by omega)
  exact up 7 hl (Nat.le_refl _)
end Go.Proofs.Ytplmejnoepkdgaa.Tow
namespace Go.Proofs.Ytplmejnoepkdgaa.Tow
/-! The tower's fields. -/
theorem mul_comm : ∀ l a b, mul l a b = mul l b a
  | 0, a, b => by simp only [mul, Nat.and_comm a b]
  | l + 1, a, b => by
    rw [mul_eq l a b, mul_eq l b a, mul_comm l (b >>> 2 ^ l ^^^ (b &&& (2 ^ 2 ^ l - 1))) _, mul_comm l (b >>> 2 ^ l) _, mul_comm l (b &&& (2 ^ 2 ^ l - 1)) _]
theorem split {l a : Nat} (h : a < 2 ^ 2 ^ (l + 1)) : ∃ a1 a0, a1 < 2 ^ 2 ^ l ∧ a0 < 2 ^ 2 ^ l ∧ a = a1 <<< 2 ^ l ^^^ a0 := by
  rw [two_two] at h
  exact ⟨_, _, hi_lt h, lo_lt (2 ^ l) a, halves _ _⟩
theorem xa (p q r s x : Nat) : (p ^^^ q ^^^ (r ^^^ s)) ^^^ p ^^^ s ^^^ x = q ^^^ r ^^^ x := by
  have e : (p ^^^ q ^^^ (r ^^^ s)) ^^^ p ^^^ s ^^^ x = (p ^^^ p) ^^^ ((s ^^^ s) ^^^ (q ^^^ r ^^^ x)) := by ac_rfl
  rw [e, Nat.xor_self, Nat.xor_self, Nat.zero_xor, Nat.zero_xor]
theorem mul_cat {l a1 a0 b1 b0 : Nat} (h1 : a0 < 2 ^ 2 ^ l) (h2 : b0 < 2 ^ 2 ^ l) : mul (l + 1) (a1 <<< 2 ^ l ^^^ a0) (b1 <<< 2 ^ l ^^^ b0) =
    (mul l a1 b0 ^^^ mul l a0 b1 ^^^ mulX l (mul l a1 b1)) <<< 2 ^ l ^^^ (mul l a0 b0 ^^^ mul l a1 b1) := by
  rw [mul_eq, hi_of h1, hi_of h2, lo_of h1, lo_of h2, mul_xorl, mul_xorr, mul_xorr, xa]
theorem mulX_cat {l a1 a0 : Nat} (h : a0 < 2 ^ 2 ^ l) : mulX (l + 1) (a1 <<< 2 ^ l ^^^ a0) = (a0 ^^^ mulX l a1) <<< 2 ^ l ^^^ a1 := by
  rw [mulX, hi_of h, lo_of h]
theorem xlt {w a b : Nat} (h : a < 2 ^ w) (k : b < 2 ^ w) : a ^^^ b < 2 ^ w := Nat.xor_lt_two_pow h k
theorem mulX_mul : ∀ (l a b : Nat), a < 2 ^ 2 ^ l → b < 2 ^ 2 ^ l → mulX l (mul l a b) = mul l (mulX l a) b
  | 0, a, b, _, _ => rfl
  | l + 1, a, b, ha, hb => by
    obtain ⟨a1, a0, g1, g0, rfl⟩ := split ha
    obtain ⟨b1, b0, k1, k0, rfl⟩ := split hb
    have ih := mulX_mul l
    have m := mul_lt l
    rw [mul_cat g0 k0, mulX_cat (xlt (m _ _ g0 k0) (m _ _ g1 k1)), mulX_cat g0, mul_cat g1 k0]
    have e1 : mul l a0 b0 ^^^ mul l a1 b1 ^^^ mulX l (mul l a1 b0 ^^^ mul l a0 b1 ^^^ mulX l (mul l a1 b1)) = mul l (a0 ^^^ mulX l a1) b0 ^^^ mul l a1 b1 ^^^ mulX l (mul l (a0 ^^^ mulX l a1) b1) := by
      simp only [mul_xorl, mulX_xor, ← ih _ _ g1 k0, ← ih _ _ g1 k1]; ac_rfl
    have e2 : mul l a1 b0 ^^^ mul l a0 b1 ^^^ mulX l (mul l a1 b1) = mul l a1 b0 ^^^ mul l (a0 ^^^ mulX l a1) b1 := by
      simp only [mul_xorl, ← ih _ _ g1 k1]; ac_rfl
    rw [e1, e2]
theorem mulX_mulr {l a b : Nat} (ha : a < 2 ^ 2 ^ l) (hb : b < 2 ^ 2 ^ l) : mulX l (mul l a b) = mul l a (mulX l b) := by
  rw [mul_comm l a b, mulX_mul l b a hb ha, mul_comm]
theorem mul_assoc : ∀ (l a b c : Nat), a < 2 ^ 2 ^ l → b < 2 ^ 2 ^ l → c < 2 ^ 2 ^ l → mul l (mul l a b) c = mul l a (mul l b c)
  | 0, a, b, c, _, _, _ => by
    simp only [mul]
    apply Nat.eq_of_testBit_eq
    intro i
    simp only [Nat.testBit_and]
    cases a.testBit i <;> cases b.testBit i <;> cases c.testBit i <;> cases (Nat.testBit 1 i) <;> rfl
  | l + 1, a, b, c, ha, hb, hc => by
    obtain ⟨a1, a0, g1, g0, rfl⟩ := split ha
    obtain ⟨b1, b0, k1, k0, rfl⟩ := split hb
    obtain ⟨c1, c0, m1, m0, rfl⟩ := split hc
    have ih := mul_assoc l
    have L := mul_lt l
    have X := mulX_lt l
    rw [mul_cat g0 k0, mul_cat k0 m0, mul_cat (xlt (L _ _ g0 k0) (L _ _ g1 k1)) m0, mul_cat g0 (xlt (L _ _ k0 m0) (L _ _ k1 m1))]
    have e1 : mul l (mul l a1 b0 ^^^ mul l a0 b1 ^^^ mulX l (mul l a1 b1)) c0 ^^^ mul l (mul l a0 b0 ^^^ mul l a1 b1) c1 ^^^ mulX l (mul l (mul l a1 b0 ^^^ mul l a0 b1 ^^^ mulX l (mul l a1 b1)) c1)
        = mul l a1 (mul l b0 c0 ^^^ mul l b1 c1) ^^^ mul l a0 (mul l b1 c0 ^^^ mul l b0 c1 ^^^ mulX l (mul l b1 c1)) ^^^ mulX l (mul l a1 (mul l b1 c0 ^^^ mul l b0 c1 ^^^ mulX l (mul l b1 c1))) := by
      simp only [mul_xorl, mul_xorr, mulX_xor, ← mulX_mul l _ _ (L _ _ g1 k1) m0, ← mulX_mul l _ _ (L _ _ g1 k1) m1, ← mulX_mulr g0 (L _ _ k1 m1), ← mulX_mulr g1 (L _ _ k1 m1), ih _ _ _ g1 k0 m0, ih _ _ _ g0 k1 m0, ih _ _ _ g1 k1 m0, ih _ _ _ g0 k0 m1, ih _ _ _ g1 k1 m1, ih _ _ _ g1 k0 m1, ih _ _ _ g0 k1 m1]; ac_rfl
    have e2 : mul l (mul l a0 b0 ^^^ mul l a1 b1) c0 ^^^ mul l (mul l a1 b0 ^^^ mul l a0 b1 ^^^ mulX l (mul l a1 b1)) c1
        = mul l a0 (mul l b0 c0 ^^^ mul l b1 c1) ^^^ mul l a1 (mul l b1 c0 ^^^ mul l b0 c1 ^^^ mulX l (mul l b1 c1)) := by
      simp only [mul_xorl, mul_xorr, mulX_xor, ← mulX_mul l _ _ (L _ _ g1 k1) m0, ← mulX_mul l _ _ (L _ _ g1 k1) m1, ← mulX_mulr g0 (L _ _ k1 m1), ← mulX_mulr g1 (L _ _ k1 m1), ih _ _ _ g1 k0 m0, ih _ _ _ g0 k1 m0, ih _ _ _ g1 k1 m0, ih _ _ _ g0 k0 m1, ih _ _ _ g1 k1 m1, ih _ _ _ g1 k0 m1, ih _ _ _ g0 k1 m1, ih _ _ _ g0 k0 m0]; ac_rfl
    rw [e1, e2]
theorem one_lt (l : Nat) : 1 < 2 ^ 2 ^ l := by
  have : 2 ^ 1 ≤ 2 ^ 2 ^ l := Nat.pow_le_pow_right (by decide) (Nat.two_pow_pos l)
  omega
theorem one_cat (l : Nat) : 1 = 0 <<< 2 ^ l ^^^ 1 := by simp
theorem mul_one : ∀ (l a : Nat), a < 2 ^ 2 ^ l → mul l a 1 = a
  | 0, a, h => by
    have : a = 0 ∨ a = 1 := by have : (2:Nat) ^ 2 ^ 0 = 2 := rfl; omega
    rcases this with rfl | rfl <;> rfl
  | l + 1, a, h => by
    obtain ⟨a1, a0, g1, g0, rfl⟩ := split h
    have e := mul_cat (l := l) (a1 := a1) (b1 := 0) g0 (one_lt l)
    rw [← one_cat] at e
    rw [e, mul_one l _ g1, mul_one l _ g0, mul0r, mul0r, mulX0]; simp
theorem one_mul {l a : Nat} (h : a < 2 ^ 2 ^ l) : mul l 1 a = a := by rw [mul_comm, mul_one l a h]
/-- The trace. -/
def tr : Nat → Nat → Nat
  | 0, a => a
  | l + 1, a => tr l (mulX l (a >>> 2 ^ l))
theorem tr_cat {l a1 a0 : Nat} (h : a0 < 2 ^ 2 ^ l) : tr (l + 1) (a1 <<< 2 ^ l ^^^ a0) = tr l (mulX l a1) := by rw [tr, hi_of h]
theorem tr_xor : ∀ l a b, tr l (a ^^^ b) = tr l a ^^^ tr l b
  | 0, a, b => rfl
  | l + 1, a, b => by simp only [tr, Nat.shiftRight_xor_distrib, mulX_xor, tr_xor l]
theorem sq_cat {l a1 a0 : Nat} (h : a0 < 2 ^ 2 ^ l) : mul (l + 1) (a1 <<< 2 ^ l ^^^ a0) (a1 <<< 2 ^ l ^^^ a0) = mulX l (mul l a1 a1) <<< 2 ^ l ^^^ (mul l a0 a0 ^^^ mul l a1 a1) := by
  rw [mul_cat h h, mul_comm l a0 a1, Nat.xor_self, Nat.zero_xor]
theorem tr_sq : ∀ (l s : Nat), s < 2 ^ 2 ^ l → tr l (mul l s s) = tr l s
  | 0, s, h => by
    have : s = 0 ∨ s = 1 := by have : (2:Nat) ^ 2 ^ 0 = 2 := rfl; omega
    rcases this with rfl | rfl <;> rfl
  | l + 1, s, h => by
    obtain ⟨a1, a0, g1, g0, rfl⟩ := split h
    have L := mul_lt l
    rw [sq_cat g0, tr_cat (xlt (L _ _ g0 g0) (L _ _ g1 g1)), tr_cat g0, mulX_mul l _ _ g1 g1, mulX_mulr (mulX_lt l _ g1) g1]
    exact tr_sq l _ (mulX_lt l _ g1)
theorem tr_gen : ∀ l, tr l (mulX l 1) = 1
  | 0 => rfl
  | l + 1 => by
    have e := mulX_cat (l := l) (a1 := 0) (one_lt l)
    rw [← one_cat] at e
    rw [e, mulX0, tr_cat (Nat.two_pow_pos _), Nat.xor_zero]
    exact tr_gen l
/-- No root. -/
theorem no_root (l : Nat) : ∀ t, t < 2 ^ 2 ^ l → mul l t t ^^^ mulX l t ≠ 1 := by
  cases l with
  | zero =>
    intro t h
    have : t = 0 ∨ t = 1 := by have : (2:Nat) ^ 2 ^ 0 = 2 := rfl; omega
    rcases this with rfl | rfl <;> decide
  | succ m =>
    intro t ht e
    -- g h = 1
    obtain ⟨h, eh⟩ : ∃ h, h = 1 <<< 2 ^ m ^^^ mulX m 1 := ⟨_, rfl⟩
    have x1 := mulX_lt m _ (one_lt m)
    have hlt : h < 2 ^ 2 ^ (m + 1) := by rw [eh, two_two]; exact cat_lt (one_lt m) x1
    have gh : mulX (m + 1) h = 1 := by rw [eh, mulX_cat x1, Nat.xor_self]; simp
    have L := mul_lt (m + 1)
    have A := mul_assoc (m + 1)
    have s : mul (m + 1) (mul (m + 1) h t) (mul (m + 1) h t) ^^^ mul (m + 1) h t = mul (m + 1) h h := by
      have e1 : mul (m + 1) (mul (m + 1) h t) (mul (m + 1) h t) = mul (m + 1) (mul (m + 1) h h) (mul (m + 1) t t) := by
        rw [A _ _ _ hlt ht (L _ _ hlt ht), ← A _ _ _ ht hlt ht, mul_comm _ t h, A _ _ _ hlt ht ht, ← A _ _ _ hlt hlt (L _ _ ht ht)]
      have e2 : mul (m + 1) h t = mul (m + 1) (mul (m + 1) h h) (mulX (m + 1) t) := by
        rw [← mulX_mulr (L _ _ hlt hlt) ht, A _ _ _ hlt hlt ht, mulX_mul _ _ _ hlt (L _ _ hlt ht), gh, one_mul (L _ _ hlt ht)]
      rw [e1]
      conv => lhs; rhs; rw [e2]
      rw [← mul_xorr, e, mul_one _ _ (L _ _ hlt hlt)]
    have t1 := congrArg (tr (m + 1)) s
    rw [tr_xor, tr_sq _ _ (L _ _ hlt ht), Nat.xor_self, tr_sq _ _ hlt, eh, tr_cat x1, tr_gen] at t1
    cases t1
/-- The inverse, by the norm. -/
def inv : Nat → Nat → Nat
  | 0, a => a
  | l + 1, a =>
    let hi := a >>> 2 ^ l
    let lo := a &&& (2 ^ 2 ^ l - 1)
    let other := lo ^^^ mulX l hi
    let n := inv l (mul l lo other ^^^ mul l hi hi)
    mul l hi n <<< 2 ^ l ^^^ mul l other n
theorem inv_cat {l a1 a0 : Nat} (h : a0 < 2 ^ 2 ^ l) : inv (l + 1) (a1 <<< 2 ^ l ^^^ a0) =
    mul l a1 (inv l (mul l a0 (a0 ^^^ mulX l a1) ^^^ mul l a1 a1)) <<< 2 ^ l ^^^ mul l (a0 ^^^ mulX l a1) (inv l (mul l a0 (a0 ^^^ mulX l a1) ^^^ mul l a1 a1)) := by
  rw [inv, hi_of h, lo_of h]
theorem inv_lt : ∀ (l a : Nat), a < 2 ^ 2 ^ l → inv l a < 2 ^ 2 ^ l
  | 0, a, h => h
  | l + 1, a, h => by
    obtain ⟨a1, a0, g1, g0, rfl⟩ := split h
    have L := mul_lt l
    have o := xlt g0 (mulX_lt l _ g1)
    have n := inv_lt l _ (xlt (L _ _ g0 o) (L _ _ g1 g1))
    rw [inv_cat g0, two_two]
    exact cat_lt (L _ _ g1 n) (L _ _ o n)
theorem inv0 : ∀ l, inv l 0 = 0
  | 0 => rfl
  | l + 1 => by
    have e := inv_cat (l := l) (a1 := 0) (Nat.two_pow_pos (2 ^ l))
    have z : (0 : Nat) <<< 2 ^ l ^^^ 0 = 0 := by simp
    rw [z] at e
    rw [e]
    simp only [mulX0, Nat.xor_self, mul0l]
    exact z
theorem mul_inv : ∀ (l a : Nat), a < 2 ^ 2 ^ l → a ≠ 0 → mul l a (inv l a) = 1
  | 0, a, h, h0 => by
    have : a = 1 := by have : (2:Nat) ^ 2 ^ 0 = 2 := rfl; omega
    subst this; rfl
  | l + 1, a, h, h0 => by
    obtain ⟨a1, a0, g1, g0, rfl⟩ := split h
    have L := mul_lt l
    have A := mul_assoc l
    have x1 := mulX_lt l _ g1
    have o := xlt g0 x1
    have nlt := xlt (L _ _ g0 o) (L _ _ g1 g1)
    have hn : mul l a0 (a0 ^^^ mulX l a1) ^^^ mul l a1 a1 ≠ 0 := by
      intro hz
      by_cases z1 : a1 = 0
      · subst z1
        rw [mulX0, Nat.xor_zero, mul0l, Nat.xor_zero] at hz
        have a00 : a0 ≠ 0 := by rintro rfl; exact h0 (by simp)
        have := mul_inv l a0 g0 a00
        have e : mul l (mul l a0 a0) (inv l a0) = a0 := by rw [A _ _ _ g0 g0 (inv_lt l _ g0), this, mul_one l _ g0]
        rw [hz, mul0l] at e
        exact a00 e.symm
      · have i1 := mul_inv l a1 g1 z1
        have il := inv_lt l _ g1
        refine no_root l (mul l a0 (inv l a1)) (L _ _ g0 il) ?_
        obtain ⟨j, ej⟩ : ∃ j, j = inv l a1 := ⟨_, rfl⟩
        rw [← ej] at i1 il ⊢
        have e1 : mul l (mul l a0 j) (mul l a0 j) = mul l (mul l j j) (mul l a0 a0) := by
          rw [mul_comm l a0 j, A _ _ _ il g0 (L _ _ il g0), ← A _ _ _ g0 il g0, mul_comm l a0 j, A _ _ _ il g0 g0, ← A _ _ _ il il (L _ _ g0 g0)]
        have e2 : mulX l (mul l a0 j) = mul l (mul l j j) (mul l a0 (mulX l a1)) := by
          have : mul l a0 j = mul l (mul l j j) (mul l a0 a1) := by
            rw [mul_comm l a0 a1, A _ _ _ il il (L _ _ g1 g0), ← A _ _ _ il g1 g0, mul_comm l j a1, i1, one_mul g0, mul_comm]
          rw [this, mulX_mulr (L _ _ il il) (L _ _ g0 g1), mulX_mulr g0 g1]
        have e3 : (1 : Nat) = mul l (mul l j j) (mul l a1 a1) := by
          rw [A _ _ _ il il (L _ _ g1 g1), ← A _ _ _ il g1 g1, mul_comm l j a1, i1, one_mul g1, mul_comm, i1]
        rw [e1, e2, ← mul_xorr, ← mul_xorr]
        rw [mul_xorr] at hz
        have e4 : mul l a0 a0 ^^^ mul l a0 (mulX l a1) = mul l a1 a1 := by
          have := congrArg (fun x => x ^^^ mul l a1 a1) hz
          simpa [Nat.xor_assoc, Nat.xor_self] using this
        rw [mul_xorr l a0, e4]; exact e3.symm
    have ni := mul_inv l _ nlt hn
    have nl := inv_lt l _ nlt
    rw [inv_cat g0]
    obtain ⟨n, en⟩ : ∃ n, n = inv l (mul l a0 (a0 ^^^ mulX l a1) ^^^ mul l a1 a1) := ⟨_, rfl⟩
    rw [← en] at ni nl ⊢
    rw [mul_cat g0 (L _ _ o nl)]
    have e1 : mul l a1 (mul l (a0 ^^^ mulX l a1) n) ^^^ mul l a0 (mul l a1 n) ^^^ mulX l (mul l a1 (mul l a1 n)) = 0 := by
      rw [← A _ _ _ g1 o nl, ← A _ _ _ g0 g1 nl, ← A _ _ _ g1 g1 nl, mulX_mul l _ _ (L _ _ g1 g1) nl, mul_xorr, mulX_mulr g1 g1, mul_comm l a0 a1, mul_xorl]
      have : ∀ p q : Nat, p ^^^ q ^^^ p ^^^ q = 0 := fun p q => by
        rw [show p ^^^ q ^^^ p ^^^ q = (p ^^^ p) ^^^ (q ^^^ q) by ac_rfl, Nat.xor_self, Nat.xor_self, Nat.xor_self]
      exact this _ _
    have e2 : mul l a0 (mul l (a0 ^^^ mulX l a1) n) ^^^ mul l a1 (mul l a1 n) = 1 := by
      rw [← A _ _ _ g0 o nl, ← A _ _ _ g1 g1 nl, ← mul_xorl]; exact ni
    rw [e1, e2]; simp
theorem inv_of {l a b : Nat} (ha : a < 2 ^ 2 ^ l) (hb : b < 2 ^ 2 ^ l) (h : mul l a b = 1) : b = inv l a := by
  have h0 : a ≠ 0 := by rintro rfl; rw [mul0l] at h; cases h
  have il := inv_lt l _ ha
  rw [← mul_one l b hb, ← mul_inv l a ha h0, ← mul_assoc l _ _ _ hb ha il, mul_comm l b a, h, one_mul il]
theorem mul_zero_or {l a b : Nat} (ha : a < 2 ^ 2 ^ l) (hb : b < 2 ^ 2 ^ l) (h : mul l a b = 0) : a = 0 ∨ b = 0 := by
  by_cases z : a = 0
  · exact .inl z
  · right
    rw [← one_mul hb, ← mul_inv l a ha z, mul_comm l a, mul_assoc l _ _ _ (inv_lt l _ ha) ha hb, h, mul0r]
/-! Frobenius. -/
theorem inv_up {l a : Nat} (hl : l ≤ 7) (ha : a < 2 ^ 2 ^ l) : inv 7 a = inv l a := by
  by_cases h0 : a = 0
  · subst h0; rw [inv0, inv0]
  · have il := inv_lt l _ ha
    have le : (2 : Nat) ^ 2 ^ l ≤ 2 ^ 2 ^ 7 := Nat.pow_le_pow_right (Nat.le_succ 1) (Nat.pow_le_pow_right (Nat.le_succ 1) hl)
    exact (inv_of (Nat.lt_of_lt_of_le ha le) (Nat.lt_of_lt_of_le il le) (by rw [mul_to7 hl ha il]; exact mul_inv l a ha h0)).symm
end Go.Proofs.Ytplmejnoepkdgaa.Tow
namespace Go.Proofs.Ytplmejnoepkdgaa.H1
open Go Go.Proofs.Ytplmejnoepkdgaa.Rf
theorem rng_nat {n : Int} (h : rng n) : ∃ m : Nat, n = (m : Int) ∧ m < 2 ^ 64 := ⟨n.toNat, by have := h.1; omega, by have := h.2; have := h.1; omega⟩
theorem nat_rng {m : Nat} (h : m < 2 ^ 64) : rng (m : Int) := ⟨by omega, by have : (2:Nat)^64 = 18446744073709551616 := rfl; omega⟩
theorem toNat_nat {m : Nat} (h : m < 2 ^ 64) : (BitVec.ofInt 64 (m : Int)).toNat = m := by
  have := ofInt_nat (nat_rng h); omega
theorem xor_nat {a b : Nat} (ha : a < 2 ^ 64) (hb : b < 2 ^ 64) : xorI .u64 (a : Int) (b : Int) = ((a ^^^ b : Nat) : Int) := by
  show IntKind.u64.wrap ((BitVec.ofInt 64 (a : Int) ^^^ BitVec.ofInt 64 (b : Int)).toNat : Int) = _
  rw [BitVec.toNat_xor, toNat_nat ha, toNat_nat hb]
  exact wrap_in (nat_rng (Nat.xor_lt_two_pow ha hb))
theorem and_nat {a b : Nat} (ha : a < 2 ^ 64) (hb : b < 2 ^ 64) : andI .u64 (a : Int) (b : Int) = ((a &&& b : Nat) : Int) := by
  show IntKind.u64.wrap ((BitVec.ofInt 64 (a : Int) &&& BitVec.ofInt 64 (b : Int)).toNat : Int) = _
  rw [BitVec.toNat_and, toNat_nat ha, toNat_nat hb]
  exact wrap_in (nat_rng (Nat.lt_of_le_of_lt Nat.and_le_left ha))
theorem or_nat {a b : Nat} (ha : a < 2 ^ 64) (hb : b < 2 ^ 64) : orI .u64 (a : Int) (b : Int) = ((a ||| b : Nat) : Int) := by
  show IntKind.u64.wrap ((BitVec.ofInt 64 (a : Int) ||| BitVec.ofInt 64 (b : Int)).toNat : Int) = _
  rw [BitVec.toNat_or, toNat_nat ha, toNat_nat hb]
  exact wrap_in (nat_rng (Nat.or_lt_two_pow ha hb))
theorem shr_nat {a s : Nat} (hs : s ≤ 64) : shrI .u64 (a : Int) (s : Int) = ((a >>> s : Nat) : Int) := by
  unfold shrI
  have e : min ((s : Int).toNat) IntKind.u64.bits = s := by rw [Int.toNat_natCast]; exact Nat.min_eq_left hs
  rw [e, Nat.shiftRight_eq_div_pow, Int.fdiv_eq_ediv_of_nonneg _ (by exact Int.le_of_lt (Int.pow_pos (by decide)))]
  simp
theorem shl_nat {a s : Nat} (hs : s ≤ 64) (h : a <<< s < 2 ^ 64) : shlI .u64 (a : Int) (s : Int) = ((a <<< s : Nat) : Int) := by
  unfold shlI
  have e : min ((s : Int).toNat) IntKind.u64.bits = s := by rw [Int.toNat_natCast]; exact Nat.min_eq_left hs
  rw [e, show (a : Int) * 2 ^ s = ((a <<< s : Nat) : Int) by rw [Nat.shiftLeft_eq]; simp]
  exact wrap_in (nat_rng h)
theorem or_shl {w x y : Nat} (h : y < 2 ^ w) : x <<< w ||| y = x <<< w ^^^ y := by
  rw [← Tow.xor_shl h, Nat.shiftLeft_eq, Nat.mul_comm, ← Nat.two_pow_add_eq_or_of_lt h x]
theorem pow_le {l m : Nat} (h : l ≤ m) : (2 : Nat) ^ 2 ^ l ≤ 2 ^ 2 ^ m := Nat.pow_le_pow_right (by decide) (Nat.pow_le_pow_right (by decide) h)
theorem lt64 {l a : Nat} (hl : l ≤ 6) (h : a < 2 ^ 2 ^ l) : a < 2 ^ 64 := Nat.lt_of_lt_of_le h (pow_le hl)
theorem shl_pow_u {m : Nat} (h : m ≤ 6) : shlI .u64 1 (m : Int) = ((2 ^ m : Nat) : Int) := by
  rcases (show m = 0 ∨ m = 1 ∨ m = 2 ∨ m = 3 ∨ m = 4 ∨ m = 5 ∨ m = 6 by omega) with rfl | rfl | rfl | rfl | rfl | rfl | rfl <;> decide
theorem mask_eq {l : Nat} (h : l ≤ 5) : wu64 (shlI .u64 1 ((2 ^ l : Nat) : Int) - 1) = ((2 ^ 2 ^ l - 1 : Nat) : Int) := by
  rcases (show l = 0 ∨ l = 1 ∨ l = 2 ∨ l = 3 ∨ l = 4 ∨ l = 5 by omega) with rfl | rfl | rfl | rfl | rfl | rfl <;> decide
theorem nn (n : Nat) : decide ((n : Int) < 0) = false := by simp
theorem p2le {l m : Nat} (h : l ≤ m) : 2 ^ l ≤ 2 ^ m := Nat.pow_le_pow_right (by decide) h
theorem halves_N {l a : Nat} (hl : l ≤ 5) (ha : a < 2 ^ 64) : T (fun k => tower_halves.f k ((l + 1 : Nat) : Int) (a : Int)) (fun r => r = (((a >>> 2 ^ l : Nat) : Int), ((a &&& (2 ^ 2 ^ l - 1) : Nat) : Int))) := by
  refine T.eq (tower_halves.f_eq · _ _) ?_
  rw [lev (by omega), shl_pow (by omega)]
  have h5 : 2 ^ l ≤ 32 := p2le hl
  have h6 : (2:Nat) ^ 2 ^ l ≤ 2 ^ 32 := Nat.pow_le_pow_right (by decide) h5
  refine T.no (by simp) (T.no (nn _) (T.no (nn _) (T.pure ?_)))
  rw [mask_eq hl, shr_nat (by omega), and_nat ha (Nat.lt_of_le_of_lt (Nat.sub_le _ _) (Nat.lt_of_le_of_lt h6 (by decide)))]
theorem join_N {l a b : Nat} (hl : l ≤ 5) (ha : a < 2 ^ 2 ^ l) (hb : b < 2 ^ 2 ^ l) : T (fun k => tower_join.f k ((l + 1 : Nat) : Int) (a : Int) (b : Int)) (fun r => r = ((a <<< 2 ^ l ^^^ b : Nat) : Int)) := by
  refine T.eq (tower_join.f_eq · _ _ _) ?_
  rw [lev (by omega), shl_pow_u (by omega)]
  have h5 : 2 ^ l ≤ 32 := p2le hl
  refine T.no (by simp) (T.no (nn _) (T.pure ?_))
  have hs : a <<< 2 ^ l < 2 ^ 64 := by
    have := Tow.cat_lt (w := 2 ^ l) ha (Nat.two_pow_pos _ : 0 < 2 ^ 2 ^ l)
    rw [Nat.xor_zero] at this
    exact Nat.lt_of_lt_of_le this (Nat.pow_le_pow_right (by decide) (by omega))
  rw [shl_nat (by omega) hs, or_nat hs (lt64 (by omega) hb), or_shl hb]
theorem mulX_N : ∀ (l : Nat), l ≤ 6 → ∀ a : Nat, a < 2 ^ 2 ^ l → T (fun k => tower_mulX.f k (l : Int) (a : Int)) (fun r => r = ((Tow.mulX l a : Nat) : Int))
  | 0, h, a, ha => T.eq (tower_mulX.f_eq · _ _) (T.yes (by simp) (T.pure rfl))
  | l + 1, h, a, ha => by
    refine T.eq (tower_mulX.f_eq · _ _) (T.no (by simp; omega) (T.bind (halves_N (by omega) (lt64 h ha)) fun r hr => ?_))
    subst hr
    rw [Tow.two_two] at ha
    have h1 := Tow.hi_lt ha
    have h2 := Tow.lo_lt (2 ^ l) a
    rw [lev (by omega)]
    refine T.bind (mulX_N l (by omega) _ h1) fun s hs => ?_
    subst hs
    have h3 := Tow.mulX_lt l _ h1
    rw [xor_nat (lt64 (by omega) h2) (lt64 (by omega) h3)]
    exact T.bind (join_N (by omega) (Nat.xor_lt_two_pow h2 h3) h1) fun t ht => T.pure ht
theorem and1 {a b : Nat} (ha : a < 2 ^ 64) (hb : b < 2 ^ 64) : andI .u64 (andI .u64 (a : Int) (b : Int)) 1 = ((a &&& b &&& 1 : Nat) : Int) := by
  rw [and_nat ha hb]
  exact and_nat (Nat.lt_of_le_of_lt Nat.and_le_left ha) (b := 1) (by decide)
theorem mul_N : ∀ (l : Nat), l ≤ 6 → ∀ a b : Nat, a < 2 ^ 2 ^ l → b < 2 ^ 2 ^ l → T (fun k => tower_mul.f k (l : Int) (a : Int) (b : Int)) (fun r => r = ((Tow.mul l a b : Nat) : Int))
  | 0, h, a, b, ha, hb => T.eq (tower_mul.f_eq · _ _ _) (T.yes (by simp) (T.pure (and1 (lt64 h ha) (lt64 h hb))))
  | l + 1, h, a, b, ha, hb => by
    refine T.eq (tower_mul.f_eq · _ _ _) (T.no (by simp; omega) (T.ite (fun e => T.pure ?_) fun _ => T.ite (fun e => T.pure ?_) fun _ => ?_))
    · have : a = 0 := by simpa using e
      subst this
      rw [and1 (by decide) (lt64 h hb), Tow.mul0l]; simp
    · have : b = 0 := by simpa using e
      subst this
      rw [and1 (lt64 h ha) (by decide), Tow.mul0r]; simp
    · refine T.bind (halves_N (by omega) (lt64 h ha)) fun r hr => T.bind (halves_N (by omega) (lt64 h hb)) fun s hs => ?_
      subst hr hs
      rw [Tow.two_two] at ha hb
      have h1 := Tow.hi_lt ha
      have h2 := Tow.lo_lt (2 ^ l) a
      have h3 := Tow.hi_lt hb
      have h4 := Tow.lo_lt (2 ^ l) b
      have L : ∀ {x}, x < 2 ^ 2 ^ l → x < 2 ^ 64 := lt64 (by omega)
      rw [lev (by omega)]
      refine T.bind (mul_N l (by omega) _ _ h1 h3) fun t1 e1 => T.bind (mul_N l (by omega) _ _ h2 h4) fun t2 e2 => ?_
      simp only [xor_nat (L h1) (L h2), xor_nat (L h3) (L h4)]
      refine T.bind (mul_N l (by omega) _ _ (Nat.xor_lt_two_pow h1 h2) (Nat.xor_lt_two_pow h3 h4)) fun t3 e3 => ?_
      have g1 := Tow.mul_lt l _ _ h1 h3
      have g2 := Tow.mul_lt l _ _ h2 h4
      have g3 := Tow.mul_lt l _ _ (Nat.xor_lt_two_pow h1 h2) (Nat.xor_lt_two_pow h3 h4)
      subst e1 e2 e3
      refine T.bind (mulX_N l (by omega) _ g1) fun t4 e4 => ?_
      have g4 := Tow.mulX_lt l _ g1
      subst e4
      rw [xor_nat (L g3) (L g1), xor_nat (L (Nat.xor_lt_two_pow g3 g1)) (L g2), xor_nat (L (Nat.xor_lt_two_pow (Nat.xor_lt_two_pow g3 g1) g2)) (L g4), xor_nat (L g2) (L g1)]
      refine T.bind (join_N (by omega) (Nat.xor_lt_two_pow (Nat.xor_lt_two_pow (Nat.xor_lt_two_pow g3 g1) g2) g4) (Nat.xor_lt_two_pow g2 g1)) fun t ht => T.pure ?_
      rw [ht, Tow.mul_eq]
end Go.Proofs.Ytplmejnoepkdgaa.H1
namespace Go.Proofs.Ytplmejnoepkdgaa.H1
open Go Go.Proofs.Ytplmejnoepkdgaa.Rf
def nat (x : E) : Nat := x.1.toNat <<< 64 ^^^ x.2.1.toNat
def mk (n : Nat) : E := (((n >>> 64 : Nat) : Int), ((n &&& (2 ^ 64 - 1) : Nat) : Int), ())
/-- The product of the greatest level. -/
def Pr (a b : E) : E := mk (Tow.mul 7 (nat a) (nat b))
theorem p128 : (2 : Nat) ^ 2 ^ 7 = 2 ^ (64 + 64) := by decide
theorem rng_toNat {n : Int} (h : rng n) : n.toNat < 2 ^ 64 := by obtain ⟨m, rfl, hm⟩ := rng_nat h; simpa using hm
theorem nat_lt {x : E} (h : rngE x) : nat x < 2 ^ 2 ^ 7 := by rw [p128]; exact Tow.cat_lt (rng_toNat h.1) (rng_toNat h.2)
theorem mk_cat {a b : Nat} (ha : a < 2 ^ 64) (hb : b < 2 ^ 64) : mk (a <<< 64 ^^^ b) = ((a : Int), (b : Int), ()) := by
  unfold mk; rw [Tow.hi_of hb, Tow.lo_of hb]
theorem mk_nat {x : E} (h : rngE x) : mk (nat x) = x := by
  obtain ⟨a, b, ⟨⟩⟩ := x
  obtain ⟨a, rfl, ha⟩ := rng_nat h.1
  obtain ⟨b, rfl, hb⟩ := rng_nat h.2
  exact mk_cat ha hb
theorem mk_rng {n : Nat} (h : n < 2 ^ 2 ^ 7) : rngE (mk n) := by
  rw [p128] at h
  exact ⟨nat_rng (Tow.hi_lt h), nat_rng (Tow.lo_lt 64 n)⟩
theorem nat_mk (n : Nat) : nat (mk n) = n := by
  unfold nat mk
  simp only [Int.toNat_natCast]
  exact (Tow.halves 64 n).symm
theorem nat_Av {x y : E} (hx : rngE x) (hy : rngE y) : nat (Av x y) = nat x ^^^ nat y := by
  obtain ⟨a, b, ⟨⟩⟩ := x
  obtain ⟨c, d, ⟨⟩⟩ := y
  obtain ⟨a, rfl, ha⟩ := rng_nat hx.1
  obtain ⟨b, rfl, hb⟩ := rng_nat hx.2
  obtain ⟨c, rfl, hc⟩ := rng_nat hy.1
  obtain ⟨d, rfl, hd⟩ := rng_nat hy.2
  unfold nat Av
  rw [xor_nat ha hc, xor_nat hb hd]
  simp only [Int.toNat_natCast, Nat.shiftLeft_xor_distrib]
  exact Tow.x4 _ _ _ _
theorem Av_rng (x y : E) : rngE (Av x y) := ⟨xor_rng _ _, xor_rng _ _⟩
theorem mk_xor {a b : Nat} (ha : a < 2 ^ 2 ^ 7) (hb : b < 2 ^ 2 ^ 7) : mk (a ^^^ b) = Av (mk a) (mk b) := by
  rw [← mk_nat (Av_rng (mk a) (mk b)), nat_Av (mk_rng ha) (mk_rng hb), nat_mk, nat_mk]
theorem Pr_rng {a b : E} (ha : rngE a) (hb : rngE b) : rngE (Pr a b) := mk_rng (Tow.mul_lt 7 _ _ (nat_lt ha) (nat_lt hb))
theorem nat_Pr (a b : E) : nat (Pr a b) = Tow.mul 7 (nat a) (nat b) := nat_mk _
theorem shr_zero {a w : Nat} : (a >>> w = 0) ↔ a < 2 ^ w := by
  rw [Nat.shiftRight_eq_div_pow, Nat.div_eq_zero_iff_lt (Nat.two_pow_pos w)]
theorem ofB_iff {l : Nat} (hl : l ≤ 7) {x : E} (hx : rngE x) : ofB (l : Int) x = true ↔ nat x < 2 ^ 2 ^ l := by
  have hn := nat_lt hx
  obtain ⟨a, b, ⟨⟩⟩ := x
  obtain ⟨a, rfl, ha⟩ := rng_nat hx.1
  obtain ⟨b, rfl, hb⟩ := rng_nat hx.2
  have e : nat ((a : Int), (b : Int), ()) = a <<< 64 ^^^ b := rfl
  rw [e] at hn ⊢
  unfold ofB
  rw [if_neg (by omega), if_neg (by omega)]
  by_cases h7 : l = 7
  · subst h7; rw [if_pos (show ((7 : Nat) : Int) = 7 from rfl)]; exact ⟨fun _ => hn, fun _ => rfl⟩
  rw [if_neg (by omega)]
  have hz : a <<< 64 ^^^ b < 2 ^ 64 ↔ a = 0 := by
    rw [← shr_zero, Tow.hi_of hb]
  by_cases h6 : l = 6
  · subst h6; rw [if_pos (show ((6 : Nat) : Int) = 6 from rfl)]
    show ((a : Int) == 0) = true ↔ a <<< 64 ^^^ b < 2 ^ 64
    rw [hz]; simp
  rw [if_neg (by omega), shl_pow_u (by omega)]
  have h5 : 2 ^ l ≤ 32 := p2le (m := 5) (by omega)
  by_cases ha0 : a = 0
  · subst ha0
    have e1 : (0 : Nat) <<< 64 ^^^ b = b := by simp
    rw [e1, ← shr_zero]
    show (if ((0 : Nat) : Int) == 0 then (shrI .u64 (b : Int) ((2 ^ l : Nat) : Int) == 0) else false) = true ↔ _
    rw [shr_nat (by omega)]
    generalize b >>> 2 ^ l = q
    have e0 : (((0 : Nat) : Int) == 0) = true := rfl
    rw [e0, if_pos rfl, beq_iff_eq]
    exact ⟨fun h => (by omega), fun h => (by omega)⟩
  · have n1 : ¬ (a <<< 64 ^^^ b < 2 ^ 2 ^ l) := fun h => ha0 (hz.1 (lt64 (by omega) h))
    have n2 : ((a : Int) == 0) = false := by simpa using ha0
    rw [n2]
    exact ⟨fun h => (by cases h), fun h => absurd h n1⟩
theorem ofB_lv {lv : Int} {x : E} (h : ofB lv x = true) : ∃ l : Nat, lv = (l : Int) ∧ l ≤ 7 := by
  unfold ofB at h
  by_cases k1 : lv < 0
  · simp [k1] at h
  · by_cases k2 : lv > 7
    · simp [k1, k2] at h
    · exact ⟨lv.toNat, by omega, by omega⟩
theorem Mul_N {l : Nat} (hl : l ≤ 7) {a b : E} (ha : rngE a) (hb : rngE b) (oa : ofB (l : Int) a = true) (ob : ofB (l : Int) b = true) : Mv (l : Int) a b = Pr a b := by
  refine ((?_ : T (fun k => tower_Mul.f k (l : Int) a b) (fun r => r = Pr a b)).of (Mv_ev (l : Int) a b))
  have na := (ofB_iff hl ha).1 oa
  have nb := (ofB_iff hl hb).1 ob
  refine T.eq (tower_Mul.f_eq · _ a b) (T.bind (of_T _ a) fun o1 h1 => T.no (by rw [h1, oa]; rfl) (T.bind (of_T _ b) fun o2 h2 => T.no (by rw [h2, ob]; rfl) ?_))
  obtain ⟨a1, a2, ⟨⟩⟩ := a
  obtain ⟨b1, b2, ⟨⟩⟩ := b
  obtain ⟨a1, rfl, ha1⟩ := rng_nat ha.1
  obtain ⟨a2, rfl, ha2⟩ := rng_nat ha.2
  obtain ⟨b1, rfl, hb1⟩ := rng_nat hb.1
  obtain ⟨b2, rfl, hb2⟩ := rng_nat hb.2
  have ea : nat ((a1 : Int), (a2 : Int), ()) = a1 <<< 64 ^^^ a2 := rfl
  have eb : nat ((b1 : Int), (b2 : Int), ()) = b1 <<< 64 ^^^ b2 := rfl
  rw [ea] at na
  rw [eb] at nb
  refine T.ite (fun g => ?_) (fun g => ?_)
  · have hl6 : l ≤ 6 := by have := of_decide_eq_true g; omega
    have za : a1 = 0 := by have h := lt64 hl6 na; rw [← shr_zero, Tow.hi_of ha2] at h; exact h
    have zb : b1 = 0 := by have h := lt64 hl6 nb; rw [← shr_zero, Tow.hi_of hb2] at h; exact h
    subst za zb
    have e1 : ∀ x : Nat, (0 : Nat) <<< 64 ^^^ x = x := fun x => by simp
    rw [e1] at na nb
    refine T.bind (mul_N l hl6 a2 b2 na nb) fun r hr => T.pure ?_
    subst hr
    unfold Pr
    rw [ea, eb, e1, e1, Tow.mul_to7 (by omega) na nb]
    have hlt := lt64 hl6 (Tow.mul_lt l _ _ na nb)
    have := mk_cat (a := 0) (by decide) hlt
    rw [e1] at this
    exact this.symm
  · have hl7 : l = 7 := by have := of_decide_eq_false g; omega
    subst hl7
    refine T.bind (mul_N 6 (by omega) a1 b1 ha1 hb1) fun t1 e1 => T.bind (mul_N 6 (by omega) a2 b2 ha2 hb2) fun t2 e2 => ?_
    simp only [xor_nat ha1 ha2, xor_nat hb1 hb2]
    refine T.bind (mul_N 6 (by omega) _ _ (Nat.xor_lt_two_pow ha1 ha2) (Nat.xor_lt_two_pow hb1 hb2)) fun t3 e3 => ?_
    have g1 : _ < 2 ^ 64 := Tow.mul_lt 6 _ _ ha1 hb1
    have g2 : _ < 2 ^ 64 := Tow.mul_lt 6 _ _ ha2 hb2
    have g3 : _ < 2 ^ 64 := Tow.mul_lt 6 _ _ (Nat.xor_lt_two_pow ha1 ha2) (Nat.xor_lt_two_pow hb1 hb2)
    subst e1 e2 e3
    refine T.bind (mulX_N 6 (by omega) _ g1) fun t4 e4 => T.pure ?_
    have g4 : _ < 2 ^ 64 := Tow.mulX_lt 6 _ g1
    subst e4
    rw [xor_nat g3 g1, xor_nat (Nat.xor_lt_two_pow g3 g1) g2, xor_nat (Nat.xor_lt_two_pow (Nat.xor_lt_two_pow g3 g1) g2) g4, xor_nat g2 g1]
    have m := Tow.mul_eq 6 (nat ((a1 : Int), (a2 : Int), ())) (nat ((b1 : Int), (b2 : Int), ()))
    have s6 : (2 : Nat) ^ 6 = 64 := rfl
    rw [s6, ea, eb, Tow.hi_of ha2, Tow.lo_of ha2, Tow.hi_of hb2, Tow.lo_of hb2] at m
    unfold Pr
    rw [ea, eb, m, mk_cat (Nat.xor_lt_two_pow (Nat.xor_lt_two_pow (Nat.xor_lt_two_pow g3 g1) g2) g4) (Nat.xor_lt_two_pow g2 g1)]
end Go.Proofs.Ytplmejnoepkdgaa.H1
namespace Go.Proofs.Ytplmejnoepkdgaa.Tow
theorem shr_lt64 {v s : Nat} (hv : v < 2 ^ 64) : v >>> s < 2 ^ 64 := by
  rw [Nat.shiftRight_eq_div_pow]; exact Nat.lt_of_le_of_lt (Nat.div_le_self _ _) hv
end Go.Proofs.Ytplmejnoepkdgaa.Tow
namespace Go.Proofs.Ytplmejnoepkdgaa.H1
open Go Go.Proofs.Ytplmejnoepkdgaa.Rf
end Go.Proofs.Ytplmejnoepkdgaa.H1
namespace Go.Proofs.Ytplmejnoepkdgaa.H1
open Go Go.Proofs.Ytplmejnoepkdgaa.Rf
/-- A step's degree. -/
def dgr (ds : List Int) (o : O) : Int :=
  if o.1 = 2 then 1 else if o.1 = 3 then (if ds.getD o.2.2.1.toNat 0 > ds.getD o.2.1.toNat 0 then ds.getD o.2.2.1.toNat 0 else ds.getD o.2.1.toNat 0)
  else if o.1 = 4 then ds.getD o.2.1.toNat 0 + ds.getD o.2.2.1.toNat 0 else 0
/-- What is wrong with a step. -/
def stepE (lv vars : Int) (j : Nat) (o : O) : Int :=
  if o.1 = 1 ∧ o.2.1 = 0 ∧ o.2.2.1 = 0 then (if ofB lv o.2.2.2.1 = true then 0 else 5)
  else if o.1 = 2 ∧ o.2.2.1 = 0 ∧ o.2.2.2.1.1 = 0 ∧ o.2.2.2.1.2.1 = 0 then (if 0 ≤ o.2.1 ∧ o.2.1 < vars then 0 else 4)
  else if (o.1 = 3 ∨ o.1 = 4) ∧ o.2.2.2.1.1 = 0 ∧ o.2.2.2.1.2.1 = 0 ∧ (0 ≤ o.2.1 ∧ o.2.1 < j ∧ 0 ≤ o.2.2.1 ∧ o.2.2.1 < j) then 0 else 3
theorem stepE_ok {lv vars : Int} {j : Nat} {o : O} (h : stepE lv vars j o = 0) : okS vars j o := by
  unfold stepE at h
  unfold okS
  split at h
  · rename_i c; obtain ⟨c1, c2, c3⟩ := c; omega
  · split at h
    · split at h
      · omega
      · cases h
    · split at h
      · omega
      · cases h
theorem stepE_of {lv vars : Int} {j : Nat} {o : O} (h : stepE lv vars j o = 0) (h1 : o.1 = 1) : ofB lv o.2.2.2.1 = true := by
  unfold stepE at h
  split at h
  · split at h
    · assumption
    · cases h
  · split at h
    · omega
    · split at h
      · omega
      · cases h
theorem ahead_X (o : O) (i : Int) : T (fun k => expr_ahead.f k o i) (fun b => b = decide (0 ≤ o.2.1 ∧ o.2.1 < i ∧ 0 ≤ o.2.2.1 ∧ o.2.2.1 < i)) := by
  refine T.eq (expr_ahead.f_eq · o i) (T.ite (fun h1 => T.ite (fun h2 => T.ite (fun h3 => T.pure ?_) (fun h3 => T.pure ?_)) (fun h2 => T.pure ?_)) (fun h1 => T.pure ?_))
  all_goals simp only [decide_eq_true_eq, decide_eq_false_iff_not, ge_iff_le] at *
  · simp [h1, h2, h3]
  all_goals (symm; simp only [decide_eq_false_iff_not]; omega)
def dsOk (ds : List Int) : Prop := ∀ j, 0 ≤ ds.getD j 0 ∧ ds.getD j 0 ≤ 8
theorem step_X (lv vars : Int) (o : O) (ds : List Int) (hds : dsOk ds) : T (fun k => expr_step.f k lv vars o ds) (fun r => r.2 = stepE lv vars ds.length o ∧ (r.2 = 0 → r.1 = dgr ds o)) := by
  have hw : w64 (ds.getD o.2.1.toNat 0 + ds.getD o.2.2.1.toNat 0) = ds.getD o.2.1.toNat 0 + ds.getD o.2.2.1.toNat 0 := by
    have h1 := hds o.2.1.toNat
    have h2 := hds o.2.2.1.toNat
    exact w64_in (by omega) (by omega)
  refine T.eq (expr_step.f_eq · lv vars o ds) ?_
  rw [hw]
  by_cases k1 : o.1 = 1
  · have n2 : ¬ o.1 = 2 := by omega
    have n3 : ¬ o.1 = 3 := by omega
    have n4 : ¬ o.1 = 4 := by omega
    have b1 : (o.1 == 1) = true := by simpa using k1
    have b2 : (o.1 == 2) = false := by simpa using n2
    have b3 : (o.1 == 3) = false := by simpa using n3
    have b4 : (o.1 == 4) = false := by simpa using n4
    simp only [b1, b2, b3, b4, cond_true, cond_false]
    refine T.ite (fun a => T.ite (fun b => T.bind (of_T _ _) fun c hc => T.ite (fun d => T.pure ?_) (fun d => T.pure ?_)) (fun b => T.pure ?_)) (fun a => T.pure ?_) <;> simp_all [stepE, dgr]
  · have b1 : (o.1 == 1) = false := by simpa using k1
    by_cases k2 : o.1 = 2
    · have n3 : ¬ o.1 = 3 := by omega
      have n4 : ¬ o.1 = 4 := by omega
      have b2 : (o.1 == 2) = true := by simpa using k2
      have b3 : (o.1 == 3) = false := by simpa using n3
      have b4 : (o.1 == 4) = false := by simpa using n4
      simp only [b1, b2, b3, b4, cond_true, cond_false]
      refine T.ite (fun a => T.ite (fun b => T.ite (fun c => T.pure ?_) (fun c => T.ite (fun d => T.pure ?_) (fun d => T.pure ?_))) (fun b => T.pure ?_)) (fun a => T.pure ?_)
      all_goals simp only [beq_iff_eq, beq_eq_false_iff_ne, Bool.and_eq_true, Bool.and_eq_false_iff, decide_eq_true_eq, decide_eq_false_iff_not, ne_eq] at *
      all_goals (unfold stepE dgr)
      · refine ⟨?_, fun h => by cases h⟩
        rw [if_neg (by omega), if_pos (by omega), if_neg (by omega)]
      · refine ⟨?_, fun h => by cases h⟩
        rw [if_neg (by omega), if_pos (by omega), if_neg (by omega)]
      · refine ⟨?_, fun _ => by rw [if_pos k2]⟩
        rw [if_neg (by omega), if_pos (by omega), if_pos (by omega)]
      · refine ⟨?_, fun h => by cases h⟩
        rw [if_neg (by omega), if_neg (by omega), if_neg (by omega)]
      · refine ⟨?_, fun h => by cases h⟩
        rw [if_neg (by omega), if_neg (by omega), if_neg (by omega)]
    · have b2 : (o.1 == 2) = false := by simpa using k2
      by_cases k3 : o.1 = 3
      · have n4 : ¬ o.1 = 4 := by omega
        have b3 : (o.1 == 3) = true := by simpa using k3
        have b4 : (o.1 == 4) = false := by simpa using n4
        simp only [b1, b2, b3, b4, cond_true, cond_false]
        refine T.ite (fun a => T.bind (ahead_X _ _) fun b hb => T.ite (fun c => ?_) (fun c => T.pure ?_)) (fun a => T.pure ?_)
        · subst hb
          simp only [decide_eq_true_eq] at c
          refine T.yes (inB_int c.1 c.2.1) (T.yes (inB_int c.2.2.1 c.2.2.2) (T.pure ?_))
          simp only [beq_iff_eq, Bool.and_eq_true] at a
          refine ⟨show (0 : Int) = _ from ?_, fun _ => ?_⟩
          · unfold stepE; rw [if_neg (by omega), if_neg (by omega), if_pos (by omega)]
          · unfold dgr; rw [if_neg (show ¬ o.1 = 2 from k2), if_pos k3]
        · subst hb
          simp only [decide_eq_false_iff_not] at c
          unfold stepE
          refine ⟨?_, fun h => by cases h⟩
          rw [if_neg (by omega), if_neg (by omega), if_neg (by omega)]
        · simp only [beq_iff_eq, beq_eq_false_iff_ne, Bool.and_eq_false_iff, ne_eq] at a
          unfold stepE
          refine ⟨?_, fun h => by cases h⟩
          rw [if_neg (by omega), if_neg (by omega), if_neg (by omega)]
      · have b3 : (o.1 == 3) = false := by simpa using k3
        simp only [b1, b2, b3, cond_true, cond_false]
        refine T.ite (fun k4 => T.ite (fun a => T.bind (ahead_X _ _) fun b hb => T.ite (fun c => ?_) (fun c => T.pure ?_)) (fun a => T.pure ?_)) (fun k4 => T.pure ?_)
        · subst hb
          simp only [decide_eq_true_eq] at c
          refine T.yes (inB_int c.1 c.2.1) (T.yes (inB_int c.2.2.1 c.2.2.2) (T.pure ?_))
          simp only [beq_iff_eq, Bool.and_eq_true] at a k4
          refine ⟨show (0 : Int) = _ from ?_, fun _ => ?_⟩
          · unfold stepE; rw [if_neg (by omega), if_neg (by omega), if_pos (by omega)]
          · unfold dgr; rw [if_neg (show ¬ o.1 = 2 from k2), if_neg (show ¬ o.1 = 3 from k3), if_pos k4]
        · subst hb
          simp only [decide_eq_false_iff_not] at c
          unfold stepE
          refine ⟨?_, fun h => by cases h⟩
          rw [if_neg (by omega), if_neg (by omega), if_neg (by omega)]
        · simp only [beq_iff_eq, beq_eq_false_iff_ne, Bool.and_eq_false_iff, ne_eq] at a
          unfold stepE
          refine ⟨?_, fun h => by cases h⟩
          rw [if_neg (by omega), if_neg (by omega), if_neg (by omega)]
        · simp only [beq_eq_false_iff_ne, ne_eq] at k4
          unfold stepE
          refine ⟨?_, fun h => by cases h⟩
          rw [if_neg (by omega), if_neg (by omega), if_neg (by omega)]
/-- What is wrong with steps behind others, of these degrees. -/
def chk (lv vars : Int) : List Int → List O → Int
  | _, [] => 0
  | ds, o :: l => if stepE lv vars ds.length o = 0 then (if dgr ds o > 8 then 7 else chk lv vars (ds ++ [dgr ds o]) l) else stepE lv vars ds.length o
def degL : List Int → List O → List Int
  | ds, [] => ds
  | ds, o :: l => degL (ds ++ [dgr ds o]) l
/-- What is wrong with an expression. -/
def chkX (lv vars : Int) (l : List O) : Int := if lv < 0 ∨ lv > 7 ∨ vars < 0 then 1 else if l.length = 0 then 3 else if l.length > 200 then 2 else chk lv vars [] l
theorem wide_X (l : Int) : T (fun k => octet_Wide.f k l) (fun r => r = 0 ↔ (l < 0 ∨ l > 7)) := by
  refine T.eq (octet_Wide.f_eq · l) (T.ite (fun h1 => T.pure ?_) fun h1 => T.ite (fun h2 => T.pure ?_) fun h2 => T.ite (fun h3 => T.pure ?_) fun h3 => T.no ?_ (T.pure ?_))
  · exact ⟨fun _ => .inl (of_decide_eq_true h1), fun _ => rfl⟩
  · exact ⟨fun _ => .inr (of_decide_eq_true h2), fun _ => rfl⟩
  · have h1 := of_decide_eq_false h1
    have h2 := of_decide_eq_false h2
    exact ⟨fun h => (by cases h), fun h => (by omega)⟩
  · have h1 := of_decide_eq_false h1
    have h2 := of_decide_eq_false h2
    have h3 := of_decide_eq_false h3
    rw [w64_in (by omega) (by omega)]; simp only [decide_eq_false_iff_not]; omega
  · have h1 := of_decide_eq_false h1
    have h2 := of_decide_eq_false h2
    have h3 := of_decide_eq_false h3
    have hc : l = 4 ∨ l = 5 ∨ l = 6 ∨ l = 7 := by omega
    rcases hc with rfl | rfl | rfl | rfl <;> decide
theorem drop_cons {α : Type} (l : List α) (d : α) {i : Nat} (h : i < l.length) : l.drop i = l.getD i d :: l.drop (i + 1) := by
  rw [List.drop_eq_getElem_cons h, List.getD_eq_getElem?_getD, List.getElem?_eq_getElem h]; rfl
theorem degL_app : ∀ (l m : List O) (ds : List Int), degL ds (l ++ m) = degL (degL ds l) m
  | [], m, ds => rfl
  | o :: l, m, ds => degL_app l m _
theorem degL_length : ∀ (l : List O) (ds : List Int), (degL ds l).length = ds.length + l.length
  | [], ds => rfl
  | o :: l, ds => by rw [degL, degL_length l, List.length_append, List.length_cons]; simp only [List.length_cons, List.length_nil]; omega
theorem degL_snoc (l : List O) {i : Nat} (h : i < l.length) : degL [] (l.take (i + 1)) = degL [] (l.take i) ++ [dgr (degL [] (l.take i)) (l.getD i zo)] := by
  rw [take_snoc l zo h, degL_app]; rfl
theorem dgr_nn {ds : List Int} (h : dsOk ds) (o : O) : 0 ≤ dgr ds o ∧ dgr ds o ≤ 16 := by
  have h1 := h o.2.1.toNat
  have h2 := h o.2.2.1.toNat
  unfold dgr
  split
  · omega
  · split
    · split <;> omega
    · split <;> omega
theorem dsOk_snoc {ds : List Int} (h : dsOk ds) {d : Int} (h1 : 0 ≤ d) (h2 : d ≤ 8) : dsOk (ds ++ [d]) := fun j => by
  by_cases hj : j < ds.length
  · rw [getD_app_lt ds d 0 hj]; exact h j
  · by_cases e : j = ds.length
    · subst e; simp; exact ⟨h1, h2⟩
    · have : (ds ++ [d]).getD j 0 = 0 := by simp [List.getD_eq_getElem?_getD]; rw [List.getElem?_eq_none (by simp; omega)]; rfl
      rw [this]; exact ⟨by decide, by decide⟩
theorem degrees_X (lv vars : Int) (l : List O) : T (fun k => expr_degrees.f k lv vars l) (fun r => r.2 = chkX lv vars l ∧ (r.2 = 0 → r.1 = degL [] l)) := by
  unfold chkX
  refine T.eq (expr_degrees.f_eq · lv vars l) (T.bind (wide_X lv) fun w hw => T.ite (fun h => T.pure ?_) fun h1 => T.ite (fun h => T.pure ?_) fun h2 => T.ite (fun h => T.pure ?_) fun h3 => T.ite (fun h => T.pure ?_) fun h4 => ?_)
  · have h : w = 0 := by simpa using h
    rw [if_pos (by have := hw.1 h; omega)]; exact ⟨rfl, fun h => by cases h⟩
  · have h := of_decide_eq_true h
    rw [if_pos (by omega)]; exact ⟨rfl, fun h => by cases h⟩
  · have h1 : ¬ w = 0 := by simpa using h1
    have : ¬ (lv < 0 ∨ lv > 7) := fun h => h1 (hw.2 h)
    have h2 := of_decide_eq_false h2
    have h : ((l.length : Int) = 0) := by simpa using h
    rw [if_neg (by omega), if_pos (by omega)]; exact ⟨rfl, fun h => by cases h⟩
  · have h1 : ¬ w = 0 := by simpa using h1
    have : ¬ (lv < 0 ∨ lv > 7) := fun h => h1 (hw.2 h)
    have h2 := of_decide_eq_false h2
    have h3 : ¬ ((l.length : Int) = 0) := by simpa using h3
    have h := of_decide_eq_true h
    rw [if_neg (by omega), if_neg (by omega), if_pos (by omega)]; exact ⟨rfl, fun h => by cases h⟩
  · have h1 : ¬ w = 0 := by simpa using h1
    have : ¬ (lv < 0 ∨ lv > 7) := fun h => h1 (hw.2 h)
    have h2 := of_decide_eq_false h2
    have h3 : ¬ ((l.length : Int) = 0) := by simpa using h3
    have h4 := of_decide_eq_false h4
    rw [if_neg (by omega), if_neg (by omega), if_neg (by omega)]
    refine T.loop0 (f := fun k s i => expr_degrees.l122 k lv vars s l (l.length : Int) i) l.length (fun s i => s = degL [] (l.take i) ∧ dsOk s ∧ chk lv vars [] l = chk lv vars s (l.drop i)) [] ⟨rfl, fun j => ⟨by simp, by simp⟩, rfl⟩ fun s i hi hI ih => ?_
    obtain ⟨I1, I2, I3⟩ := hI
    have hlen : s.length = i := by rw [I1, degL_length, List.length_take]; simp; omega
    refine T.eq (expr_degrees.l122_eq · lv vars s l _ _) (T.ite (fun hlt => ?_) (fun hge => ?_))
    · have hlt := lt_dec hlt
      have hroom : ∀ t : Int, room (s.length + ([t] : List Int).length) 8 = true := fun t => room_ok (by simp only [List.length_singleton]; omega)
      rw [drop_cons l zo hlt] at I3
      simp only [chk] at I3
      refine T.yes (inB_nat hlt) (T.bind (step_X _ _ _ _ I2) fun r hr => ?_)
      simp only [Int.toNat_natCast] at hr
      have e0 : (l.getD i (0, 0, 0, (0, 0, ()), ())) = l.getD i zo := rfl
      rw [e0] at hr
      rw [inc (by omega)]
      have go : r.2 = 0 → r.1 ≤ 8 → T (fun k => expr_degrees.l122 k lv vars (s ++ [r.1]) l (l.length : Int) ((i : Int) + 1)) _ := fun h h8 => ih _ hlt (by
        rw [hr.2 h] at h8 ⊢
        rw [hr.1] at h
        rw [if_pos h, if_neg (by omega)] at I3
        refine ⟨?_, dsOk_snoc I2 (dgr_nn I2 _).1 h8, I3⟩
        rw [degL_snoc l hlt, ← I1])
      refine T.ite (fun h2 => ?_) (fun h2 => ?_)
      · have h2 : r.2 = 0 := by simpa using h2
        refine T.ite (fun h8 => T.yes (by decide) (T.pure ?_)) (fun h8 => T.no (by simpa using h2) (T.yes (hroom _) (go h2 (by simpa using h8))))
        have h8 : r.1 > 8 := by simpa using h8
        rw [hr.2 h2] at h8
        rw [hr.1] at h2
        rw [if_pos h2, if_pos h8] at I3
        exact ⟨I3.symm, fun h => by cases h⟩
      · have h2 : ¬ r.2 = 0 := by simpa using h2
        refine T.yes (by simpa using h2) (T.pure ?_)
        rw [hr.1] at h2
        rw [if_neg h2] at I3
        exact ⟨by rw [I3]; exact hr.1, fun h => by rw [← hr.1] at h2; exact absurd h h2⟩
    · have hge := nlt_dec hge
      have e : i = l.length := by omega
      subst e
      rw [List.drop_length] at I3
      rw [List.take_length] at I1
      exact T.pure ⟨by rw [I3]; rfl, fun _ => I1⟩
theorem Check_X (lv vars : Int) (l : List O) : T (fun k => expr_Check.f k lv vars l) (fun e => e = chkX lv vars l) :=
  T.eq (expr_Check.f_eq · lv vars l) (T.bind (degrees_X lv vars l) fun r hr => T.pure hr.1)
end Go.Proofs.Ytplmejnoepkdgaa.H1
namespace Go.Proofs.Ytplmejnoepkdgaa.H1
open Go Go.Proofs.Ytplmejnoepkdgaa.Rf
theorem bit_X {x : E} (hx : rngE x) {i : Nat} (hi : i < 128) : T (fun k => steepleref01_bit.f k x (i : Int)) (fun r => r = (((nat x).testBit i).toNat : Nat)) := by
  obtain ⟨a, b, ⟨⟩⟩ := x
  obtain ⟨a, rfl, ha⟩ := rng_nat hx.1
  obtain ⟨b, rfl, hb⟩ := rng_nat hx.2
  have e : nat ((a : Int), (b : Int), ()) = a <<< 64 ^^^ b := rfl
  rw [e]
  have key : ∀ {m s : Nat}, m < 2 ^ 64 → s ≤ 64 → andI .u64 (shrI .u64 (m : Int) (s : Int)) 1 = (((m.testBit s).toNat : Nat) : Int) := fun {m s} hm hs => by
    rw [shr_nat hs]
    have := and_nat (a := m >>> s) (b := 1) (Tow.shr_lt64 hm) (by decide)
    refine Eq.trans this ?_
    rw [Nat.and_one_is_mod, Nat.toNat_testBit, Nat.shiftRight_eq_div_pow]
  refine T.eq (steepleref01_bit.f_eq · _ _) (T.ite (fun h => ?_) (fun h => ?_))
  · have h : 64 ≤ i := by have := of_decide_eq_true h; omega
    rw [w64_in (by omega) (by omega), wu_in (by omega) (by omega)]
    have e2 : (i : Int) - 64 = ((i - 64 : Nat) : Int) := by omega
    rw [e2]
    refine T.no (by simp only [decide_eq_false_iff_not]; omega) (T.pure ?_)
    show andI .u64 (shrI .u64 (a : Int) ((i - 64 : Nat) : Int)) 1 = _
    rw [key ha (by omega), Nat.testBit_xor, Nat.testBit_shiftLeft, Nat.testBit_lt_two_pow (i := i) (Nat.lt_of_lt_of_le hb (Nat.pow_le_pow_right (by decide) h))]
    have : decide (i ≥ 64) = true := by simpa using h
    rw [this]; simp
  · have h : i < 64 := by have := of_decide_eq_false h; omega
    rw [wu_in (by omega) (by omega)]
    refine T.no (by simp only [decide_eq_false_iff_not]; omega) (T.pure ?_)
    show andI .u64 (shrI .u64 (b : Int) (i : Int)) 1 = _
    rw [key hb (by omega), Nat.testBit_xor, Nat.testBit_shiftLeft]
    have : decide (i ≥ 64) = false := by simpa using h
    rw [this]; simp
theorem rof_X (lv : Int) {x : E} (hx : rngE x) : T (fun k => steepleref01_Of.f k lv x) (fun b => b = ofB lv x) := by
  refine T.eq (steepleref01_Of.f_eq · lv x) (T.ite (fun h => T.pure ?_) fun h1 => T.ite (fun h => T.pure ?_) fun h2 => ?_)
  · have h : lv < 0 := of_decide_eq_true h
    unfold ofB; rw [if_pos h]
  · have h1 : ¬ lv < 0 := of_decide_eq_false h1
    have h : lv > 7 := of_decide_eq_true h
    unfold ofB; rw [if_neg h1, if_pos h]
  · have h1 : ¬ lv < 0 := of_decide_eq_false h1
    have h2 : ¬ lv > 7 := of_decide_eq_false h2
    obtain ⟨l, rfl⟩ := Int.eq_ofNat_of_zero_le (show 0 ≤ lv by omega)
    have hl : l ≤ 7 := by omega
    refine T.yes (inB_nat (by show l < 8; omega)) ?_
    have e : ([1, 2, 4, 8, 16, 32, 64, 128] : List Int).getD ((l : Int).toNat) 0 = ((2 ^ l : Nat) : Int) := by
      rcases (show l = 0 ∨ l = 1 ∨ l = 2 ∨ l = 3 ∨ l = 4 ∨ l = 5 ∨ l = 6 ∨ l = 7 by omega) with rfl | rfl | rfl | rfl | rfl | rfl | rfl | rfl <;> rfl
    show T (fun k => steepleref01_Of.l122 k x (([1, 2, 4, 8, 16, 32, 64, 128] : List Int).getD ((l : Int).toNat) 0)) _
    rw [e]
    have hp : 2 ^ l ≤ 128 := p2le (m := 7) hl
    refine T.loop (σ := Unit) (f := fun k _ i => steepleref01_Of.l122 k x i) 128 (fun _ i => 2 ^ l ≤ i ∧ ∀ j, 2 ^ l ≤ j → j < i → (nat x).testBit j = false) (fun s i hi hI ih => ?_) (128 - 2 ^ l) () (2 ^ l) (by omega) hp ⟨Nat.le_refl _, fun j a b => by omega⟩
    obtain ⟨I1, I2⟩ := hI
    refine T.eq (steepleref01_Of.l122_eq · _ _) (T.ite (fun hlt => ?_) (fun hge => ?_))
    · have hlt : i < 128 := by have := of_decide_eq_true hlt; omega
      refine T.bind (bit_X hx hlt) fun b hb => T.ite (fun h => T.pure ?_) (fun h => ?_)
      · have hbit : (nat x).testBit i = true := by
          subst hb
          cases hc : (nat x).testBit i with
          | true => rfl
          | false => rw [hc] at h; cases h
        symm
        rw [Bool.eq_false_iff]
        intro ho
        have := (ofB_iff hl hx).1 ho
        rw [Nat.testBit_lt_two_pow (Nat.lt_of_lt_of_le this (Nat.pow_le_pow_right (by decide) I1))] at hbit
        cases hbit
      · have hbit : (nat x).testBit i = false := by
          subst hb
          cases hc : (nat x).testBit i with
          | false => rfl
          | true => rw [hc] at h; cases h
        rw [inc (by omega)]
        refine ih () hlt ⟨by omega, fun j a b => ?_⟩
        by_cases ej : j = i
        · subst ej; exact hbit
        · exact I2 j a (by omega)
    · have hge : i = 128 := by have := of_decide_eq_false hge; omega
      subst hge
      refine T.pure ?_
      symm
      rw [ofB_iff hl hx]
      refine Nat.lt_pow_two_of_testBit _ fun j hj => ?_
      by_cases h : j < 128
      · exact I2 j hj h
      · exact Nat.testBit_lt_two_pow (Nat.lt_of_lt_of_le (nat_lt hx) (Nat.pow_le_pow_right (by decide) (by show 2 ^ 7 ≤ j; omega)))
/-- Elements of words. -/
def allR (l : List E) : Prop := ∀ j, rngE (l.getD j z)
theorem all_X (lv : Int) {l : List E} (hl : l.length ≤ 100000000) (hr : allR l) : T (fun k => steepleref06_All.f k lv l) (fun b => b = true ↔ allOf lv l) := by
  refine T.eq (steepleref06_All.f_eq · lv l) (T.loop0 (σ := Unit) (f := fun k _ i => steepleref06_All.l26 k lv l i) l.length (fun _ i => ∀ j, j < i → ofB lv (l.getD j z) = true) () (fun j h => absurd h (by omega)) fun s i hi hI ih => ?_)
  refine T.eq (steepleref06_All.l26_eq · lv l _) (T.ite (fun hlt => ?_) (fun hge => ?_))
  · have hlt := lt_dec hlt
    simp only [Int.toNat_natCast]
    refine T.yes (inB_nat hlt) (T.bind (rof_X lv (hr i)) fun b hb => T.ite (fun h => T.pure ?_) (fun h => ?_))
    · have hb : b = ofB lv (l.getD i z) := hb
      have e : ofB lv (l.getD i z) = false := by rw [← hb]; simpa using h
      exact ⟨fun h => (by cases h), fun h => by rw [h i hlt] at e; cases e⟩
    · have hb : b = ofB lv (l.getD i z) := hb
      have e : ofB lv (l.getD i z) = true := by rw [← hb]; simpa using h
      rw [inc (by omega)]
      refine ih () hlt fun j hj => ?_
      by_cases ej : j = i
      · subst ej; exact e
      · exact hI j (by omega)
  · have e : i = l.length := by have := nlt_dec hge; omega
    subst e
    exact T.pure ⟨fun _ => hI, fun _ => rfl⟩
theorem degAt_X {vars : Int} (l : List O) (i : Nat) (hi : i < l.length) (hl : l.length ≤ 1000) (ho : ∀ j, j ≤ i → okS vars j (l.getD j zo)) (hd : ∀ k, k ≤ i → dsOk (degL [] (l.take k))) :
    T (fun k => steepleref16_DegreeAt.f k l (i : Int)) (fun r => r = (degL [] (l.take (i + 1))).getD i 0) := by
  refine T.eq (steepleref16_DegreeAt.f_eq · l _) (T.loop0 (f := fun k s j => steepleref16_DegreeAt.l58 k l (i : Int) s j) (i + 1) (fun s j => s = degL [] (l.take j)) [] rfl fun s j hj hI ih => ?_)
  refine T.eq (steepleref16_DegreeAt.l58_eq · l _ _ _) (T.ite (fun hlt => ?_) (fun hge => ?_))
  · have hlt : j ≤ i := by have := of_decide_eq_true hlt; omega
    have hjl : j < l.length := by omega
    have hlen : s.length = j := by rw [hI, degL_length, List.length_take]; simp; omega
    have hds : dsOk s := by rw [hI]; exact hd j hlt
    obtain ⟨o, eo⟩ : ∃ o, o = l.getD j zo := ⟨_, rfl⟩
    have eo' : l.getD j (0, 0, 0, (0, 0, ()), ()) = o := eo.symm
    obtain ⟨u1, u2, u3⟩ := ho j hlt
    rw [← eo] at u1 u2 u3
    rw [← hlen] at u3
    have hroom : ∀ t : Int, room (s.length + ([t] : List Int).length) 8 = true := fun t => room_ok (by simp only [List.length_singleton]; omega)
    have hin : inB (j : Int) l.length = true := inB_nat hjl
    have go : ∀ t, t = dgr s o → T (fun k => steepleref16_DegreeAt.l58 k l (i : Int) (s ++ [t]) (w64 ((j : Int) + 1))) _ := fun t ht => by
      rw [inc (by omega)]
      refine ih _ (by omega) ?_
      rw [degL_snoc l hjl, ← hI, ht, eo]
    have hw := (hds o.2.1.toNat)
    have hw2 := (hds o.2.2.1.toNat)
    have last : ∀ d1, (o.1 ≠ 4 → d1 = dgr s o) → T (fun k => steepleref16_DegreeAt.l7463 k l (i : Int) s (j : Int) d1) (fun r => r = (degL [] (l.take (i + 1))).getD i 0) := fun d1 h1 => by
      refine T.eq (steepleref16_DegreeAt.l7463_eq · l _ _ _ _) ?_
      simp only [Int.toNat_natCast, eo']
      refine T.yes hin (T.ite (fun h4 => T.yes hin ?_) (fun h4 => T.yes (hroom _) (go _ ?_)))
      · have h4 : o.1 = 4 := by simpa using h4
        obtain ⟨v1, v2, v3, v4⟩ := u3 (.inr h4)
        refine T.yes (inB_int v1 v2) (T.yes hin (T.yes (inB_int v3 v4) (T.yes (hroom _) (go _ ?_))))
        rw [w64_in (by omega) (by omega)]
        unfold dgr
        rw [if_neg (by omega), if_neg (by omega), if_pos h4]
      · exact h1 (by simpa using h4)
    have mid : ∀ d0, (o.1 ≠ 3 → o.1 ≠ 4 → d0 = dgr s o) → T (fun k => steepleref16_DegreeAt.l3731 k l (i : Int) s (j : Int) d0) (fun r => r = (degL [] (l.take (i + 1))).getD i 0) := fun d0 h0 => by
      refine T.eq (steepleref16_DegreeAt.l3731_eq · l _ _ _ _) ?_
      simp only [Int.toNat_natCast, eo']
      refine T.yes hin (T.ite (fun h3 => T.yes hin ?_) (fun h3 => last _ (h0 (by simpa using h3))))
      have h3 : o.1 = 3 := by simpa using h3
      obtain ⟨v1, v2, v3, v4⟩ := u3 (.inl h3)
      refine T.yes (inB_int v1 v2) (T.yes hin (T.yes (inB_int v3 v4) (T.ite (fun hb => T.yes hin (T.yes (inB_int v3 v4) (last _ fun _ => ?_))) (fun hb => last _ fun _ => ?_))))
      · unfold dgr; rw [if_neg (by omega), if_pos h3, if_pos (of_decide_eq_true hb)]
      · unfold dgr; rw [if_neg (by omega), if_pos h3, if_neg (of_decide_eq_false hb)]
    simp only [Int.toNat_natCast, eo']
    refine T.yes hin (T.ite (fun h2 => mid _ fun _ _ => ?_) (fun h2 => mid _ fun a b => ?_))
    · unfold dgr; rw [if_pos (by simpa using h2)]
    · unfold dgr; rw [if_neg (by simpa using h2), if_neg a, if_neg b]
  · have e : j = i + 1 := by have := of_decide_eq_false hge; omega
    subst e
    have hlen : s.length = i + 1 := by rw [hI, degL_length, List.length_take]; simp; omega
    exact T.yes (inB_nat (by omega)) (T.pure (by rw [hI]; rfl))
theorem rCheck_X (lv vars : Int) (l : List O) (hr : ∀ i, rngE (l.getD i zo).2.2.2.1) : T (fun k => steepleref16_Check.f k lv vars l) (fun e => e = chkX lv vars l) := by
  unfold chkX
  refine T.eq (steepleref16_Check.f_eq · lv vars l) (T.ite (fun h => T.pure ?_) fun h1 => T.ite (fun h => T.pure ?_) fun h2 => T.ite (fun h => T.pure ?_) fun h3 => T.ite (fun h => T.pure ?_) fun h4 => T.ite (fun h => T.pure ?_) fun h5 => ?_)
  all_goals simp only [beq_iff_eq, beq_eq_false_iff_ne, decide_eq_true_eq, decide_eq_false_iff_not, ne_eq] at *
  · rw [if_pos (by omega)]
  · rw [if_pos (by omega)]
  · rw [if_pos (by omega)]
  · rw [if_neg (by omega), if_pos (by omega)]
  · rw [if_neg (by omega), if_neg (by omega), if_pos (by omega)]
  · rw [if_neg (by omega), if_neg (by omega), if_neg (by omega)]
    refine T.loop0 (σ := Unit) (f := fun k _ i => steepleref16_Check.l506 k lv vars l (0, 0, ()) i) l.length (fun _ i => (∀ j, j < i → okS vars j (l.getD j zo)) ∧ (∀ k, k ≤ i → dsOk (degL [] (l.take k))) ∧ chk lv vars [] l = chk lv vars (degL [] (l.take i)) (l.drop i)) () ⟨fun j h => absurd h (by omega), fun k hk => ?_, rfl⟩ fun s i hi hI ih => ?_
    · have : k = 0 := by omega
      subst this
      exact fun j => ⟨by simp [degL], by simp [degL]⟩
    obtain ⟨I1, I2, I3⟩ := hI
    refine T.eq (steepleref16_Check.l506_eq · lv vars l _ _) (T.ite (fun hlt => ?_) (fun hge => ?_))
    · have hlt := lt_dec hlt
      have hlen : (degL [] (l.take i)).length = i := by rw [degL_length, List.length_take]; simp; omega
      rw [drop_cons l zo hlt] at I3
      simp only [chk, hlen] at I3
      have hro := hr i
      obtain ⟨o, eo⟩ : ∃ o, o = l.getD i zo := ⟨_, rfl⟩
      have eo' : l.getD i (0, 0, 0, (0, 0, ()), ()) = o := eo.symm
      rw [← eo] at hro I3
      simp only [Int.toNat_natCast, eo']
      refine T.yes (inB_nat hlt) ?_
      have bad : ∀ e, e = stepE lv vars i o → e ≠ 0 → T (fun _ : Nat => (some e : Option Int)) (fun e => e = chk lv vars [] l) := fun e h1 h2 => T.pure (by rw [if_neg (by rw [← h1]; exact h2)] at I3; rw [I3, h1])
      have tail : stepE lv vars i o = 0 → T (fun k => (steepleref16_DegreeAt.f k l (i : Int)).bind fun t => bif (decide (t > 8)) then (some 7) else (steepleref16_Check.l506 k lv vars l (0, 0, ()) (w64 ((i : Int) + 1)))) (fun e => e = chk lv vars [] l) := fun h0 => by
        have hok := stepE_ok h0
        have I1' : ∀ j, j < i + 1 → okS vars j (l.getD j zo) := fun j hj => by
          by_cases e : j = i
          · subst e; rw [← eo]; exact hok
          · exact I1 j (by omega)
        rw [if_pos h0] at I3
        refine T.bind (degAt_X (vars := vars) l i hlt (by omega) (fun j hj => I1' j (by omega)) I2) fun t ht => ?_
        have hd : t = dgr (degL [] (l.take i)) o := by
          rw [ht, degL_snoc l hlt, ← eo]
          simp [List.getD_eq_getElem?_getD, List.getElem?_append_right, hlen]
        refine T.ite (fun h => T.pure ?_) (fun h => ?_)
        · have h : t > 8 := of_decide_eq_true h
          rw [if_pos (by omega)] at I3
          exact I3.symm
        · have h : ¬ t > 8 := of_decide_eq_false h
          rw [if_neg (by omega)] at I3
          rw [inc (by omega)]
          refine ih () hlt ⟨I1', fun k hk => ?_, ?_⟩
          · by_cases e : k = i + 1
            · subst e
              rw [degL_snoc l hlt, ← eo]
              exact dsOk_snoc (I2 i (Nat.le_refl _)) (dgr_nn (I2 i (Nat.le_refl _)) _).1 (by omega)
            · exact I2 k (by omega)
          · rw [I3, degL_snoc l hlt, ← eo]
      have b1 : ∀ n : Int, o.1 = n → (decide (o.1 < 1)) = decide (n < 1) ∧ (decide (o.1 > 4)) = decide (n > 4) ∧ (decide (o.1 > 1)) = decide (n > 1) ∧ (decide (o.1 > 2)) = decide (n > 2) ∧ (o.1 == 1) = (n == 1) ∧ (o.1 == 2) = (n == 2) := fun n h => by rw [h]; exact ⟨rfl, rfl, rfl, rfl, rfl, rfl⟩
      by_cases k1 : o.1 = 1
      · obtain ⟨c1, c2, c3, c4, c5, c6⟩ := b1 1 k1
        simp only [c1, c2, c3, c4, c5, c6, show decide ((1:Int) < 1) = false from rfl, show decide ((1:Int) > 4) = false from rfl, show decide ((1:Int) > 1) = false from rfl, show decide ((1:Int) > 2) = false from rfl, show ((1:Int) == 1) = true from rfl, show ((1:Int) == 2) = false from rfl, cond_true, cond_false]
        refine T.ite (fun a => bad _ ?_ (by decide)) fun a => T.ite (fun b => bad _ ?_ (by decide)) fun b => T.bind (rof_X lv hro) fun t ht => T.ite (fun c => bad _ ?_ (by decide)) fun c => tail ?_
        all_goals simp only [bne_iff_ne, bne_eq_false_iff_eq, ne_eq] at *
        · unfold stepE; rw [if_neg (by omega), if_neg (by omega), if_neg (by omega)]
        · unfold stepE; rw [if_neg (by omega), if_neg (by omega), if_neg (by omega)]
        · unfold stepE; rw [if_pos (by omega), if_neg]; rw [← ht]; simpa using c
        · unfold stepE; rw [if_pos (by omega), if_pos]; rw [← ht]; simpa using c
      by_cases k2 : o.1 = 2
      · obtain ⟨c1, c2, c3, c4, c5, c6⟩ := b1 2 k2
        simp only [c1, c2, c3, c4, c5, c6, show decide ((2:Int) < 1) = false from rfl, show decide ((2:Int) > 4) = false from rfl, show decide ((2:Int) > 1) = true from rfl, show decide ((2:Int) > 2) = false from rfl, show ((2:Int) == 1) = false from rfl, show ((2:Int) == 2) = true from rfl, cond_true, cond_false]
        refine T.ite (fun a => bad _ ?_ (by decide)) fun a => T.ite (fun b => bad _ ?_ (by decide)) fun b => T.ite (fun c => bad _ ?_ (by decide)) fun c => T.ite (fun d => bad _ ?_ (by decide)) fun d => tail ?_
        all_goals simp only [bne_iff_ne, bne_eq_false_iff_eq, ne_eq, Bool.not_eq_true', Bool.not_eq_false', Bool.and_eq_true, Bool.and_eq_false_iff, beq_iff_eq, beq_eq_false_iff_ne, decide_eq_true_eq, decide_eq_false_iff_not] at *
        · unfold stepE; rw [if_neg (by omega), if_neg (by omega), if_neg (by omega)]
        · unfold stepE; rw [if_neg (by omega), if_neg (by omega), if_neg (by omega)]
        · unfold stepE; rw [if_neg (by omega), if_pos (by omega), if_neg (by omega)]
        · unfold stepE; rw [if_neg (by omega), if_pos (by omega), if_neg (by omega)]
        · unfold stepE; rw [if_neg (by omega), if_pos (by omega), if_pos (by omega)]
      by_cases k34 : o.1 = 3 ∨ o.1 = 4
      · have c1 : decide (o.1 < 1) = false := by simp only [decide_eq_false_iff_not]; omega
        have c2 : decide (o.1 > 4) = false := by simp only [decide_eq_false_iff_not]; omega
        have c3 : decide (o.1 > 1) = true := by simp only [decide_eq_true_eq]; omega
        have c4 : decide (o.1 > 2) = true := by simp only [decide_eq_true_eq]; omega
        have c5 : (o.1 == 1) = false := by simpa using k1
        have c6 : (o.1 == 2) = false := by simpa using k2
        simp only [c1, c2, c3, c4, c5, c6, cond_true, cond_false]
        refine T.ite (fun a => bad _ ?_ (by decide)) fun a => T.ite (fun b => bad _ ?_ (by decide)) fun b => T.ite (fun c => bad _ ?_ (by decide)) fun c => T.ite (fun d => bad _ ?_ (by decide)) fun d => T.ite (fun e => bad _ ?_ (by decide)) fun e => tail ?_
        all_goals simp only [bne_iff_ne, bne_eq_false_iff_eq, ne_eq, Bool.not_eq_true', Bool.not_eq_false', Bool.and_eq_true, Bool.and_eq_false_iff, beq_iff_eq, beq_eq_false_iff_ne, decide_eq_true_eq, decide_eq_false_iff_not] at *
        all_goals first
          | (unfold stepE; rw [if_neg (by omega), if_neg (by omega), if_neg (by omega)]; done)
          | (unfold stepE; rw [if_neg (by omega), if_neg (by omega), if_pos (by omega)])
      · by_cases k0 : o.1 < 1
        · refine T.yes (by simpa using k0) (bad _ ?_ (by decide))
          unfold stepE; rw [if_neg (by omega), if_neg (by omega), if_neg (by omega)]
        · refine T.no (by simpa using k0) (T.yes (by simp only [decide_eq_true_eq]; omega) (bad _ ?_ (by decide)))
          unfold stepE; rw [if_neg (by omega), if_neg (by omega), if_neg (by omega)]
    · have e : i = l.length := by have := nlt_dec hge; omega
      subst e
      rw [List.drop_length] at I3
      exact T.pure (by rw [I3]; rfl)
end Go.Proofs.Ytplmejnoepkdgaa.H1
namespace Go.Proofs.Ytplmejnoepkdgaa.H1
open Go Go.Proofs.Ytplmejnoepkdgaa.Rf
theorem any_getD {α : Type} (d : α) (p : α → Bool) (l : List α) : l.any p = true ↔ ∃ i, i < l.length ∧ p (l.getD i d) = true := by
  rw [List.any_eq_true]
  constructor
  · rintro ⟨x, hx, hp⟩
    obtain ⟨i, hi, rfl⟩ := List.getElem_of_mem hx
    exact ⟨i, hi, by rw [List.getD_eq_getElem?_getD, List.getElem?_eq_getElem hi]; exact hp⟩
  · rintro ⟨i, hi, hp⟩
    rw [List.getD_eq_getElem?_getD, List.getElem?_eq_getElem hi] at hp
    exact ⟨l[i], List.getElem_mem hi, hp⟩
theorem all_getD {α : Type} (d : α) (p : α → Bool) (l : List α) : l.all p = true ↔ ∀ i, i < l.length → p (l.getD i d) = true := by
  rw [List.all_eq_true]
  constructor
  · intro h i hi
    rw [List.getD_eq_getElem?_getD, List.getElem?_eq_getElem hi]; exact h _ (List.getElem_mem hi)
  · intro h x hx
    obtain ⟨i, hi, rfl⟩ := List.getElem_of_mem hx
    have := h i hi
    rw [List.getD_eq_getElem?_getD, List.getElem?_eq_getElem hi] at this
    exact this
theorem any_none {α : Type} {d : α} {p : α → Bool} {l : List α} (h : ∀ i, i < l.length → p (l.getD i d) = false) : l.any p = false := by
  rw [Bool.eq_false_iff]; intro hh
  obtain ⟨i, hi, hp⟩ := (any_getD d p l).1 hh
  rw [h i hi] at hp; cases hp
theorem all_not {α : Type} {d : α} {p : α → Bool} {l : List α} {i : Nat} (hi : i < l.length) (h : p (l.getD i d) = false) : l.all p = false := by
  rw [Bool.eq_false_iff]; intro hh
  rw [(all_getD d p l).1 hh i hi] at h; cases h
/-- A search. -/
theorem find_X {α : Type} (l : List α) (d : α) (p : α → Bool) (hl : l.length ≤ 100000000) {f : Nat → Int → Option Int} {g : Nat → α → Option Bool}
    (he : ∀ k (i : Int), f (k + 1) i = (bif (decide (i < (l.length : Int))) then (bif (inB i l.length) then ((g k (l.getD i.toNat d)).bind fun t => (bif t then (some i) else (f k (w64 (i + 1))))) else none) else (some (-1))))
    (hg : ∀ i, i < l.length → T (fun k => g k (l.getD i d)) (fun b => b = p (l.getD i d))) : T (fun k => f k 0) (fun r => decide (r ≥ 0) = l.any p) := by
  refine T.loop0 (σ := Unit) (f := fun k _ i => f k i) l.length (fun _ i => ∀ j, j < i → p (l.getD j d) = false) () (fun j h => absurd h (by omega)) fun s i hi hI ih => ?_
  refine T.eq (he · _) (T.ite (fun h => ?_) (fun h => T.pure ?_))
  · have hlt := lt_dec h
    simp only [Int.toNat_natCast]
    refine T.yes (inB_nat hlt) (T.bind (hg i hlt) fun b hb => T.ite (fun h => T.pure ?_) (fun h => ?_))
    · subst hb
      rw [(any_getD d p l).2 ⟨i, hlt, h⟩]; simp
    · subst hb
      rw [inc (by omega)]
      refine ih () hlt fun j hj => ?_
      by_cases e : j = i
      · subst e; exact h
      · exact hI j (by omega)
  · have e : i = l.length := by have := nlt_dec h; omega
    subst e
    rw [any_none hI]; rfl
/-- All of a level. -/
def allB (lv : Int) (l : List E) : Bool := l.all (ofB lv)
theorem any_not {α : Type} (p : α → Bool) (l : List α) : (l.any fun x => !p x) = !l.all p := by
  induction l with
  | nil => rfl
  | cons a l ih => simp only [List.any_cons, List.all_cons, ih, Bool.not_and]
theorem of_all_X (lv : Int) (l : List E) (hl : l.length ≤ 100000000) : T (fun k => sumcheck_of.f k lv l) (fun b => b = allB lv l) := by
  refine T.eq (sumcheck_of.f_eq · lv l) (T.bind (p := fun b => b = !allB lv l) ?_ fun b hb => T.pure (by rw [hb]; simp))
  refine T.eq (slices_ContainsFunc_sumcheck_of_1.f_eq · l lv) (T.bind (p := fun r => decide (r ≥ 0) = l.any fun x => !ofB lv x) ?_ fun r hr => T.pure (by rw [hr, any_not]; rfl))
  exact T.eq (slices_IndexFunc_sumcheck_of_1.f_eq · l lv) (find_X (f := fun k i => slices_IndexFunc_sumcheck_of_1.l26 k l lv (l.length : Int) i) (g := fun k x => sumcheck_of_1.f k x lv) l z _ hl (fun k i => slices_IndexFunc_sumcheck_of_1.l26_eq k l lv _ i) fun i hi => of1_S _ lv)
theorem chk1_X (l : List E) (lv : Int) (hl : l.length ≤ 100000000) : T (fun k => sumcheck_Check_1.f k l lv) (fun b => b = !allB lv l) := T.eq (sumcheck_Check_1.f_eq · l lv) (T.bind (of_all_X lv l hl) fun b hb => T.pure (by rw [hb]))
theorem cont_X (t : List (List E)) (lv : Int) (ht : fewT t) : T (fun k => slices_ContainsFunc_sumcheck_Check_1.f k t lv) (fun b => b = !t.all (allB lv)) := by
  refine T.eq (slices_ContainsFunc_sumcheck_Check_1.f_eq · t lv) (T.bind (p := fun r => decide (r ≥ 0) = t.any fun x => !allB lv x) ?_ fun r hr => T.pure (by rw [hr, any_not]))
  have h1 := ht.1
  exact T.eq (slices_IndexFunc_sumcheck_Check_1.f_eq · t lv) (find_X (f := fun k i => slices_IndexFunc_sumcheck_Check_1.l26 k t lv (t.length : Int) i) (g := fun k x => sumcheck_Check_1.f k x lv) t [] _ (by omega) (fun k i => slices_IndexFunc_sumcheck_Check_1.l26_eq k t lv _ i) fun i hi => chk1_X _ lv (ht.2 i))
theorem cube_of_X (lv : Int) (l : List E) (hl : l.length ≤ 100000000) : T (fun k => cube_of.f k lv l) (fun b => b = allB lv l) := by
  refine T.eq (cube_of.f_eq · lv l) (T.bind (p := fun b => b = !allB lv l) ?_ fun b hb => T.pure (by rw [hb]; simp))
  refine T.eq (slices_ContainsFunc_cube_of_1.f_eq · l lv) (T.bind (p := fun r => decide (r ≥ 0) = l.any fun x => !ofB lv x) ?_ fun r hr => T.pure (by rw [hr, any_not]; rfl))
  exact T.eq (slices_IndexFunc_cube_of_1.f_eq · l lv) (find_X (f := fun k i => slices_IndexFunc_cube_of_1.l26 k l lv (l.length : Int) i) (g := fun k x => cube_of_1.f k x lv) l z _ hl (fun k i => slices_IndexFunc_cube_of_1.l26_eq k l lv _ i) fun i hi => T.eq (cube_of_1.f_eq · _ lv) (T.bind (of_T _ _) fun b hb => T.pure (by rw [hb])))
theorem allOf_iff {lv : Int} {l : List E} : allB lv l = true ↔ allOf lv l := all_getD z (ofB lv) l
theorem rAll_X (lv : Int) {l : List E} (hl : l.length ≤ 100000000) (hr : allR l) : T (fun k => steepleref06_All.f k lv l) (fun b => b = allB lv l) :=
  (all_X lv hl hr).mono fun b hb => by rw [Bool.eq_iff_iff, hb, allOf_iff]
/-! Logarithms. -/
theorem shl_i {m : Nat} (h : m ≤ 16) : shlI .i64 1 (m : Int) = ((2 ^ m : Nat) : Int) := by
  have : ∀ n : Fin 17, shlI .i64 1 ((n.val : Nat) : Int) = ((2 ^ n.val : Nat) : Int) := by decide
  exact this ⟨m, by omega⟩
def IsLog (n r : Int) : Prop := (∃ m : Nat, m ≤ 16 ∧ n = ((2 ^ m : Nat) : Int) ∧ r = (m : Int)) ∨ (r = -1 ∧ ∀ m : Nat, m ≤ 16 → n ≠ ((2 ^ m : Nat) : Int))
theorem two_inj {a b : Nat} (h : 2 ^ a = 2 ^ b) : a = b := by
  rcases Nat.lt_trichotomy a b with h1 | h1 | h1
  · have := Nat.pow_lt_pow_right (show 1 < 2 by decide) h1; omega
  · exact h1
  · have := Nat.pow_lt_pow_right (show 1 < 2 by decide) h1; omega
theorem IsLog.uniq {n r s : Int} (h : IsLog n r) (k : IsLog n s) : r = s := by
  rcases h with ⟨m, h1, h2, h3⟩ | ⟨h1, h2⟩ <;> rcases k with ⟨m', k1, k2, k3⟩ | ⟨k1, k2⟩
  · have : 2 ^ m = 2 ^ m' := by rw [h2] at k2; exact_mod_cast k2
    have := two_inj this
    omega
  · exact absurd h2 (k2 m h1)
  · exact absurd k2 (h2 m' k1)
  · omega
open Classical in
noncomputable def logI (n : Int) : Int := if h : ∃ m : Nat, m ≤ 16 ∧ n = ((2 ^ m : Nat) : Int) then (h.choose : Int) else -1
theorem logI_is (n : Int) : IsLog n (logI n) := by
  unfold logI
  split
  · rename_i h; exact .inl ⟨h.choose, h.choose_spec.1, h.choose_spec.2, rfl⟩
  · rename_i h; exact .inr ⟨rfl, fun m hm e => h ⟨m, hm, e⟩⟩
theorem log_X (n : Int) : T (fun k => cube_Log.f k n) (fun r => r = logI n) := by
  refine T.eq (cube_Log.f_eq · n) (T.loop0 (σ := Unit) (f := fun k _ i => cube_Log.l26 k n i) 17 (fun _ i => ∀ m : Nat, m < i → n ≠ ((2 ^ m : Nat) : Int)) () (fun m h => absurd h (by omega)) fun s i hi hI ih => ?_)
  refine T.eq (cube_Log.l26_eq · n _) (T.ite (fun h => T.no (nn i) (T.ite (fun h2 => T.pure ?_) (fun h2 => ?_))) (fun h => T.pure ?_))
  · have h : i < 17 := by have := of_decide_eq_true h; omega
    rw [shl_i (by omega)] at h2
    exact IsLog.uniq (.inl ⟨i, by omega, by simpa using h2, rfl⟩) (logI_is n)
  · have h : i < 17 := by have := of_decide_eq_true h; omega
    rw [shl_i (by omega)] at h2
    rw [inc (by omega)]
    refine ih () h fun m hm => ?_
    by_cases e : m = i
    · subst e; simpa using h2
    · exact hI m (by omega)
  · have h : i = 17 := by have := of_decide_eq_false h; omega
    subst h
    exact IsLog.uniq (.inr ⟨rfl, fun m hm => hI m (by omega)⟩) (logI_is n)
theorem rlog_X (n : Int) : T (fun k => steepleref15_Log.f k n) (fun r => r = logI n) := by
  refine T.eq (steepleref15_Log.f_eq · n) (T.loop0 (f := fun k s i => steepleref15_Log.l58 k n s i) 17 (fun s i => s = ((2 ^ i : Nat) : Int) ∧ ∀ m : Nat, m < i → n ≠ ((2 ^ m : Nat) : Int)) 1 ⟨rfl, fun m h => absurd h (by omega)⟩ fun s i hi hI ih => ?_)
  obtain ⟨rfl, hI⟩ := hI
  refine T.eq (steepleref15_Log.l58_eq · n _ _) (T.ite (fun h => T.ite (fun h2 => T.pure ?_) (fun h2 => ?_)) (fun h => T.pure ?_))
  · have h : i ≤ 16 := by have := of_decide_eq_true h; omega
    exact IsLog.uniq (.inl ⟨i, by omega, (by simpa using h2 : _ = n).symm, rfl⟩) (logI_is n)
  · have h : i ≤ 16 := by have := of_decide_eq_true h; omega
    have hp : 2 ^ i ≤ 2 ^ 16 := Nat.pow_le_pow_right (by decide) h
    have h2' : ¬ ((2 ^ i : Nat) : Int) = n := by simpa only [beq_eq_false_iff_ne, ne_eq] using h2
    obtain ⟨q, hq⟩ : ∃ q, q = 2 ^ i := ⟨_, rfl⟩
    rw [← hq] at hp ⊢
    rw [inc (by omega), w64_in (by omega) (by omega)]
    refine ih _ (by omega) ⟨by rw [Nat.pow_succ, ← hq]; omega, fun m hm => ?_⟩
    by_cases e : m = i
    · subst e; exact fun e => h2' e.symm
    · exact hI m (by omega)
  · have h : i = 17 := by have := of_decide_eq_false h; omega
    subst h
    exact IsLog.uniq (.inr ⟨rfl, fun m hm => hI m (by omega)⟩) (logI_is n)
theorem logI_pow {m : Nat} (h : m ≤ 16) : logI ((2 ^ m : Nat) : Int) = (m : Int) := IsLog.uniq (logI_is _) (.inl ⟨m, h, rfl, rfl⟩)
theorem logI_nn {n : Int} (h : 0 ≤ logI n) : ∃ m : Nat, m ≤ 16 ∧ n = ((2 ^ m : Nat) : Int) ∧ logI n = (m : Int) := by
  rcases logI_is n with h1 | h1
  · exact h1
  · omega
/-! How many places there are. -/
def fitsB (lv d : Int) : Bool := decide (0 ≤ lv) && decide (lv ≤ 7) && decide (0 ≤ d) && decide (d ≤ (if lv = 0 then 1 else if lv = 1 then 3 else 8))
def plc (i : Nat) : E := (0, (i : Int), ())
theorem plc_rng {i : Nat} (h : i < 2 ^ 64) : rngE (plc i) := show rng 0 ∧ rng (i : Int) from ⟨⟨by decide, by decide⟩, nat_rng h⟩
theorem nat_plc (i : Nat) : nat (plc i) = i := by
  show (0 : Int).toNat <<< 64 ^^^ ((i : Int)).toNat = i
  simp
theorem plc_of {l i : Nat} (hl : l ≤ 7) (h : i < 2 ^ 64) : ofB (l : Int) (plc i) = true ↔ i < 2 ^ 2 ^ l := by
  rw [ofB_iff hl (plc_rng h), nat_plc]
theorem fits_X (lv d : Int) : T (fun k => line_Fits.f k lv d) (fun b => b = fitsB lv d) := by
  unfold fitsB
  refine T.eq (line_Fits.f_eq · lv d) (T.bind (wide_X lv) fun w hw => T.ite (fun h1 => T.ite (fun h2 => T.ite (fun h3 => T.bind (p := fun r => r = (0, wu64 d, ())) (T.eq (line_place.f_eq · d) (T.pure rfl)) fun r hr => T.bind (of_T lv r) fun b hb => T.pure ?_) (fun h3 => T.pure ?_)) (fun h2 => T.pure ?_)) (fun h1 => T.pure ?_))
  · have h1 : ¬ w = 0 := by simpa using h1
    rw [hw] at h1
    have h2 := of_decide_eq_true h2
    have h3 := of_decide_eq_true h3
    obtain ⟨l, rfl⟩ := Int.eq_ofNat_of_zero_le (show 0 ≤ lv by omega)
    obtain ⟨i, rfl⟩ := Int.eq_ofNat_of_zero_le (show 0 ≤ d by omega)
    subst hr hb
    rw [wu_in (by omega) (by omega)]
    show ofB (l : Int) (plc i) = _
    rw [Bool.eq_iff_iff, plc_of (by omega) (by omega)]
    simp only [Bool.and_eq_true, decide_eq_true_eq]
    rcases (show l = 0 ∨ l = 1 ∨ 2 ≤ l by omega) with rfl | rfl | h
    · constructor
      · intro h; refine ⟨by omega, ?_⟩; rw [if_pos (by omega)]; have : (2:Nat) ^ 2 ^ 0 = 2 := rfl; omega
      · rintro ⟨_, h⟩; rw [if_pos (by omega)] at h; have : (2:Nat) ^ 2 ^ 0 = 2 := rfl; omega
    · constructor
      · intro h; refine ⟨by omega, ?_⟩; rw [if_neg (by omega), if_pos (by omega)]; have : (2:Nat) ^ 2 ^ 1 = 4 := rfl; omega
      · rintro ⟨_, h⟩; rw [if_neg (by omega), if_pos (by omega)] at h; have : (2:Nat) ^ 2 ^ 1 = 4 := rfl; omega
    · rw [if_neg (by omega), if_neg (by omega)]
      have := pow_le h
      have e : (2:Nat) ^ 2 ^ 2 = 16 := rfl
      constructor
      · intro h; refine ⟨by omega, by omega⟩
      · intro h; omega
  · have h3 := of_decide_eq_false h3
    symm; simp only [Bool.and_eq_false_iff, decide_eq_false_iff_not]
    right; split
    · omega
    · split <;> omega
  · have h2 := of_decide_eq_false h2
    symm; simp only [Bool.and_eq_false_iff, decide_eq_false_iff_not]
    left; right; omega
  · have h1 : w = 0 := by simpa using h1
    rw [hw] at h1
    symm; simp only [Bool.and_eq_false_iff, decide_eq_false_iff_not]
    left; left; omega
theorem rfits_X (lv d : Int) : T (fun k => steepleref17_Fits.f k lv d) (fun b => b = fitsB lv d) := by
  unfold fitsB
  refine T.eq (steepleref17_Fits.f_eq · lv d) (T.ite (fun h => T.pure ?_) fun h1 => T.ite (fun h => T.pure ?_) fun h2 => T.ite (fun h => T.pure ?_) fun h3 => ?_)
  · have h := of_decide_eq_true h
    symm; simp only [Bool.and_eq_false_iff, decide_eq_false_iff_not]; left; left; left; omega
  · have h := of_decide_eq_true h
    symm; simp only [Bool.and_eq_false_iff, decide_eq_false_iff_not]; left; left; right; omega
  · have h := of_decide_eq_true h
    symm; simp only [Bool.and_eq_false_iff, decide_eq_false_iff_not]; left; right; omega
  · have h1 := of_decide_eq_false h1
    have h2 := of_decide_eq_false h2
    have h3 := of_decide_eq_false h3
    obtain ⟨l, rfl⟩ := Int.eq_ofNat_of_zero_le (show 0 ≤ lv by omega)
    refine T.yes (inB_nat (by show l < 8; omega)) (T.pure ?_)
    have e1 : decide ((0 : Int) ≤ (l : Int)) = true := by simp
    have e2 : decide ((l : Int) ≤ 7) = true := by simp; omega
    have e3 : decide (0 ≤ d) = true := by simp; omega
    rw [e1, e2, e3, Int.toNat_natCast]
    rcases (show l = 0 ∨ l = 1 ∨ l = 2 ∨ l = 3 ∨ l = 4 ∨ l = 5 ∨ l = 6 ∨ l = 7 by omega) with rfl | rfl | rfl | rfl | rfl | rfl | rfl | rfl <;> rfl
/-! What an expression that may be is. -/
theorem stepE_mono {lv lv' vars vars' : Int} {j : Nat} {o : O} (hv : vars ≤ vars') (ho : ∀ x, ofB lv x = true → ofB lv' x = true) (h : stepE lv vars j o = 0) : stepE lv' vars' j o = 0 := by
  unfold stepE at h ⊢
  split
  · rename_i c; rw [if_pos c] at h
    by_cases c2 : ofB lv o.2.2.2.1 = true
    · rw [if_pos (ho _ c2)]
    · rw [if_neg c2] at h; cases h
  · rename_i c; rw [if_neg c] at h
    split
    · rename_i c2; rw [if_pos c2] at h
      by_cases c3 : 0 ≤ o.2.1 ∧ o.2.1 < vars
      · rw [if_pos (by omega)]
      · rw [if_neg c3] at h; cases h
    · rename_i c2; rw [if_neg c2] at h
      exact h
theorem chk_facts (lv vars : Int) : ∀ (l : List O) (ds : List Int), dsOk ds → chk lv vars ds l = 0 → (∀ j, j < l.length → stepE lv vars (ds.length + j) (l.getD j zo) = 0) ∧ ∀ k, k ≤ l.length → dsOk (degL ds (l.take k))
  | [], ds, h, _ => ⟨fun j hj => absurd hj (by simp), fun k hk => by rw [List.take_nil]; exact h⟩
  | o :: l, ds, h, hc => by
    rw [chk] at hc
    split at hc
    · rename_i h0
      split at hc
      · cases hc
      · rename_i h8
        have hd := dsOk_snoc h (dgr_nn h o).1 (by omega : dgr ds o ≤ 8)
        obtain ⟨c1, c2⟩ := chk_facts lv vars l _ hd hc
        refine ⟨fun j hj => ?_, fun k hk => ?_⟩
        · cases j with
          | zero => exact h0
          | succ j =>
            have := c1 j (by simpa using hj)
            rw [List.length_append, List.length_singleton] at this
            rw [show ds.length + (j + 1) = ds.length + 1 + j by omega]
            exact this
        · cases k with
          | zero => exact h
          | succ k => exact c2 k (by simpa using hk)
    · rename_i h0; exact absurd hc h0
theorem chk_mono {lv lv' vars vars' : Int} (hv : vars ≤ vars') (ho : ∀ x, ofB lv x = true → ofB lv' x = true) : ∀ (l : List O) (ds : List Int), chk lv vars ds l = 0 → chk lv' vars' ds l = 0
  | [], ds, _ => rfl
  | o :: l, ds, hc => by
    rw [chk] at hc ⊢
    split at hc
    · rename_i h0
      rw [if_pos (stepE_mono hv ho h0)]
      split at hc
      · cases hc
      · rename_i h8
        rw [if_neg h8]; exact chk_mono hv ho l _ hc
    · rename_i h0; exact absurd hc h0
/-- An expression that may be. -/
structure XOk (lv vars : Int) (l : List O) : Prop where
  lv0 : 0 ≤ lv
  lv7 : lv ≤ 7
  v0 : 0 ≤ vars
  pos : 0 < l.length
  len : l.length ≤ 200
  chk : chk lv vars [] l = 0
theorem chkX_ok {lv vars : Int} {l : List O} (h : chkX lv vars l = 0) : XOk lv vars l := by
  unfold chkX at h
  split at h
  · cases h
  · split at h
    · cases h
    · split at h
      · cases h
      · exact ⟨by omega, by omega, by omega, by omega, by omega, h⟩
theorem XOk.eq {lv vars : Int} {l : List O} (h : XOk lv vars l) : chkX lv vars l = 0 := by
  have := h.lv0; have := h.lv7; have := h.v0; have := h.pos; have := h.len
  unfold chkX
  rw [if_neg (by omega), if_neg (by omega), if_neg (by omega)]; exact h.chk
theorem dsOk_nil : dsOk [] := fun j => by simp
theorem XOk.st {lv vars : Int} {l : List O} (h : XOk lv vars l) {j : Nat} (hj : j < l.length) : stepE lv vars j (l.getD j zo) = 0 := by
  have := (chk_facts lv vars l [] dsOk_nil h.chk).1 j hj
  rwa [List.length_nil, Nat.zero_add] at this
theorem XOk.ok {lv vars : Int} {l : List O} (h : XOk lv vars l) : okL vars l := fun j hj => stepE_ok (h.st hj)
theorem XOk.ds {lv vars : Int} {l : List O} (h : XOk lv vars l) {k : Nat} (hk : k ≤ l.length) : dsOk (degL [] (l.take k)) := (chk_facts lv vars l [] dsOk_nil h.chk).2 k hk
theorem ofB7 (x : E) : ofB 7 x = true := rfl
/-- An expression's degree, at least 1. -/
def dgI (l : List O) : Int := if (degL [] l).getD (l.length - 1) 0 < 1 then 1 else (degL [] l).getD (l.length - 1) 0
theorem dgI_le {lv vars : Int} {l : List O} (h : XOk lv vars l) : 1 ≤ dgI l ∧ dgI l ≤ 8 := by
  have h1 := h.ds (Nat.le_refl _) (l.length - 1)
  rw [List.take_length] at h1
  unfold dgI
  split <;> omega
theorem degree_X {lv vars : Int} {l : List O} (h : XOk lv vars l) (hv : vars ≤ 9223372036854775807) : T (fun k => sumcheck_degree.f k l) (fun r => r = dgI l) := by
  have h7 : XOk 7 9223372036854775807 l := ⟨by decide, by decide, by decide, h.pos, h.len, chk_mono hv (fun x _ => ofB7 x) l [] h.chk⟩
  have hp := h.pos
  have hl := h.len
  refine T.eq (sumcheck_degree.f_eq · l) (T.bind (p := fun r => r = (degL [] l).getD (l.length - 1) 0) ?_ fun r hr => T.pure ?_)
  · refine T.eq (expr_Degree.f_eq · l) (T.bind (degrees_X _ _ l) fun r hr => ?_)
    have h0 : r.2 = 0 := hr.1.trans h7.eq
    have e := hr.2 h0
    have hle : (degL [] l).length = l.length := by rw [degL_length]; simp
    rw [e, hle]
    have hw : w64 ((l.length : Int) - 1) = ((l.length - 1 : Nat) : Int) := by rw [w64_in (by omega) (by omega)]; omega
    rw [hw]
    exact T.no (by simpa using h0) (T.yes (inB_nat (by omega)) (T.pure rfl))
  · subst hr
    unfold dgI
    split <;> first | rfl | (split <;> omega) | omega
theorem rdegree_X {lv vars : Int} {l : List O} (h : XOk lv vars l) : T (fun k => steepleref20_Degree.f k l) (fun r => r = dgI l) := by
  have hp := h.pos
  have hl := h.len
  have hw : w64 ((l.length : Int) - 1) = ((l.length - 1 : Nat) : Int) := by rw [w64_in (by omega) (by omega)]; omega
  refine T.eq (steepleref20_Degree.f_eq · l) ?_
  rw [hw]
  refine T.bind (degAt_X (vars := vars) l (l.length - 1) (by omega) (by omega) (fun j hj => h.ok j (by omega)) (fun k hk => h.ds (by omega))) fun r hr => ?_
  rw [show l.length - 1 + 1 = l.length by omega, List.take_length] at hr
  unfold dgI
  subst hr
  exact T.ite (fun h => T.pure (by rw [if_pos (of_decide_eq_true h)])) (fun h => T.pure (by rw [if_neg (of_decide_eq_false h)]))
/-! Tables and an expression of them. -/
noncomputable def sChkV (lv : Int) (l : List O) (t : List (List E)) : Int :=
  if chkX lv t.length l ≠ 0 then chkX lv t.length l
  else if t.length = 0 then 6 else if fitsB lv (dgI l) = false then 6
  else if logI (t.getD 0 []).length < 0 ∨ logI (t.getD 0 []).length > 12 then 6
  else if (t.all fun x => decide (x.length = (t.getD 0 []).length)) = false then 6
  else if t.all (allB lv) = false then 5 else 0
theorem sCheck_X (lv : Int) (l : List O) (t : List (List E)) (ht : fewT t) : T (fun k => sumcheck_Check.f k lv l t) (fun e => e = sChkV lv l t) := by
  unfold sChkV
  have h1000 := ht.1
  refine T.eq (sumcheck_Check.f_eq · lv l t) (T.bind (Check_X lv _ l) fun e he => T.ite (fun h => T.pure ?_) fun h => ?_)
  · subst he; rw [if_pos (by simpa using h)]
  subst he
  have hx0 : chkX lv t.length l = 0 := by simpa using h
  have hx := chkX_ok hx0
  rw [if_neg (by simpa using h)]
  refine T.ite (fun h => T.pure ?_) fun h => ?_
  · rw [if_pos (by simpa using h)]
  have hp : ¬ t.length = 0 := by simpa using h
  rw [if_neg hp]
  refine T.bind (degree_X hx (by omega)) fun d hd => ?_
  subst hd
  refine T.bind (fits_X lv _) fun b hb => ?_
  subst hb
  refine T.ite (fun h => T.pure ?_) fun h => T.yes (inB_nat (i := 0) (by omega)) (T.bind (log_X _) fun r hr => ?_)
  · rw [if_pos (by simpa using h)]
  rw [if_neg (by simpa using h)]
  have hr : r = logI ((t.getD 0 []).length : Int) := hr
  rw [← hr]
  refine T.ite (fun h => T.pure ?_) fun h1 => T.ite (fun h => T.pure ?_) fun h2 => ?_
  · rw [if_pos (.inl (of_decide_eq_true h))]
  · rw [if_pos (.inr (of_decide_eq_true h))]
  have h1 := of_decide_eq_false h1
  have h2 := of_decide_eq_false h2
  rw [if_neg (by omega)]
  obtain ⟨m, m1, m2, m3⟩ := logI_nn (n := ((t.getD 0 []).length : Int)) (by omega)
  rw [hr, m3]
  have m2 : (t.getD 0 []).length = 2 ^ m := by exact_mod_cast m2
  refine T.loop0 (σ := Unit) (f := fun k _ i => sumcheck_Check.l506 k t lv (m : Int) t (t.length : Int) i) t.length (fun _ i => ∀ j, j < i → (t.getD j []).length = (t.getD 0 []).length) () (fun j h => absurd h (by omega)) fun s i hi hI ih => ?_
  refine T.eq (sumcheck_Check.l506_eq · t lv _ t _ _) (T.ite (fun hlt => ?_) (fun hge => ?_))
  · have hlt := lt_dec hlt
    simp only [Int.toNat_natCast]
    rw [shl_i m1]
    refine T.yes (inB_nat hlt) (T.no (nn m) (T.ite (fun h => T.pure ?_) (fun h => ?_)))
    · rw [if_pos]
      refine all_not (d := []) hlt ?_
      simp only [decide_eq_false_iff_not]
      have : ¬ ((t.getD i []).length : Int) = ((2 ^ m : Nat) : Int) := by simpa using h
      rw [m2]; omega
    · have : ((t.getD i []).length : Int) = ((2 ^ m : Nat) : Int) := by simpa using h
      rw [inc (by omega)]
      refine ih () hlt fun j hj => ?_
      by_cases e : j = i
      · subst e; omega
      · exact hI j (by omega)
  · have e : i = t.length := by have := nlt_dec hge; omega
    subst e
    have e1 : (t.all fun x => decide (x.length = (t.getD 0 []).length)) = true := (all_getD [] _ t).2 fun i hi => by simpa using hI i hi
    rw [e1, if_neg (by decide)]
    refine T.bind (cont_X t lv ht) fun b hb => T.ite (fun h => T.pure ?_) (fun h => T.pure ?_)
    · subst hb; rw [if_pos (by simpa using h)]
    · subst hb; rw [if_neg (by simpa using h)]
/-- Elements of words, in tables. -/
def allRR (t : List (List E)) : Prop := ∀ i, allR (t.getD i [])
theorem r20Check_X (lv : Int) (l : List O) (t : List (List E)) (ht : fewT t) (hr : ∀ i, rngE (l.getD i zo).2.2.2.1) (hrt : allRR t) : T (fun k => steepleref20_Check.f k lv l t) (fun e => e = sChkV lv l t) := by
  unfold sChkV
  have h1000 := ht.1
  refine T.eq (steepleref20_Check.f_eq · lv l t) (T.bind (rCheck_X lv _ l hr) fun e he => T.ite (fun h => T.pure ?_) fun h => ?_)
  · subst he; rw [if_pos (by simpa using h)]
  subst he
  have hx0 : chkX lv t.length l = 0 := by simpa using h
  have hx := chkX_ok hx0
  rw [if_neg (by simpa using h)]
  refine T.ite (fun h => T.pure ?_) fun h => ?_
  · rw [if_pos (by simpa using h)]
  have hp : ¬ t.length = 0 := by simpa using h
  rw [if_neg hp]
  refine T.bind (rdegree_X hx) fun d hd => ?_
  subst hd
  refine T.bind (rfits_X lv _) fun b hb => ?_
  subst hb
  refine T.ite (fun h => T.pure ?_) fun h => T.yes (inB_nat (i := 0) (by omega)) (T.bind (rlog_X _) fun r hr => ?_)
  · rw [if_pos (by simpa using h)]
  rw [if_neg (by simpa using h)]
  have hr : r = logI ((t.getD 0 []).length : Int) := hr
  rw [← hr]
  refine T.ite (fun h => T.pure ?_) fun h1 => T.ite (fun h => T.pure ?_) fun h2 => ?_
  · rw [if_pos (.inl (of_decide_eq_true h))]
  · rw [if_pos (.inr (of_decide_eq_true h))]
  have h1 := of_decide_eq_false h1
  have h2 := of_decide_eq_false h2
  rw [if_neg (by omega)]
  refine T.loop0 (σ := Unit) (f := fun k _ i => steepleref20_Check.l1018 k lv t i) t.length (fun _ i => ∀ j, j < i → (t.getD j []).length = (t.getD 0 []).length) () (fun j h => absurd h (by omega)) fun s i hi hI ih => ?_
  refine T.eq (steepleref20_Check.l1018_eq · lv t _) (T.ite (fun hlt => ?_) (fun hge => ?_))
  · have hlt := lt_dec hlt
    simp only [Int.toNat_natCast]
    refine T.yes (inB_nat hlt) (T.yes (inB_nat (i := 0) (by omega)) (T.ite (fun h => T.pure ?_) (fun h => ?_)))
    · rw [if_pos]
      refine all_not (d := []) hlt ?_
      simp only [decide_eq_false_iff_not]
      have : ¬ ((t.getD i []).length : Int) = ((t.getD 0 []).length : Int) := by simpa using h
      omega
    · have : ((t.getD i []).length : Int) = ((t.getD 0 []).length : Int) := by simpa using h
      rw [inc (by omega)]
      refine ih () hlt fun j hj => ?_
      by_cases e : j = i
      · subst e; omega
      · exact hI j (by omega)
  · have e : i = t.length := by have := nlt_dec hge; omega
    subst e
    have e1 : (t.all fun x => decide (x.length = (t.getD 0 []).length)) = true := (all_getD [] _ t).2 fun i hi => by simpa using hI i hi
    rw [e1, if_neg (by decide)]
    refine T.loop0 (σ := Unit) (f := fun k _ i => steepleref20_Check.l2042 k lv t i) t.length (fun _ i => ∀ j, j < i → allB lv (t.getD j []) = true) () (fun j h => absurd h (by omega)) fun s i hi hI2 ih => ?_
    refine T.eq (steepleref20_Check.l2042_eq · lv t _) (T.ite (fun hlt => ?_) (fun hge => ?_))
    · have hlt := lt_dec hlt
      simp only [Int.toNat_natCast]
      refine T.yes (inB_nat hlt) (T.bind (rAll_X lv (ht.2 i) (hrt i)) fun b hb => T.ite (fun h => T.pure ?_) (fun h => ?_))
      · have hb : b = allB lv (t.getD i []) := hb
        rw [if_pos]
        exact all_not (d := []) hlt (by rw [← hb]; simpa using h)
      · have hb : b = allB lv (t.getD i []) := hb
        rw [inc (by omega)]
        refine ih () hlt fun j hj => ?_
        by_cases e : j = i
        · subst e; rw [← hb]; simpa using h
        · exact hI2 j (by omega)
    · have e : i = t.length := by have := nlt_dec hge; omega
      subst e
      rw [if_neg]
      · exact T.pure rfl
      · rw [(all_getD [] _ t).2 hI2]; decide
/-- Tables that may be. -/
structure SOk (lv : Int) (l : List O) (t : List (List E)) : Prop where
  x : XOk lv t.length l
  pos : 0 < t.length
  fit : fitsB lv (dgI l) = true
  lg : ∃ m : Nat, m ≤ 12 ∧ (t.getD 0 []).length = 2 ^ m
  len : ∀ i, i < t.length → (t.getD i []).length = (t.getD 0 []).length
  all : ∀ i, i < t.length → allB lv (t.getD i []) = true
theorem sChkV_ok {lv : Int} {l : List O} {t : List (List E)} (h : sChkV lv l t = 0) : SOk lv l t := by
  unfold sChkV at h
  split at h
  · rename_i c; exact absurd h c
  rename_i c1
  split at h
  · cases h
  split at h
  · cases h
  split at h
  · cases h
  split at h
  · cases h
  split at h
  · cases h
  rename_i c2 c3 c4 c5 c6
  obtain ⟨m, m1, m2, m3⟩ := logI_nn (n := ((t.getD 0 []).length : Int)) (by omega)
  refine ⟨chkX_ok (by simpa using c1), by omega, eq_true_of_ne_false c3, ⟨m, by omega, by exact_mod_cast m2⟩, fun i hi => ?_, fun i hi => ?_⟩
  · exact of_decide_eq_true ((all_getD [] _ t).1 (eq_true_of_ne_false c5) i hi)
  · exact (all_getD [] _ t).1 (eq_true_of_ne_false c6) i hi
end Go.Proofs.Ytplmejnoepkdgaa.H1
namespace Go.Proofs.Ytplmejnoepkdgaa.H1
open Go Go.Proofs.Ytplmejnoepkdgaa.Rf
/-- Elements of a level. -/
def inL (lv : Int) (x : E) : Prop := rngE x ∧ ofB lv x = true
def allL (lv : Int) (l : List E) : Prop := ∀ j, inL lv (l.getD j z)
theorem inL_z {lv : Int} (h1 : 0 ≤ lv) (h2 : lv ≤ 7) : inL lv z := ⟨rngE_z, (ofB_bit h1 h2).1⟩
theorem rng_one : rngE one := ⟨⟨by decide, by decide⟩, by decide, by decide⟩
theorem inL_one {lv : Int} (h1 : 0 ≤ lv) (h2 : lv ≤ 7) : inL lv one := ⟨rng_one, (ofB_bit h1 h2).2⟩
theorem inL_iff {l : Nat} (hl : l ≤ 7) {x : E} : inL (l : Int) x ↔ rngE x ∧ nat x < 2 ^ 2 ^ l := ⟨fun h => ⟨h.1, (ofB_iff hl h.1).1 h.2⟩, fun h => ⟨h.1, (ofB_iff hl h.1).2 h.2⟩⟩
theorem inL_lv {lv : Int} {x : E} (h : inL lv x) : ∃ l : Nat, lv = (l : Int) ∧ l ≤ 7 := ofB_lv h.2
theorem inL_Av {lv : Int} {a b : E} (ha : inL lv a) (hb : inL lv b) : inL lv (Av a b) := by
  obtain ⟨l, rfl, hl⟩ := inL_lv ha
  rw [inL_iff hl] at ha hb ⊢
  exact ⟨Av_rng a b, by rw [nat_Av ha.1 hb.1]; exact Nat.xor_lt_two_pow ha.2 hb.2⟩
theorem inL_Pr {lv : Int} {a b : E} (ha : inL lv a) (hb : inL lv b) : inL lv (Pr a b) := by
  obtain ⟨l, rfl, hl⟩ := inL_lv ha
  rw [inL_iff hl] at ha hb ⊢
  exact ⟨Pr_rng ha.1 hb.1, by rw [nat_Pr, Tow.mul_to7 hl ha.2 hb.2]; exact Tow.mul_lt l _ _ ha.2 hb.2⟩
theorem Mv_P {lv : Int} {a b : E} (ha : inL lv a) (hb : inL lv b) : Mv lv a b = Pr a b := by
  obtain ⟨l, rfl, hl⟩ := inL_lv ha
  exact Mul_N hl ha.1 hb.1 ha.2 hb.2
theorem nat_one : nat one = 1 := by decide
theorem nat_z : nat z = 0 := by decide
theorem Pr_one {a : E} (h : rngE a) : Pr one a = a := by unfold Pr; rw [nat_one, Tow.one_mul (nat_lt h), mk_nat h]
theorem Pr_zl (a : E) : Pr z a = z := by unfold Pr; rw [nat_z, Tow.mul0l]; decide
theorem nat_inj {a b : E} (ha : rngE a) (hb : rngE b) (h : nat a = nat b) : a = b := by rw [← mk_nat ha, ← mk_nat hb, h]
theorem Av_assoc {a b c : E} (ha : rngE a) (hb : rngE b) (hc : rngE c) : Av (Av a b) c = Av a (Av b c) :=
  nat_inj (Av_rng _ _) (Av_rng _ _) (by rw [nat_Av (Av_rng _ _) hc, nat_Av ha hb, nat_Av ha (Av_rng _ _), nat_Av hb hc, Nat.xor_assoc])
theorem Av_self {a : E} (ha : rngE a) : Av a a = z := nat_inj (Av_rng _ _) rngE_z (by rw [nat_Av ha ha, Nat.xor_self, nat_z])
theorem add_X (a b : E) : T (fun k => tower_Add.f k a b) (fun r => r = Av a b) := add_T a b
theorem mul_X {lv : Int} {a b : E} (ha : inL lv a) (hb : inL lv b) : T (fun k => tower_Mul.f k lv a b) (fun r => r = Pr a b) := (Mv_T lv a b).mono fun r hr => hr.trans (Mv_P ha hb)
/-! What an expression comes to. -/
def nxtP (v out : List E) (o : O) : E :=
  if o.1 = 1 then o.2.2.2.1 else if o.1 = 2 then v.getD o.2.1.toNat z else if o.1 = 3 then Av (out.getD o.2.1.toNat z) (out.getD o.2.2.1.toNat z) else if o.1 = 4 then Pr (out.getD o.2.1.toNat z) (out.getD o.2.2.1.toNat z) else z
def outP (v : List E) : List E → List O → List E
  | out, [] => out
  | out, o :: l => outP v (out ++ [nxtP v out o]) l
/-- An expression's value. -/
def evP (l : List O) (v : List E) : E := (outP v [] l).getD (l.length - 1) z
theorem outP_append (v : List E) : ∀ (l m : List O) (out : List E), outP v out (l ++ m) = outP v (outP v out l) m
  | [], m, out => rfl
  | o :: l, m, out => outP_append v l m _
theorem outP_length (v : List E) : ∀ (l : List O) (out : List E), (outP v out l).length = out.length + l.length
  | [], out => by simp [outP]
  | o :: l, out => by rw [outP, outP_length v l, List.length_append, List.length_cons]; simp only [List.length_cons, List.length_nil]; omega
theorem getD_snoc {α : Type} {l : List α} {a d : α} {j : Nat} : (l ++ [a]).getD j d = if j < l.length then l.getD j d else if j = l.length then a else d := by
  split
  · rename_i h; exact getD_app_lt l a d h
  · split
    · rename_i h1 h2; subst h2; simp
    · rename_i h1 h2; rw [List.getD_eq_getElem?_getD, List.getElem?_eq_none (by simp; omega)]; rfl
theorem allL_snoc {lv : Int} {l : List E} {a : E} (h : allL lv l) (ha : inL lv a) : allL lv (l ++ [a]) := fun j => by
  rw [getD_snoc]
  split
  · exact h j
  · split
    · exact ha
    · have := h (l.length)
      rwa [List.getD_eq_getElem?_getD, List.getElem?_eq_none (by omega)] at this
theorem nxt_P {lv : Int} {v out : List E} {o : O} (hv : allL lv v) (ho : allL lv out) (hs : stepE lv v.length out.length o = 0) (hc : rngE o.2.2.2.1) : nxt lv v out o = nxtP v out o ∧ inL lv (nxtP v out o) := by
  have hz : inL lv z := by
    have := hv v.length
    rwa [List.getD_eq_getElem?_getD, List.getElem?_eq_none (by omega)] at this
  unfold nxt nxtP
  by_cases k1 : o.1 = 1
  · rw [if_pos k1, if_pos k1]; exact ⟨rfl, hc, stepE_of hs k1⟩
  by_cases k2 : o.1 = 2
  · rw [if_neg k1, if_neg k1, if_pos k2, if_pos k2]; exact ⟨rfl, hv _⟩
  by_cases k3 : o.1 = 3
  · rw [if_neg k1, if_neg k1, if_neg k2, if_neg k2, if_pos k3, if_pos k3]; exact ⟨rfl, inL_Av (ho _) (ho _)⟩
  by_cases k4 : o.1 = 4
  · rw [if_neg k1, if_neg k1, if_neg k2, if_neg k2, if_neg k3, if_neg k3, if_pos k4, if_pos k4]; exact ⟨Mv_P (ho _) (ho _), inL_Pr (ho _) (ho _)⟩
  · rw [if_neg k1, if_neg k1, if_neg k2, if_neg k2, if_neg k3, if_neg k3, if_neg k4, if_neg k4]; exact ⟨rfl, hz⟩
/-- Constants of words. -/
def cR (l : List O) : Prop := ∀ i, rngE (l.getD i zo).2.2.2.1
theorem cR_cons {o : O} {l : List O} (h : cR (o :: l)) : rngE o.2.2.2.1 ∧ cR l := ⟨h 0, fun i => h (i + 1)⟩
theorem outs_P {lv : Int} {v : List E} (hv : allL lv v) : ∀ (l : List O) (out : List E), allL lv out → (∀ j, j < l.length → stepE lv v.length (out.length + j) (l.getD j zo) = 0) → cR l → outs lv v out l = outP v out l ∧ allL lv (outP v out l)
  | [], out, ho, _, _ => ⟨rfl, ho⟩
  | o :: l, out, ho, hs, hc => by
    obtain ⟨c1, c2⟩ := cR_cons hc
    have hs0 : stepE lv v.length out.length o = 0 := by have := hs 0 (by simp); simpa using this
    obtain ⟨e, i⟩ := nxt_P hv ho hs0 c1
    rw [outs, outP, e]
    refine outs_P hv l _ (allL_snoc ho i) (fun j hj => ?_) c2
    have := hs (j + 1) (by simpa using hj)
    rw [List.length_append, List.length_singleton, show out.length + 1 + j = out.length + (j + 1) by omega]
    exact this
theorem allL_of {lv : Int} {l : List E} (h0 : 0 ≤ lv) (h7 : lv ≤ 7) (hr : allR l) (ha : allB lv l = true) : allL lv l := fun j => by
  by_cases h : j < l.length
  · exact ⟨hr j, (all_getD z _ l).1 ha j h⟩
  · rw [List.getD_eq_getElem?_getD, List.getElem?_eq_none (by omega)]; exact inL_z h0 h7
theorem allL_nil {lv : Int} (h0 : 0 ≤ lv) (h7 : lv ≤ 7) : allL lv [] := fun j => inL_z h0 h7
theorem ev_ok {lv : Int} {l : List O} {v : List E} (h : XOk lv v.length l) (hc : cR l) (hv : allL lv v) : (outs lv v [] l).getD (l.length - 1) z = evP l v ∧ inL lv (evP l v) := by
  obtain ⟨e, i⟩ := outs_P hv l [] (allL_nil h.lv0 h.lv7) (fun j hj => by rw [List.length_nil, Nat.zero_add]; exact h.st hj) hc
  rw [e]; exact ⟨rfl, i _⟩
theorem Check_ev (lv vars : Int) (l : List O) : Ev (fun k => expr_Check.f k lv vars l) (chkX lv vars l) := by
  obtain ⟨r, h1, h2⟩ := Check_X lv vars l
  rw [← h1]; exact h2
theorem Eval_X (lv : Int) (l : List O) (v : List E) (hv : v.length ≤ 100000) (hc : cR l) (hr : allR v) : T (fun k => expr_Eval.f k lv l v) (fun r =>
    r = if chkX lv v.length l = 0 then (if allB lv v = true then (evP l v, 0) else (z, 5)) else (z, chkX lv v.length l)) := by
  by_cases h0 : chkX lv v.length l = 0
  · rw [if_pos h0]
    have hx := chkX_ok h0
    by_cases ha : allB lv v = true
    · rw [if_pos ha]
      have hE := Check_ev lv v.length l
      rw [h0] at hE
      have ho := allOf_iff.1 ha
      refine (T.both (Eval_T lv l v hv) (Eval_ok lv l v hv hE ho)).mono fun r hr' => ?_
      have := hr'.1.1 hE ho
      rw [(ev_ok hx hc (allL_of hx.lv0 hx.lv7 hr ha)).1] at this
      exact Prod.ext this hr'.2
    · rw [if_neg ha]
      refine T.eq (expr_Eval.f_eq · lv l v) (T.bind (Check_X lv _ l) fun e he => T.no (by subst he; simpa using h0) ?_)
      refine T.loop0 (σ := Unit) (f := fun k _ i => expr_Eval.l58 k lv l v (0, 0, ()) v (v.length : Int) i) v.length (fun _ i => ∀ j, j < i → ofB lv (v.getD j z) = true) () (fun j h => absurd h (by omega)) fun s i hi hI ih => ?_
      refine T.eq (expr_Eval.l58_eq · lv l v _ v _ _) (T.ite (fun h => ?_) (fun h => ?_))
      · have hlt := lt_dec h
        simp only [Int.toNat_natCast]
        refine T.yes (inB_nat hlt) (T.bind (of_T _ _) fun b hb => T.ite (fun hn => T.pure rfl) fun hy => ?_)
        rw [inc (by omega)]
        refine ih () hlt fun j hj => ?_
        by_cases e : j = i
        · subst e
          rw [show ofB lv (v.getD j z) = b from hb.symm]; simpa using hy
        · exact hI j (by omega)
      · have e : i = v.length := by have := nlt_dec h; omega
        subst e
        exact absurd ((all_getD z _ v).2 hI) ha
  · rw [if_neg h0]
    exact T.eq (expr_Eval.f_eq · lv l v) (T.bind (Check_X lv _ l) fun e he => T.yes (by subst he; simpa using h0) (T.pure (by rw [he]; rfl)))
theorem outP_snoc (v : List E) (l : List O) {i : Nat} (h : i < l.length) : outP v [] (l.take (i + 1)) = outP v [] (l.take i) ++ [nxtP v (outP v [] (l.take i)) (l.getD i zo)] := by
  rw [take_snoc l zo h, outP_append]; rfl
/-! Sums over corners. -/
def sumP (l : List O) (t : List (List E)) : E := fold (fun i => evP l (col t i)) (t.getD 0 []).length
theorem col_L {lv : Int} {t : List (List E)} (h0 : 0 ≤ lv) (h7 : lv ≤ 7) (hr : allRR t) (ha : ∀ i, i < t.length → allB lv (t.getD i []) = true) (i : Nat) : allL lv (col t i) := fun j => by
  by_cases h : j < t.length
  · rw [col_at t i j h]; exact allL_of h0 h7 (hr j) (ha j h) i
  · rw [List.getD_eq_getElem?_getD, List.getElem?_eq_none (by rw [col_len]; omega)]; exact inL_z h0 h7
theorem allL_B {lv : Int} {l : List E} (h : allL lv l) : allB lv l = true := (all_getD z _ l).2 fun i _ => (h i).2
theorem allL_R {lv : Int} {l : List E} (h : allL lv l) : allR l := fun j => (h j).1
theorem SOk.okT {lv : Int} {l : List O} {t : List (List E)} (h : SOk lv l t) : okT t := ⟨h.pos, h.len⟩
theorem fold_congr {f g : Nat → E} : ∀ n, (∀ i, i < n → f i = g i) → fold f n = fold g n
  | 0, _ => rfl
  | n + 1, h => by rw [fold, fold, fold_congr n fun i hi => h i (by omega), h n (by omega)]
theorem sum_X {lv : Int} {l : List O} {t : List (List E)} (h : SOk lv l t) (ht : fewT t) (hc : cR l) (hr : allRR t) : T (fun k => sumcheck_sum.f k lv l t) (fun r => r = sumP l t) := by
  have h1000 := ht.1
  refine (sum_S lv l t ht h.okT).mono fun r hr' => hr' _ fun i hi r' hE => ?_
  have cl := col_L h.x.lv0 h.x.lv7 hr h.all i
  have hx := h.x
  have := (Eval_X lv l (col t i) (by rw [col_len]; omega) hc (allL_R cl)).of hE
  rw [col_len, if_pos hx.eq, if_pos (allL_B cl)] at this
  rw [this]
theorem sSum_X (lv : Int) (l : List O) (t : List (List E)) (ht : fewT t) (hc : cR l) (hr : allRR t) : T (fun k => sumcheck_Sum.f k lv l t) (fun r => r = if sChkV lv l t = 0 then (sumP l t, 0) else (z, sChkV lv l t)) := by
  refine T.eq (sumcheck_Sum.f_eq · lv l t) (T.bind (sCheck_X lv l t ht) fun e he => T.ite (fun h => T.pure ?_) (fun h => ?_))
  · subst he; rw [if_neg (by simpa using h)]; rfl
  · subst he
    have h0 : sChkV lv l t = 0 := by simpa using h
    rw [if_pos h0]
    exact T.bind (sum_X (sChkV_ok h0) ht hc hr) fun s hs => T.pure (by rw [hs])
/-! The first error. -/
def errs {α : Type} (e : α → Int) : List α → Int
  | [] => 0
  | a :: r => if e a = 0 then errs e r else e a
theorem errs_drop {α : Type} {e : α → Int} {d : α} {l : List α} : ∀ i, i ≤ l.length → (∀ j, j < i → e (l.getD j d) = 0) → errs e l = errs e (l.drop i)
  | 0, _, _ => rfl
  | i + 1, hi, h => by
    rw [errs_drop i (by omega) fun j hj => h j (by omega), drop_cons l d (by omega), errs, if_pos (h i (by omega))]
end Go.Proofs.Ytplmejnoepkdgaa.H1
namespace Go.Proofs.Ytplmejnoepkdgaa.H1
open Go Go.Proofs.Ytplmejnoepkdgaa.Rf
/-! Conditions, mixed. -/
end Go.Proofs.Ytplmejnoepkdgaa.H1
namespace Go.Proofs.Ytplmejnoepkdgaa.H1
open Go Go.Proofs.Ytplmejnoepkdgaa.Rf
/-! Copies. -/
theorem map_X {α β : Type} (l : List α) (d : α) (h : α → β) {b : Nat} (hl : l.length ≤ 100000000) (hb : l.length * b ≤ 140737488355328) {f : Nat → List β → Int → Option (List β)} {g : Nat → α → Option β}
    (he : ∀ k s (i : Int), f (k + 1) s i = (bif (decide (i < (l.length : Int))) then (bif (inB i l.length) then ((g k (l.getD i.toNat d)).bind fun t => (bif (room (s.length + ([t] : List β).length) b) then (f k (s ++ ([t])) (w64 (i + 1))) else none)) else none) else (some s)))
    (hg : ∀ i, i < l.length → T (fun k => g k (l.getD i d)) (fun r => r = h (l.getD i d))) : T (fun k => f k [] 0) (fun r => r = l.map h) := by
  refine T.loop0 (f := fun k s i => f k s i) l.length (fun s i => s = (l.take i).map h) [] rfl fun s i hi hI ih => ?_
  refine T.eq (he · _ _) (T.ite (fun hlt => ?_) (fun hge => T.pure ?_))
  · have hlt := lt_dec hlt
    simp only [Int.toNat_natCast]
    have hlen : s.length = i := by rw [hI, List.length_map, List.length_take]; omega
    have hm : (s.length + 1) * b ≤ l.length * b := Nat.mul_le_mul_right _ (by omega)
    refine T.yes (inB_nat hlt) (T.bind (hg i hlt) fun r hr => T.yes (room_ok (by simp only [List.length_singleton]; omega)) ?_)
    rw [inc (by omega)]
    refine ih _ hlt ?_
    rw [hI, take_snoc l d hlt, List.map_append, hr]; rfl
  · have e : i = l.length := by have := nlt_dec hge; omega
    subst e
    rw [hI, List.take_length]
theorem map_id' {α : Type} (l : List α) : l.map (fun x => x) = l := by simp
theorem ref01_X (l : List E) (hl : l.length ≤ 1000000) : T (fun k => steeplelaw01_Ref.f k l) (fun r => r = l) :=
  T.eq (steeplelaw01_Ref.f_eq · l) ((map_X (f := fun k s i => steeplelaw01_Ref.l58 k l s i) (g := fun _ x => some x) l z (fun x => x) (b := 16) (by omega) (by omega) (fun k s i => steeplelaw01_Ref.l58_eq k l s i) fun i hi => T.pure rfl).mono fun r hr => by rw [hr, map_id'])
theorem ref16_X (l : List O) (hl : l.length ≤ 1000000) : T (fun k => steeplelaw16_Ref.f k l) (fun r => r = l) := by
  refine T.eq (steeplelaw16_Ref.f_eq · l) (T.loop0 (f := fun k s i => steeplelaw16_Ref.l58 k l s i) l.length (fun s i => s = l.take i) [] rfl fun s i hi hI ih => ?_)
  refine T.eq (steeplelaw16_Ref.l58_eq · l _ _) (T.ite (fun hlt => ?_) (fun hge => T.pure ?_))
  · have hlt := lt_dec hlt
    have hlen : s.length = i := by rw [hI, List.length_take]; omega
    simp only [Int.toNat_natCast]
    refine T.yes (inB_nat hlt) (T.yes (inB_nat hlt) (T.yes (inB_nat hlt) (T.yes (inB_nat hlt) (T.yes (room_ok (by simp only [List.length_singleton]; omega)) ?_))))
    rw [inc (by omega)]
    refine ih _ hlt ?_
    rw [hI, take_snoc l zo hlt]; rfl
  · have e : i = l.length := by have := nlt_dec hge; omega
    subst e
    rw [hI, List.take_length]
theorem refs09_X (t : List (List E)) (ht : t.length ≤ 1000) (h : ∀ i, (t.getD i []).length ≤ 1000000) : T (fun k => steeplelaw09_Refs.f k t) (fun r => r = t) :=
  T.eq (steeplelaw09_Refs.f_eq · t) ((map_X (f := fun k s i => steeplelaw09_Refs.l58 k t s i) (g := fun k x => steeplelaw01_Ref.f k x) t [] (fun x => x) (b := 24) (by omega) (by omega) (fun k s i => steeplelaw09_Refs.l58_eq k t s i) fun i hi => ref01_X _ (h i)).mono fun r hr => by rw [hr, map_id'])
/-! Mix. -/
theorem getD_none {α : Type} {l : List α} {d : α} {i : Nat} (h : l.length ≤ i) : l.getD i d = d := by rw [List.getD_eq_getElem?_getD, List.getElem?_eq_none h]; rfl
theorem getD_map {α β : Type} {l : List α} {f : α → β} {d : α} {e : β} {i : Nat} (h : i < l.length) : (l.map f).getD i e = f (l.getD i d) := by
  simp [List.getD_eq_getElem?_getD, h]
/-! Weights. -/
theorem getD_range {α : Type} {n : Nat} {f : Nat → α} {d : α} {i : Nat} (h : i < n) : ((List.range n).map f).getD i d = f i := by
  simp [List.getD_eq_getElem?_getD, h]
end Go.Proofs.Ytplmejnoepkdgaa.H1
namespace Go.Proofs.Ytplmejnoepkdgaa.H1
open Go Go.Proofs.Ytplmejnoepkdgaa.Rf
/-! Conditions over tables. -/
/-! The zero sum. -/
theorem pow_log {n : Nat} {m : Nat} (h : (m : Int) = logI (n : Int)) : n = 2 ^ m := by
  obtain ⟨q, h1, h2, h3⟩ := logI_nn (n := (n : Int)) (by omega)
  have : m = q := by omega
  subst this
  exact_mod_cast h2
end Go.Proofs.Ytplmejnoepkdgaa.H1
namespace Go.Proofs.Ytplmejnoepkdgaa.H1
open Go Go.Proofs.Ytplmejnoepkdgaa.Rf
abbrev TE : Ty := .pair U (.pair U .unit)
abbrev TO : Ty := .pair I (.pair I (.pair I (.pair TE .unit)))
theorem wf_rng {n : Int} (h : (Lit.int .u64 n).wf = true) : rng n := by
  simp [Lit.wf, IntKind.min, IntKind.max, IntKind.signed, IntKind.bits] at h
  exact ⟨by omega, by omega⟩
theorem okE {x : E} (h : okD TE x) : rngE x := ⟨wf_rng h.1, wf_rng h.2.1⟩
theorem mem_getD {α : Type} {l : List α} {d : α} {i : Nat} (h : i < l.length) : l.getD i d ∈ l := by
  rw [List.getD_eq_getElem?_getD, List.getElem?_eq_getElem h]; exact List.getElem_mem h
theorem okEs {f : Bool} {l : List E} (h : okD (.sl f TE) l) : allR l := fun j => by
  by_cases hj : j < l.length
  · exact okE (h.2 _ (mem_getD hj))
  · rw [getD_none (by omega)]; exact rngE_z
theorem okTs {f g : Bool} {l : List (List E)} (h : okD (.sl f (.sl g TE)) l) : allRR l := fun j => by
  by_cases hj : j < l.length
  · exact okEs (h.2 _ (mem_getD hj))
  · rw [getD_none (by omega)]; exact fun j => rngE_z
theorem okOs {f : Bool} {l : List O} (h : okD (.sl f TO) l) : cR l := fun j => by
  by_cases hj : j < l.length
  · exact okE (h.2 _ (mem_getD hj)).2.2.2.1
  · rw [getD_none (by omega)]; exact rngE_z
theorem z_eq (x : E) : ((x.1 == x.1) && (x.2.1 == x.2.1)) = true := by simp
/-! ZeroMixes. -/
end Go.Proofs.Ytplmejnoepkdgaa.H1
namespace Go.Proofs.Ytplmejnoepkdgaa.Fld
/-- The field of the greatest level. -/
structure F where
  n : Nat
  lt : n < 2 ^ 2 ^ 7
theorem F.ext' {a b : F} (h : a.n = b.n) : a = b := by cases a; cases b; cases h; rfl
instance : DecidableEq F := fun a b => if h : a.n = b.n then .isTrue (F.ext' h) else .isFalse fun e => h (by rw [e])
instance : Add F := ⟨fun a b => ⟨a.n ^^^ b.n, Nat.xor_lt_two_pow a.lt b.lt⟩⟩
instance : Mul F := ⟨fun a b => ⟨Tow.mul 7 a.n b.n, Tow.mul_lt 7 _ _ a.lt b.lt⟩⟩
instance : OfNat F 0 := ⟨⟨0, Nat.two_pow_pos _⟩⟩
instance : OfNat F 1 := ⟨⟨1, Tow.one_lt 7⟩⟩
theorem add_comm (a b : F) : a + b = b + a := F.ext' (Nat.xor_comm _ _)
theorem add_assoc (a b c : F) : a + b + c = a + (b + c) := F.ext' (Nat.xor_assoc _ _ _)
theorem zero_add (a : F) : 0 + a = a := F.ext' (Nat.zero_xor _)
theorem add_zero (a : F) : a + 0 = a := F.ext' (Nat.xor_zero _)
theorem add_self (a : F) : a + a = 0 := F.ext' (Nat.xor_self _)
theorem mul_comm (a b : F) : a * b = b * a := F.ext' (Tow.mul_comm 7 _ _)
theorem mul_assoc (a b c : F) : a * b * c = a * (b * c) := F.ext' (Tow.mul_assoc 7 _ _ _ a.lt b.lt c.lt)
theorem one_mul (a : F) : 1 * a = a := F.ext' (Tow.one_mul a.lt)
theorem mul_one (a : F) : a * 1 = a := F.ext' (Tow.mul_one 7 _ a.lt)
theorem zero_mul (a : F) : 0 * a = 0 := F.ext' (Tow.mul0l 7 a.n)
theorem mul_zero (a : F) : a * 0 = 0 := F.ext' (Tow.mul0r 7 a.n)
theorem mul_add (a b c : F) : a * (b + c) = a * b + a * c := F.ext' (Tow.mul_xorr 7 _ _ _)
theorem add_mul (a b c : F) : (a + b) * c = a * c + b * c := F.ext' (Tow.mul_xorl 7 _ _ _)
instance : Std.Associative (α := F) (· + ·) := ⟨add_assoc⟩
instance : Std.Commutative (α := F) (· + ·) := ⟨add_comm⟩
instance : Std.Associative (α := F) (· * ·) := ⟨mul_assoc⟩
instance : Std.Commutative (α := F) (· * ·) := ⟨mul_comm⟩
theorem add_eq_zero {a b : F} : a + b = 0 ↔ a = b := ⟨fun h => by rw [← add_zero a, ← add_self b, ← add_assoc, h, zero_add], fun h => by rw [h, add_self]⟩
def inv (a : F) : F := ⟨Tow.inv 7 a.n, Tow.inv_lt 7 _ a.lt⟩
theorem ne_n {a : F} (h : a ≠ 0) : a.n ≠ 0 := fun e => h (F.ext' e)
theorem mul_inv {a : F} (h : a ≠ 0) : a * inv a = 1 := F.ext' (Tow.mul_inv 7 _ a.lt (ne_n h))
theorem mul_eq_zero {a b : F} (h : a * b = 0) : a = 0 ∨ b = 0 := by
  rcases Tow.mul_zero_or a.lt b.lt (congrArg F.n h) with k | k
  · exact .inl (F.ext' k)
  · exact .inr (F.ext' k)
theorem mul_ne {a b : F} (ha : a ≠ 0) (hb : b ≠ 0) : a * b ≠ 0 := fun h => (mul_eq_zero h).elim ha hb
theorem one_ne : (1 : F) ≠ 0 := fun h => by have := congrArg F.n h; cases this
theorem inv_of {a b : F} (h : a * b = 1) : b = inv a := F.ext' (Tow.inv_of a.lt b.lt (congrArg F.n h))
/-! Sums. -/
def sm (f : Nat → F) : Nat → F
  | 0 => 0
  | n + 1 => sm f n + f n
theorem sm_congr {f g : Nat → F} : ∀ n, (∀ i, i < n → f i = g i) → sm f n = sm g n
  | 0, _ => rfl
  | n + 1, h => by rw [sm, sm, sm_congr n fun i hi => h i (by omega), h n (by omega)]
theorem sm_zero : ∀ n, sm (fun _ => 0) n = 0
  | 0 => rfl
  | n + 1 => by rw [sm, sm_zero n, add_zero]
theorem sm_one {f : Nat → F} {n k : Nat} (hk : k < n) (h : ∀ i, i < n → i ≠ k → f i = 0) : sm f n = f k := by
  induction n with
  | zero => omega
  | succ n ih =>
    rw [sm]
    by_cases e : k = n
    · subst e
      rw [sm_congr _ (fun i hi => h i (by omega) (by omega)), sm_zero, zero_add]
    · rw [ih (by omega) (fun i hi => h i (by omega)), h n (by omega) (fun e' => e e'.symm), add_zero]
/-! Polynomials. -/
def ev : List F → F → F
  | [], _ => 0
  | a :: c, x => a + x * ev c x
/-- A function that is a polynomial of degree at most d. -/
def PolyD (d : Nat) (f : F → F) : Prop := ∃ c : List F, c.length ≤ d + 1 ∧ ∀ x, f x = ev c x
theorem PolyD.mono {d e : Nat} {f : F → F} (h : PolyD d f) (k : d ≤ e) : PolyD e f := let ⟨c, h1, h2⟩ := h; ⟨c, by omega, h2⟩
theorem PolyD.congr {d : Nat} {f g : F → F} (h : PolyD d f) (k : ∀ x, g x = f x) : PolyD d g := let ⟨c, h1, h2⟩ := h; ⟨c, h1, fun x => (k x).trans (h2 x)⟩
theorem PolyD.const (a : F) : PolyD 0 fun _ => a := ⟨[a], by simp, fun x => by simp only [ev, mul_zero, add_zero]⟩
theorem PolyD.id : PolyD 1 fun x => x := ⟨[0, 1], by simp, fun x => by simp only [ev, mul_zero, add_zero, mul_one, zero_add]⟩
def addL : List F → List F → List F
  | [], d => d
  | c, [] => c
  | a :: c, b :: d => (a + b) :: addL c d
theorem addL_len : ∀ c d, (addL c d).length = max c.length d.length
  | [], d => by simp [addL]
  | a :: c, [] => by simp [addL]
  | a :: c, b :: d => by simp only [addL, List.length_cons, addL_len c d]; omega
theorem addL_ev (x : F) : ∀ c d, ev (addL c d) x = ev c x + ev d x
  | [], d => by rw [addL, ev, zero_add]
  | a :: c, [] => by simp only [addL, ev, add_zero]
  | a :: c, b :: d => by simp only [addL, ev, addL_ev x c d, mul_add]; ac_rfl
theorem PolyD.add {d : Nat} {f g : F → F} (hf : PolyD d f) (hg : PolyD d g) : PolyD d fun x => f x + g x := by
  obtain ⟨c, c1, c2⟩ := hf; obtain ⟨e, e1, e2⟩ := hg
  exact ⟨addL c e, by rw [addL_len]; omega, fun x => by show f x + g x = _; rw [addL_ev, c2, e2]⟩
theorem map_ev (a x : F) : ∀ c : List F, ev (c.map (a * ·)) x = a * ev c x
  | [] => (mul_zero a).symm
  | b :: c => by simp only [List.map_cons, ev, map_ev a x c, mul_add]; ac_rfl
def mulL : List F → List F → List F
  | [], _ => []
  | a :: c, d => addL (d.map (a * ·)) (0 :: mulL c d)
theorem mulL_ev (x : F) (d : List F) : ∀ c, ev (mulL c d) x = ev c x * ev d x
  | [] => (zero_mul _).symm
  | a :: c => by simp only [mulL, addL_ev, map_ev, ev, mulL_ev x d c, zero_add, add_mul]; ac_rfl
theorem mulL_len {m : Nat} {d : List F} (hd : d.length ≤ m + 1) : ∀ c, (mulL c d).length ≤ c.length + m
  | [] => by simp [mulL]
  | [a] => by simp only [mulL, addL_len, List.length_map, List.length_cons, List.length_nil]; omega
  | a :: b :: c => by have := mulL_len hd (b :: c); rw [mulL, addL_len, List.length_map]; simp only [List.length_cons] at this ⊢; omega
theorem PolyD.mul {d e : Nat} {f g : F → F} (hf : PolyD d f) (hg : PolyD e g) : PolyD (d + e) fun x => f x * g x := by
  obtain ⟨c, c1, c2⟩ := hf; obtain ⟨q, e1, e2⟩ := hg
  exact ⟨mulL c q, by have := mulL_len e1 c; omega, fun x => by show f x * g x = _; rw [mulL_ev, c2, e2]⟩
theorem PolyD.smul {d : Nat} {f : F → F} (a : F) (hf : PolyD d f) : PolyD d fun x => a * f x := by
  have := (PolyD.const a).mul hf
  rwa [Nat.zero_add] at this
theorem PolyD.sm {d : Nat} {f : Nat → F → F} : ∀ n, (∀ i, i < n → PolyD d (f i)) → PolyD d fun x => sm (fun i => f i x) n
  | 0, _ => (PolyD.const 0).mono (Nat.zero_le d)
  | n + 1, h => (PolyD.sm n fun i hi => h i (by omega)).add (h n (by omega))
/-- A polynomial, divided by x + x0. -/
def quo (x0 : F) : List F → List F
  | [] => []
  | [_] => []
  | _ :: b :: c => ev (b :: c) x0 :: quo x0 (b :: c)
theorem quo_len (x0 : F) : ∀ c, (quo x0 c).length = c.length - 1
  | [] => rfl
  | [_] => rfl
  | _ :: b :: c => by rw [quo, List.length_cons, quo_len x0 (b :: c)]; simp
theorem quo_ev (x0 x : F) : ∀ c, ev c x = (x + x0) * ev (quo x0 c) x + ev c x0
  | [] => by simp only [quo, ev, mul_zero, add_zero]
  | [a] => by simp only [quo, ev, mul_zero, add_zero, zero_add]
  | a :: b :: c => by
    have ih := quo_ev x0 x (b :: c)
    obtain ⟨r, hr⟩ : ∃ r, r = ev (b :: c) x0 := ⟨_, rfl⟩
    obtain ⟨q, hq⟩ : ∃ q, q = ev (quo x0 (b :: c)) x := ⟨_, rfl⟩
    have e1 : ev (a :: b :: c) x = a + x * ev (b :: c) x := rfl
    have e2 : ev (quo x0 (a :: b :: c)) x = r + x * q := by rw [hr, hq]; rfl
    have e3 : ev (a :: b :: c) x0 = a + x0 * r := by rw [hr]; rfl
    rw [← hr, ← hq] at ih
    rw [e1, e2, e3, ih]
    simp only [mul_add, add_mul]
    rw [show x * r + x0 * r + (x * (x * q) + x0 * (x * q)) + (a + x0 * r) = (x0 * r + x0 * r) + (a + (x * (x * q) + x * (x0 * q) + x * r)) by ac_rfl, add_self, zero_add]
theorem roots_zero : ∀ (xs c : List F), xs.Nodup → c.length ≤ xs.length → (∀ x, x ∈ xs → ev c x = 0) → ∀ x, ev c x = 0
  | [], c, _, hl, _, x => by
    have : c = [] := List.eq_nil_of_length_eq_zero (by simpa using hl)
    rw [this, ev]
  | x0 :: xs, c, hn, hl, h, x => by
    have h0 := h x0 List.mem_cons_self
    have hq : ∀ y, ev c y = (y + x0) * ev (quo x0 c) y := fun y => by rw [quo_ev x0 y c, h0, add_zero]
    rw [List.nodup_cons] at hn
    have := roots_zero xs (quo x0 c) hn.2 (by rw [quo_len]; simp only [List.length_cons] at hl; omega) (fun y hy => by
      have h1 := h y (List.mem_cons_of_mem _ hy)
      rw [hq] at h1
      rcases mul_eq_zero h1 with k | k
      · rw [add_eq_zero] at k; subst k; exact absurd hy hn.1
      · exact k)
    rw [hq, this, mul_zero]
theorem PolyD.zero {d : Nat} {f : F → F} (hf : PolyD d f) {xs : List F} (hn : xs.Nodup) (hl : d < xs.length) (h : ∀ x, x ∈ xs → f x = 0) (x : F) : f x = 0 := by
  obtain ⟨c, c1, c2⟩ := hf
  rw [c2]; exact roots_zero xs c hn (by omega) (fun y hy => by rw [← c2]; exact h y hy) x
theorem PolyD.eq {d : Nat} {f g : F → F} (hf : PolyD d f) (hg : PolyD d g) {xs : List F} (hn : xs.Nodup) (hl : d < xs.length) (h : ∀ x, x ∈ xs → f x = g x) (x : F) : f x = g x :=
  add_eq_zero.1 ((hf.add hg).zero hn hl (fun y hy => add_eq_zero.2 (h y hy)) x)
/-! Places. -/
def pl (i : Nat) : F := ⟨i % 2 ^ 2 ^ 7, Nat.mod_lt _ (Nat.two_pow_pos _)⟩
theorem pl_n {i : Nat} (h : i < 2 ^ 64) : (pl i).n = i := Nat.mod_eq_of_lt (Nat.lt_of_lt_of_le h (Nat.pow_le_pow_right (Nat.le_succ 1) (show 64 ≤ 2 ^ 7 by decide)))
theorem pl_inj {i j : Nat} (hi : i < 2 ^ 64) (hj : j < 2 ^ 64) (h : pl i = pl j) : i = j := by
  have := congrArg F.n h
  rwa [pl_n hi, pl_n hj] at this
theorem places_nodup {n : Nat} (h : n ≤ 2 ^ 64) : ((List.range n).map pl).Nodup := by
  rw [List.nodup_iff_pairwise_ne, List.pairwise_map]
  refine List.Pairwise.imp_of_mem (R := fun a b => a ≠ b) (fun {a b} ha hb hne e => hne ?_) List.nodup_range
  rw [List.mem_range] at ha hb
  exact pl_inj (by omega) (by omega) e
/-- A product over all other places. -/
def prd (g : Nat → F) (i : Nat) : Nat → F
  | 0 => 1
  | n + 1 => if n = i then prd g i n else prd g i n * g n
theorem prd_ne {g : Nat → F} {i : Nat} : ∀ n, (∀ j, j < n → j ≠ i → g j ≠ 0) → prd g i n ≠ 0
  | 0, _ => one_ne
  | n + 1, h => by
    rw [prd]; split
    · exact prd_ne n fun j hj => h j (by omega)
    · rename_i e; exact mul_ne (prd_ne n fun j hj => h j (by omega)) (h n (by omega) e)
theorem prd_zero {g : Nat → F} {i k : Nat} (hk : k ≠ i) (h0 : g k = 0) : ∀ n, k < n → prd g i n = 0
  | 0, h => by omega
  | n + 1, h => by
    rw [prd]; split
    · rename_i e; exact prd_zero hk h0 n (by omega)
    · by_cases e : k = n
      · subst e; rw [h0, mul_zero]
      · rw [prd_zero hk h0 n (by omega), zero_mul]
theorem prd_poly {g : Nat → F → F} (hg : ∀ j, PolyD 1 (g j)) (i : Nat) : ∀ n, PolyD (if i < n then n - 1 else n) fun x => prd (fun j => g j x) i n
  | 0 => PolyD.const 1
  | n + 1 => by
    have ih := prd_poly hg i n
    by_cases e : n = i
    · subst e
      rw [if_pos (by omega)]
      rw [if_neg (by omega)] at ih
      exact (ih.mono (by omega)).congr fun x => by rw [prd, if_pos rfl]
    · have h2 : PolyD (if i < n + 1 then n + 1 - 1 else n + 1) fun x => prd (fun j => g j x) i n * g n x := by
        refine (ih.mul (hg n)).mono ?_
        split <;> split <;> omega
      exact h2.congr fun x => by rw [prd, if_neg e]
/-- What a value at a place is taken by. -/
def lag (n i : Nat) (x : F) : F := prd (fun j => x + pl j) i n * inv (prd (fun j => pl i + pl j) i n)
theorem lag_poly {n i : Nat} (h : i < n) : PolyD (n - 1) (lag n i) := by
  have := prd_poly (g := fun j x => x + pl j) (fun j => PolyD.id.add ((PolyD.const (pl j)).mono (by omega))) i n
  rw [if_pos h] at this
  exact ((this.smul (inv (prd (fun j => pl i + pl j) i n)))).congr fun x => mul_comm _ _
theorem lag_at {n i k : Nat} (hn : n ≤ 2 ^ 64) (hi : i < n) (hk : k < n) : lag n i (pl k) = if k = i then 1 else 0 := by
  unfold lag
  split
  · rename_i e; subst e
    exact mul_inv (prd_ne n fun j hj hne h => hne (pl_inj (by omega) (by omega) (add_eq_zero.1 h)).symm)
  · rename_i e
    rw [prd_zero (k := k) e (add_self _) n hk, zero_mul]
/-- The polynomial that has these values. -/
def itp (n : Nat) (v : Nat → F) (x : F) : F := sm (fun i => v i * lag n i x) n
theorem itp_poly (n : Nat) (v : Nat → F) : PolyD (n - 1) (itp n v) := PolyD.sm n fun i hi => (lag_poly hi).smul (v i)
theorem itp_at {n k : Nat} {v : Nat → F} (hn : n ≤ 2 ^ 64) (hk : k < n) : itp n v (pl k) = v k := by
  unfold itp
  rw [sm_one hk fun i hi hne => by rw [lag_at hn hi hk, if_neg (fun e => hne e.symm), mul_zero], lag_at hn hk hk, if_pos rfl, mul_one]
theorem itp_eq {n : Nat} {f : F → F} {v : Nat → F} (h0 : 0 < n) (hn : n ≤ 2 ^ 64) (hf : PolyD (n - 1) f) (hv : ∀ i, i < n → f (pl i) = v i) (x : F) : f x = itp n v x := by
  refine PolyD.eq hf (itp_poly n v) (places_nodup hn) (by rw [List.length_map, List.length_range]; omega) (fun y hy => ?_) x
  obtain ⟨k, hk, rfl⟩ := List.mem_map.1 hy
  rw [List.mem_range] at hk
  rw [itp_at hn hk, hv k hk]
end Go.Proofs.Ytplmejnoepkdgaa.Fld
