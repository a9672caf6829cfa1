/- A walk by reckoning: what a Go function comes to, reckoned out of its operations, and why that is so. -/
import Derived.Test.YtplmejnoepkdgaaZca
import Derived.IntWalk
set_option linter.unusedVariables false
set_option linter.unusedSimpArgs false
namespace Go.Proofs.Ytplmejnoepkdgaa.H1
open Go Go.Proofs.Ytplmejnoepkdgaa.Rf
/-- What a function comes to, from some fuel on. -/
def Ev {α : Type} (g : Nat → Option α) (r : α) : Prop := ∃ K, ∀ k, K ≤ k → g k = some r
def T {α : Type} (g : Nat → Option α) (p : α → Prop) : Prop := ∃ r, p r ∧ Ev g r
theorem Ev.uniq {α : Type} {g : Nat → Option α} {a b : α} (h : Ev g a) (k : Ev g b) : a = b := by
  obtain ⟨K, hK⟩ := h; obtain ⟨L, hL⟩ := k
  have := (hK (K + L) (Nat.le_add_right _ _)).symm.trans (hL (K + L) (Nat.le_add_left _ _))
  exact Option.some.inj this
theorem T.of {α : Type} {g : Nat → Option α} {p : α → Prop} {a : α} (h : T g p) (k : Ev g a) : p a := by
  obtain ⟨r, h1, h2⟩ := h; rw [k.uniq h2]; exact h1
theorem T.pure {α : Type} {p : α → Prop} {r : α} (h : p r) : T (fun _ => some r) p := ⟨r, h, 0, fun _ _ => rfl⟩
theorem T.mono {α : Type} {g : Nat → Option α} {p q : α → Prop} (h : T g p) (k : ∀ a, p a → q a) : T g q := let ⟨r, h1, h2⟩ := h; ⟨r, k r h1, h2⟩
theorem T.eq {α : Type} {f g : Nat → Option α} {p : α → Prop} (he : ∀ k, f (k + 1) = g k) (h : T g p) : T f p := by
  obtain ⟨r, h1, K, h2⟩ := h
  exact ⟨r, h1, K + 1, fun k hk => by obtain ⟨j, rfl⟩ := Nat.exists_eq_add_of_le hk; rw [show K + 1 + j = (K + j) + 1 by omega, he]; exact h2 _ (Nat.le_add_right _ _)⟩
theorem T.bind {α β : Type} {g : Nat → Option α} {h : Nat → α → Option β} {p : α → Prop} {q : β → Prop} (h1 : T g p) (h2 : ∀ a, p a → T (fun k => h k a) q) : T (fun k => (g k).bind (h k)) q := by
  obtain ⟨a, ha, K, hK⟩ := h1
  obtain ⟨b, hb, L, hL⟩ := h2 a ha
  exact ⟨b, hb, K + L, fun k hk => by show (g k).bind (h k) = _; rw [hK k (by omega)]; exact hL k (by omega)⟩
/-- .. where what is bound is known again. -/
theorem T.bindE {α β : Type} {g : Nat → Option α} {h : Nat → α → Option β} {p : α → Prop} {q : β → Prop} (h1 : T g p) (h2 : ∀ a, p a → Ev g a → T (fun k => h k a) q) : T (fun k => (g k).bind (h k)) q := by
  obtain ⟨a, ha, hE⟩ := h1
  obtain ⟨b, hb, L, hL⟩ := h2 a ha hE
  obtain ⟨K, hK⟩ := hE
  exact ⟨b, hb, K + L, fun k hk => by show (g k).bind (h k) = _; rw [hK k (by omega)]; exact hL k (by omega)⟩
theorem T.ite {α : Type} {g h : Nat → Option α} {b : Bool} {p : α → Prop} (h1 : b = true → T g p) (h2 : b = false → T h p) : T (fun k => bif b then g k else h k) p := by
  cases b
  · exact h2 rfl
  · exact h1 rfl
theorem T.yes {α : Type} {g h : Nat → Option α} {b : Bool} {p : α → Prop} (hb : b = true) (h1 : T g p) : T (fun k => bif b then g k else h k) p := T.ite (fun _ => h1) (fun h => by rw [hb] at h; cases h)
theorem T.no {α : Type} {g h : Nat → Option α} {b : Bool} {p : α → Prop} (hb : b = false) (h1 : T h p) : T (fun k => bif b then g k else h k) p := T.ite (fun h => by rw [hb] at h; cases h) (fun _ => h1)
/-- A count from one number up to another. -/
theorem T.loop {α σ : Type} {f : Nat → σ → Int → Option α} {p : α → Prop} (n : Nat) (I : σ → Nat → Prop) (body : ∀ s i, i ≤ n → I s i → (∀ s', i < n → I s' (i + 1) → T (fun k => f k s' ((i : Int) + 1)) p) → T (fun k => f k s (i : Int)) p) :
    ∀ (m : Nat) (s : σ) (i : Nat), n - i = m → i ≤ n → I s i → T (fun k => f k s (i : Int)) p := by
  intro m
  induction m with
  | zero => intro s i hm hi hI; exact body s i hi hI (fun s' hlt _ => absurd hlt (by omega))
  | succ m ih => intro s i hm hi hI; exact body s i hi hI (fun s' hlt hI' => by have := ih s' (i + 1) (by omega) (by omega) hI'; simpa using this)
theorem T.loop0 {α σ : Type} {f : Nat → σ → Int → Option α} {p : α → Prop} (n : Nat) (I : σ → Nat → Prop) (s : σ) (h0 : I s 0) (body : ∀ s i, i ≤ n → I s i → (∀ s', i < n → I s' (i + 1) → T (fun k => f k s' ((i : Int) + 1)) p) → T (fun k => f k s (i : Int)) p) :
    T (fun k => f k s 0) p := by
  have := T.loop n I body n s 0 (by omega) (by omega) h0
  simpa using this
theorem w64_in {n : Int} (h1 : -9223372036854775808 ≤ n) (h2 : n ≤ 9223372036854775807) : w64 n = n := Go.IntWalk.i64_in n ⟨h1, h2⟩
theorem inB_nat {i n : Nat} (h : i < n) : inB (i : Int) n = true := by simp [inB]; omega
theorem inB_int {i : Int} {n : Nat} (h1 : 0 ≤ i) (h2 : i < n) : inB i n = true := by simp [inB]; omega
theorem room_ok {n b : Nat} (h : n * b ≤ 140737488355328) : room n b = true := Nat.ble_eq_true_of_le h
abbrev E := Int × Int × Unit
abbrev O := Int × Int × Int × E × Unit
def z : E := (0, 0, ())
/-- Whether an element is of a level. -/
def ofB (l : Int) (x : E) : Bool :=
  if l < 0 then false else if l > 7 then false else if l = 7 then true else if l = 6 then x.1 == 0 else if x.1 == 0 then (shrI .u64 x.2.1 (shlI .u64 1 l)) == 0 else false
theorem shl_u64_pos {a b : Int} : ¬ shlI .u64 a b < 0 := by
  unfold shlI
  have : IntKind.u64.wrap (a * 2 ^ min b.toNat IntKind.u64.bits) = (a * 2 ^ min b.toNat IntKind.u64.bits) % 2 ^ 64 := by
    unfold IntKind.wrap; simp [IntKind.signed, IntKind.bits]
  rw [this]
  have := Int.emod_nonneg (a * 2 ^ min b.toNat IntKind.u64.bits) (show (2 ^ 64 : Int) ≠ 0 by decide)
  omega
theorem of_T (l : Int) (x : E) : T (fun k => octet_Of.f k l x) (fun b => b = ofB l x) := by
  refine T.eq (octet_Of.f_eq · l x) ?_
  unfold ofB
  by_cases h1 : l < 0
  · exact T.yes (by simp [h1]) (T.pure (by simp [h1]))
  refine T.no (by simp [h1]) ?_
  by_cases h2 : l > 7
  · exact T.yes (by simp [h2]) (T.pure (by simp [h1, h2]))
  refine T.no (by simp [h2]) ?_
  by_cases h3 : l = 7
  · exact T.yes (by simp [h3]) (T.pure (by simp [h1, h2, h3]))
  refine T.no (by simpa using h3) ?_
  by_cases h4 : l = 6
  · exact T.yes (by simp [h4]) (T.pure (by simp [h4]))
  refine T.no (by simpa using h4) (T.ite (fun h => ?_) (fun h => T.pure (by simp [h1, h2, h3, h4, h])))
  exact T.no (by simp [h1]) (T.no (by simpa using shl_u64_pos) (T.pure (by simp [h1, h2, h3, h4, h])))
theorem wide_T (l : Int) : T (fun k => octet_Wide.f k l) (fun _ => True) := by
  refine T.eq (octet_Wide.f_eq · l) (T.ite (fun _ => T.pure trivial) fun h1 => T.ite (fun _ => T.pure trivial) fun h2 => T.ite (fun _ => T.pure trivial) fun h3 => T.no ?_ (T.pure trivial))
  simp only [decide_eq_false_iff_not] at *
  rw [w64_in (by omega) (by omega)]; omega
theorem add_T (a b : E) : T (fun k => tower_Add.f k a b) (fun r => r = (xorI .u64 a.1 b.1, xorI .u64 a.2.1 b.2.1, ())) := T.eq (tower_Add.f_eq · a b) (T.pure rfl)
theorem xor0 : xorI .u64 0 0 = 0 := by decide
theorem halves_T {l : Nat} (h1 : 1 ≤ l) (h2 : l ≤ 7) (a : Int) : T (fun k => tower_halves.f k l a) (fun r => a = 0 → r = (0, 0)) := by
  have hl : l = 1 ∨ l = 2 ∨ l = 3 ∨ l = 4 ∨ l = 5 ∨ l = 6 ∨ l = 7 := by omega
  rcases hl with rfl | rfl | rfl | rfl | rfl | rfl | rfl <;>
  exact T.eq (tower_halves.f_eq · _ a) (T.no (by decide) (T.no (by decide) (T.no (by decide) (T.pure (by rintro rfl; decide)))))
theorem join_T {l : Nat} (h1 : 1 ≤ l) (h2 : l ≤ 7) (a b : Int) : T (fun k => tower_join.f k l a b) (fun r => a = 0 → b = 0 → r = 0) := by
  have hl : l = 1 ∨ l = 2 ∨ l = 3 ∨ l = 4 ∨ l = 5 ∨ l = 6 ∨ l = 7 := by omega
  rcases hl with rfl | rfl | rfl | rfl | rfl | rfl | rfl <;>
  exact T.eq (tower_join.f_eq · _ a b) (T.no (by decide) (T.no (by decide) (T.pure (by rintro rfl rfl; decide))))
theorem lev {l : Nat} (h : l ≤ 7) : w64 (((l + 1 : Nat) : Int) - 1) = (l : Int) := by rw [w64_in (by omega) (by omega)]; omega
theorem mulX_T : ∀ (l : Nat), l ≤ 6 → ∀ a, T (fun k => tower_mulX.f k l a) (fun r => a = 0 → r = 0)
  | 0, h, a => T.eq (tower_mulX.f_eq · _ a) (T.yes (by simp) (T.pure id))
  | l + 1, h, a => by
    refine T.eq (tower_mulX.f_eq · _ a) (T.no (by simp; omega) (T.bind (halves_T (by omega) (by omega) a) fun r hr => ?_))
    rw [lev (by omega)]
    refine T.bind (mulX_T l (by omega) r.1) fun s hs => T.bind (join_T (by omega) (by omega) _ _) fun t ht => T.pure fun ha => ?_
    have e := hr ha
    have e1 : r.1 = 0 := by rw [e]
    have e2 : r.2 = 0 := by rw [e]
    exact ht (by rw [e2, hs e1]; decide) e1
theorem and0 (a : Int) : andI .u64 (andI .u64 a 0) 1 = 0 := by
  have e : andI .u64 a 0 = 0 := by unfold andI; simp [IntKind.wrap, IntKind.signed]
  rw [e]; decide
theorem mul_T : ∀ (l : Nat), l ≤ 6 → ∀ a b, T (fun k => tower_mul.f k l a b) (fun r => b = 0 → r = 0)
  | 0, h, a, b => T.eq (tower_mul.f_eq · _ a b) (T.yes (by simp) (T.pure (by rintro rfl; exact and0 a)))
  | l + 1, h, a, b => by
    refine T.eq (tower_mul.f_eq · _ a b) (T.no (by simp; omega) (T.ite (fun _ => T.pure (by rintro rfl; exact and0 a)) fun _ => T.ite (fun _ => T.pure (by rintro rfl; exact and0 a)) fun hb => ?_))
    refine T.bind (halves_T (by omega) (by omega) a) fun r _ => T.bind (halves_T (by omega) (by omega) b) fun s _ => ?_
    rw [lev (by omega)]
    refine T.bind (mul_T l (by omega) _ _) fun t1 _ => T.bind (mul_T l (by omega) _ _) fun t2 _ => T.bind (mul_T l (by omega) _ _) fun t3 _ => T.bind (mulX_T l (by omega) _) fun t4 _ => T.bind (join_T (by omega) (by omega) _ _) fun t5 _ => T.pure fun h0 => ?_
    subst h0; simp at hb
theorem Mul_T (l : Int) (a b : E) : T (fun k => tower_Mul.f k l a b) (fun r => b = z → r = z) := by
  refine T.eq (tower_Mul.f_eq · l a b) (T.bind (of_T l a) fun o1 h1 => T.ite (fun _ => T.pure fun _ => rfl) fun g1 => T.bind (of_T l b) fun o2 h2 => T.ite (fun _ => T.pure fun _ => rfl) fun g2 => ?_)
  have h0 : 0 ≤ l ∧ l ≤ 7 := by
    rw [h1] at g1
    unfold ofB at g1
    by_cases k1 : l < 0
    · simp [k1] at g1
    · by_cases k2 : l > 7
      · simp [k1, k2] at g1
      · omega
  refine T.ite (fun g => ?_) (fun g => ?_)
  · obtain ⟨n, rfl⟩ := Int.eq_ofNat_of_zero_le h0.1
    simp only [decide_eq_true_eq] at g
    exact T.bind (mul_T n (by omega) _ _) fun r hr => T.pure fun hb => by rw [hr (by rw [hb]; rfl)]; rfl
  · refine T.bind (mul_T 6 (by omega) _ _) fun r1 q1 => T.bind (mul_T 6 (by omega) _ _) fun r2 q2 => T.bind (mul_T 6 (by omega) _ _) fun r3 q3 => T.bind (mulX_T 6 (by omega) _) fun r4 q4 => T.pure fun hb => ?_
    subst hb
    have e1 := q1 rfl
    have e2 := q2 rfl
    have e3 := q3 (by decide)
    have e4 := q4 e1
    rw [e1, e2, e3, e4]; decide
end Go.Proofs.Ytplmejnoepkdgaa.H1
namespace Go.Proofs.Ytplmejnoepkdgaa.H1
open Go Go.Proofs.Ytplmejnoepkdgaa.Rf
def zo : O := (0, 0, 0, (0, 0, ()), ())
/-- A step that may be. -/
def okS (vars : Int) (j : Nat) (o : O) : Prop :=
  (o.1 = 1 ∨ o.1 = 2 ∨ o.1 = 3 ∨ o.1 = 4) ∧ (o.1 = 2 → 0 ≤ o.2.1 ∧ o.2.1 < vars) ∧ (o.1 = 3 ∨ o.1 = 4 → 0 ≤ o.2.1 ∧ o.2.1 < j ∧ 0 ≤ o.2.2.1 ∧ o.2.2.1 < j)
theorem ahead_T (o : O) (i : Int) : T (fun k => expr_ahead.f k o i) (fun b => b = true → 0 ≤ o.2.1 ∧ o.2.1 < i ∧ 0 ≤ o.2.2.1 ∧ o.2.2.1 < i) := by
  refine T.eq (expr_ahead.f_eq · o i) (T.ite (fun h1 => T.ite (fun h2 => T.ite (fun h3 => T.pure fun h4 => ?_) (fun _ => T.pure (by simp))) (fun _ => T.pure (by simp))) (fun _ => T.pure (by simp)))
  simp only [decide_eq_true_eq] at *
  omega
theorem step_T (lv vars : Int) (o : O) (ds : List Int) : T (fun k => expr_step.f k lv vars o ds) (fun r => r.2 = 0 → okS vars ds.length o) := by
  refine T.eq (expr_step.f_eq · lv vars o ds) ?_
  repeat' (first
    | exact T.pure (fun h => absurd h (by decide))
    | refine T.bind (of_T _ _) fun _ _ => ?_
    | refine T.bind (ahead_T _ _) fun b hb => ?_
    | refine T.ite (fun _ => ?_) (fun _ => ?_))
  all_goals first
    | (refine T.pure fun _ => ?_; simp only [inB, beq_iff_eq, decide_eq_true_eq, decide_eq_false_iff_not, Bool.and_eq_true, beq_eq_false_iff_ne, ne_eq] at *; unfold okS; omega)
    | (exfalso; rename_i b hb h1 h2; obtain ⟨a1, a2, a3, a4⟩ := hb h1; rw [inB_int a1 a2] at h2; cases h2)
    | (exfalso; rename_i b hb h1 h2 h3; obtain ⟨a1, a2, a3, a4⟩ := hb h1; rw [inB_int a3 a4] at h3; cases h3)
theorem getD_app_lt {α : Type} (l : List α) (a d : α) {j : Nat} (h : j < l.length) : (l ++ [a]).getD j d = l.getD j d := by
  simp [List.getD_eq_getElem?_getD, List.getElem?_append_left h]
theorem lt_dec {i n : Nat} : decide ((i : Int) < (n : Int)) = true → i < n := fun h => by simpa using h
theorem nlt_dec {i n : Nat} : decide ((i : Int) < (n : Int)) = false → n ≤ i := fun h => by simpa using h
theorem inc {i : Nat} (h : i ≤ 100000000) : w64 ((i : Int) + 1) = (i : Int) + 1 := w64_in (by omega) (by omega)
/-- Steps that may be. -/
def okL (vars : Int) (l : List O) : Prop := ∀ j, j < l.length → okS vars j (l.getD j zo)
theorem degrees_T (lv vars : Int) (l : List O) : T (fun k => expr_degrees.f k lv vars l) (fun r => r.2 = 0 → r.1.length = l.length ∧ 0 < l.length ∧ l.length ≤ 200 ∧ okL vars l) := by
  refine T.eq (expr_degrees.f_eq · lv vars l) (T.bind (wide_T lv) fun _ _ => T.ite (fun _ => T.pure fun h => absurd h (by decide)) fun _ => T.ite (fun _ => T.pure fun h => absurd h (by decide)) fun _ => T.ite (fun _ => T.pure fun h => absurd h (by decide)) fun h0 => T.ite (fun _ => T.pure fun h => absurd h (by decide)) fun h1 => ?_)
  have hpos : 0 < l.length := by have : ¬ ((l.length : Int) = 0) := by simpa using h0
                                 omega
  have hle : l.length ≤ 200 := by have : ¬ ((l.length : Int) > 200) := by simpa using h1
                                  omega
  refine T.loop0 (f := fun k s i => expr_degrees.l122 k lv vars s l (l.length : Int) i) l.length (fun s i => s.length = i ∧ ∀ j, j < i → okS vars j (l.getD j zo)) [] ⟨rfl, fun j h => absurd h (by omega)⟩ fun s i hi hI ih => ?_
  refine T.eq (expr_degrees.l122_eq · lv vars s l _ _) (T.ite (fun hlt => ?_) (fun hge => ?_))
  · have hlt := lt_dec hlt
    have hroom : ∀ t : Int, room (s.length + ([t] : List Int).length) 8 = true := fun t => room_ok (by have := hI.1; simp only [List.length_singleton]; omega)
    refine T.yes (inB_nat hlt) (T.bind (step_T _ _ _ _) fun r hr => ?_)
    rw [inc (by omega)]
    have go : r.2 = 0 → T (fun k => expr_degrees.l122 k lv vars (s ++ [r.1]) l (l.length : Int) ((i : Int) + 1)) _ := fun h => ih _ hlt ⟨by simp [hI.1], fun j hj => by
      by_cases e : j = i
      · subst e; have := hr h; rw [hI.1] at this; simpa [zo] using this
      · exact hI.2 j (by omega)⟩
    have bad : ∀ {g : List Int} {e : Int}, e ≠ 0 → T (fun _ : Nat => (some (g, e) : Option (List Int × Int))) (fun r => r.2 = 0 → r.1.length = l.length ∧ 0 < l.length ∧ l.length ≤ 200 ∧ okL vars l) := fun he => T.pure fun h => absurd h he
    refine T.ite (fun h2 => T.ite (fun _ => T.yes (by decide) (bad (by decide))) (fun _ => T.ite (fun h => ?_) (fun _ => T.yes (hroom _) (go (by simpa using h2))))) (fun h2 => T.ite (fun h => bad (by simpa using h)) (fun h => T.yes (hroom _) (go (by simpa using h))))
    simp at h h2; exact absurd h2 h
  · have hge := nlt_dec hge
    have e : i = l.length := by omega
    subst e
    exact T.pure fun _ => ⟨hI.1, hpos, hle, hI.2⟩
theorem Check_T (lv vars : Int) (l : List O) : T (fun k => expr_Check.f k lv vars l) (fun e => e = 0 → 0 < l.length ∧ l.length ≤ 200 ∧ okL vars l) :=
  T.eq (expr_Check.f_eq · lv vars l) (T.bind (degrees_T lv vars l) fun r hr => T.pure fun h => (hr h).2)
theorem Degree_T (l : List O) : T (fun k => expr_Degree.f k l) (fun _ => True) := by
  refine T.eq (expr_Degree.f_eq · l) (T.bind (degrees_T _ _ l) fun r hr => T.ite (fun _ => T.pure trivial) (fun h => T.yes ?_ (T.pure trivial)))
  obtain ⟨h1, h2, h3, _⟩ := hr (by simpa using h)
  rw [w64_in (by omega) (by omega)]
  exact inB_int (by omega) (by omega)
theorem sdegree_T (l : List O) : T (fun k => sumcheck_degree.f k l) (fun _ => True) := T.eq (sumcheck_degree.f_eq · l) (T.bind (Degree_T l) fun _ _ => T.pure trivial)
theorem fits_T (a b : Int) : T (fun k => line_Fits.f k a b) (fun _ => True) :=
  T.eq (line_Fits.f_eq · a b) (T.bind (wide_T a) fun _ _ => T.ite (fun _ => T.ite (fun _ => T.ite (fun _ => T.bind (p := fun _ => True) (T.eq (line_place.f_eq · b) (T.pure trivial)) fun x _ => T.bind (of_T a x) fun _ _ => T.pure trivial) (fun _ => T.pure trivial)) (fun _ => T.pure trivial)) (fun _ => T.pure trivial))
theorem log_T (n : Int) : T (fun k => cube_Log.f k n) (fun _ => True) := by
  refine T.eq (cube_Log.f_eq · n) (T.loop0 (σ := Unit) (f := fun k _ i => cube_Log.l26 k n i) 17 (fun _ _ => True) () trivial fun s i hi _ ih => ?_)
  refine T.eq (cube_Log.l26_eq · n _) (T.ite (fun h => T.no (by simp) (T.ite (fun _ => T.pure trivial) fun _ => ?_)) (fun _ => T.pure trivial))
  rw [inc (by omega)]
  exact ih () (by have := of_decide_eq_true h; omega) trivial
theorem of1_T (x : E) (lv : Int) : T (fun k => sumcheck_of_1.f k x lv) (fun _ => True) := T.eq (sumcheck_of_1.f_eq · x lv) (T.bind (of_T lv x) fun _ _ => T.pure trivial)
theorem idx1_T (l : List E) (lv : Int) (hl : l.length ≤ 100000000) : T (fun k => slices_IndexFunc'.f k l lv) (fun _ => True) := by
  refine T.eq (slices_IndexFunc'.f_eq · l lv) (T.loop0 (σ := Unit) (f := fun k _ i => slices_IndexFunc'.l26 k l lv (l.length : Int) i) l.length (fun _ _ => True) () trivial fun s i hi _ ih => ?_)
  refine T.eq (slices_IndexFunc'.l26_eq · l lv _ _) (T.ite (fun h => T.yes (inB_nat (lt_dec h)) (T.bind (of1_T _ _) fun _ _ => T.ite (fun _ => T.pure trivial) fun _ => ?_)) (fun _ => T.pure trivial))
  rw [inc (by omega)]
  exact ih () (lt_dec h) trivial
theorem of_all_T (lv : Int) (l : List E) (hl : l.length ≤ 100000000) : T (fun k => sumcheck_of.f k lv l) (fun _ => True) :=
  T.eq (sumcheck_of.f_eq · lv l) (T.bind (p := fun _ => True) (T.eq (slices_ContainsFunc'.f_eq · l lv) (T.bind (idx1_T l lv hl) fun _ _ => T.pure trivial)) fun _ _ => T.pure trivial)
theorem chk1_T (l : List E) (lv : Int) (hl : l.length ≤ 100000000) : T (fun k => sumcheck_Check_1.f k l lv) (fun _ => True) := T.eq (sumcheck_Check_1.f_eq · l lv) (T.bind (of_all_T lv l hl) fun _ _ => T.pure trivial)
/-- Tables that are not too great. -/
def fewT (t : List (List E)) : Prop := t.length ≤ 1000 ∧ ∀ i, (t.getD i []).length ≤ 100000000
theorem idx_T (t : List (List E)) (lv : Int) (ht : fewT t) : T (fun k => slices_IndexFunc.f k t lv) (fun _ => True) := by
  refine T.eq (slices_IndexFunc.f_eq · t lv) (T.loop0 (σ := Unit) (f := fun k _ i => slices_IndexFunc.l26 k t lv (t.length : Int) i) t.length (fun _ _ => True) () trivial fun s i hi _ ih => ?_)
  refine T.eq (slices_IndexFunc.l26_eq · t lv _ _) (T.ite (fun h => T.yes (inB_nat (lt_dec h)) (T.bind (chk1_T _ _ (ht.2 _)) fun _ _ => T.ite (fun _ => T.pure trivial) fun _ => ?_)) (fun _ => T.pure trivial))
  rw [inc (by have := ht.1; omega)]
  exact ih () (lt_dec h) trivial
/-- What is known of tables that may be. -/
def okT (t : List (List E)) : Prop := 0 < t.length ∧ ∀ i, i < t.length → (t.getD i []).length = (t.getD 0 []).length
theorem sCheck_T (lv : Int) (l : List O) (t : List (List E)) (ht : fewT t) : T (fun k => sumcheck_Check.f k lv l t) (fun e => e = 0 → Ev (fun k => expr_Check.f k lv (t.length : Int) l) 0 ∧ okT t) := by
  refine T.eq (sumcheck_Check.f_eq · lv l t) (T.bindE (Check_T lv _ l) fun e _ hE => T.ite (fun h => T.pure fun h' => by simp [h'] at h) fun he => T.ite (fun _ => T.pure fun h => absurd h (by decide)) fun h0 => T.bind (sdegree_T l) fun d _ => T.bind (fits_T _ _) fun b _ => T.ite (fun _ => T.pure fun h => absurd h (by decide)) fun _ => ?_)
  have hpos : 0 < t.length := by have : ¬ ((t.length : Int) = 0) := by simpa using h0
                                 omega
  have he : e = 0 := by simpa using he
  subst he
  refine T.yes (inB_nat (i := 0) hpos) (T.bind (log_T _) fun n _ => T.ite (fun _ => T.pure fun h => absurd h (by decide)) fun hn => T.ite (fun _ => T.pure fun h => absurd h (by decide)) fun _ => ?_)
  refine T.loop0 (σ := Unit) (f := fun k _ i => sumcheck_Check.l506 k t lv n t (t.length : Int) i) t.length (fun _ i => ∀ j, j < i → ((t.getD j []).length : Int) = shlI .i64 1 n) () (fun j h => absurd h (by omega)) fun s i hi hI ih => ?_
  refine T.eq (sumcheck_Check.l506_eq · t lv n t _ _) (T.ite (fun h => ?_) (fun h => ?_))
  · have hlt := lt_dec h
    refine T.yes (inB_nat hlt) (T.no hn (T.ite (fun _ => T.pure fun h => absurd h (by decide)) fun hl => ?_))
    rw [inc (by have := ht.1; omega)]
    refine ih () hlt fun j hj => ?_
    by_cases e : j = i
    · subst e; simpa using hl
    · exact hI j (by omega)
  · have e : i = t.length := by have := nlt_dec h; omega
    subst e
    refine T.bind (p := fun _ => True) (T.eq (slices_ContainsFunc.f_eq · t lv) (T.bind (idx_T t lv ht) fun _ _ => T.pure trivial)) fun _ _ => T.ite (fun _ => T.pure fun h => absurd h (by decide)) fun _ => T.pure fun _ => ⟨hE, hpos, fun j hj => ?_⟩
    have h1 := hI j hj
    have h2 := hI 0 hpos
    omega
end Go.Proofs.Ytplmejnoepkdgaa.H1
namespace Go.Proofs.Ytplmejnoepkdgaa.H1
open Go Go.Proofs.Ytplmejnoepkdgaa.Rf
noncomputable def Mv (lv : Int) (a b : E) : E := (Mul_T lv a b).choose
theorem Mv_ev (lv : Int) (a b : E) : Ev (fun k => tower_Mul.f k lv a b) (Mv lv a b) := (Mul_T lv a b).choose_spec.2
theorem Mv0 (lv : Int) (a : E) : Mv lv a z = z := (Mul_T lv a z).choose_spec.1 rfl
theorem Mv_T (lv : Int) (a b : E) : T (fun k => tower_Mul.f k lv a b) (fun r => r = Mv lv a b) := ⟨_, rfl, Mv_ev lv a b⟩
def Av (a b : E) : E := (xorI .u64 a.1 b.1, xorI .u64 a.2.1 b.2.1, ())
theorem Av0 : Av z z = z := by decide
/-- A step's value. -/
noncomputable def nxt (lv : Int) (v out : List E) (o : O) : E :=
  if o.1 = 1 then o.2.2.2.1 else if o.1 = 2 then v.getD o.2.1.toNat z else if o.1 = 3 then Av (out.getD o.2.1.toNat z) (out.getD o.2.2.1.toNat z) else if o.1 = 4 then Mv lv (out.getD o.2.1.toNat z) (out.getD o.2.2.1.toNat z) else z
noncomputable def outs (lv : Int) (v : List E) : List E → List O → List E
  | out, [] => out
  | out, o :: l => outs lv v (out ++ [nxt lv v out o]) l
theorem outs_append (lv : Int) (v : List E) : ∀ (l m : List O) (out : List E), outs lv v out (l ++ m) = outs lv v (outs lv v out l) m
  | [], m, out => rfl
  | o :: l, m, out => outs_append lv v l m _
theorem outs_length (lv : Int) (v : List E) : ∀ (l : List O) (out : List E), (outs lv v out l).length = out.length + l.length
  | [], out => by simp [outs]
  | o :: l, out => by rw [outs, outs_length lv v l, List.length_append, List.length_cons]; simp only [List.length_cons, List.length_nil]; omega
theorem take_snoc {α : Type} (l : List α) (d : α) {i : Nat} (h : i < l.length) : l.take (i + 1) = l.take i ++ [l.getD i d] := by
  rw [List.take_add_one, List.getElem?_eq_getElem h, List.getD_eq_getElem?_getD, List.getElem?_eq_getElem h]; rfl
theorem Eval_T (lv : Int) (l : List O) (v : List E) (hv : v.length ≤ 100000) : T (fun k => expr_Eval.f k lv l v) (fun r =>
    (Ev (fun k => expr_Check.f k lv (v.length : Int) l) 0 → (∀ i, i < v.length → ofB lv (v.getD i z) = true) → r.1 = (outs lv v [] l).getD (l.length - 1) z) ∧
    (r.1 = z ∨ (Ev (fun k => expr_Check.f k lv (v.length : Int) l) 0 ∧ ∀ i, i < v.length → ofB lv (v.getD i z) = true))) := by
  refine T.eq (expr_Eval.f_eq · lv l v) (T.bindE (Check_T lv _ l) fun e he hE => T.ite (fun h => T.pure ⟨fun h0 _ => ?_, .inl rfl⟩) fun h => ?_)
  · have := hE.uniq h0; subst this; simp at h
  have h : e = 0 := by simpa using h
  subst h
  obtain ⟨q1, q2, q3⟩ := he rfl
  refine T.loop0 (σ := Unit) (f := fun k _ i => expr_Eval.l58 k lv l v (0, 0, ()) v (v.length : Int) i) v.length (fun _ i => ∀ j, j < i → ofB lv (v.getD j z) = true) () (fun j h => absurd h (by omega)) fun s i hi hI ih => ?_
  refine T.eq (expr_Eval.l58_eq · lv l v _ v _ _) (T.ite (fun h => ?_) (fun h => ?_))
  · have hlt := lt_dec h
    simp only [Int.toNat_natCast]
    refine T.yes (inB_nat hlt) (T.bind (of_T _ _) fun b hb => T.ite (fun hn => T.pure ⟨fun _ ho => ?_, .inl rfl⟩) fun hy => ?_)
    · have := ho i hlt
      rw [show ofB lv (v.getD i z) = b from hb.symm] at this
      subst this; simp at hn
    · rw [inc (by omega)]
      refine ih () hlt fun j hj => ?_
      by_cases e : j = i
      · subst e
        rw [show ofB lv (v.getD j z) = b from hb.symm]; simpa using hy
      · exact hI j (by omega)
  · have e : i = v.length := by have := nlt_dec h; omega
    subst e
    refine T.loop0 (f := fun k s i => expr_Eval.l250 k lv v (0, 0, ()) s l (l.length : Int) i) l.length (fun s i => s = outs lv v [] (l.take i) ∧ s.length = i) [] ⟨rfl, rfl⟩ fun s i hi hI' ih => ?_
    refine T.eq (expr_Eval.l250_eq · lv v _ s l _ _) (T.ite (fun h => ?_) (fun h => ?_))
    · have hlt := lt_dec h
      simp only [Int.toNat_natCast]
      have hok := q3 i hlt
      obtain ⟨o, ho⟩ : ∃ o, o = l.getD i zo := ⟨_, rfl⟩
      have ho' : l.getD i (0, 0, 0, (0, 0, ()), ()) = o := ho.symm
      rw [← ho] at hok
      have hroom : ∀ t : E, room (s.length + ([t] : List E).length) 16 = true := fun t => room_ok (by have := hI'.2; simp only [List.length_singleton]; omega)
      have go : ∀ t, t = nxt lv v s o → T (fun k => expr_Eval.l250 k lv v (0, 0, ()) (s ++ [t]) l (l.length : Int) (w64 ((i : Int) + 1))) _ := fun t ht => by
        rw [inc (by omega)]
        refine ih _ hlt ⟨?_, by simp [hI'.2]⟩
        rw [take_snoc l zo hlt, outs_append, ← hI'.1, ht, ho]; rfl
      simp only [ho']
      obtain ⟨u1, u2, u3⟩ := hok
      rw [← hI'.2] at u3
      refine T.yes (inB_nat hlt) (T.ite (fun k1 => T.yes (hroom _) (go _ ?_)) fun k1 => T.ite (fun k2 => T.yes ?_ (T.yes (hroom _) (go _ ?_))) fun k2 => T.ite (fun k3 => T.yes ?_ (T.yes ?_ (T.bind (add_T _ _) fun t ht => T.yes (hroom _) (go _ ?_)))) fun k3 => T.ite (fun k4 => T.yes ?_ (T.yes ?_ (T.bind (Mv_T _ _ _) fun t ht => T.yes (hroom _) (go _ ?_)))) fun k4 => T.yes (hroom _) (go _ ?_))
      all_goals simp only [beq_iff_eq, beq_eq_false_iff_ne, ne_eq] at *
      · rw [nxt, if_pos k1]
      · exact inB_int (u2 k2).1 (u2 k2).2
      · rw [nxt, if_neg k1, if_pos k2]; rfl
      · exact inB_int (u3 (.inl k3)).1 (u3 (.inl k3)).2.1
      · exact inB_int (u3 (.inl k3)).2.2.1 (u3 (.inl k3)).2.2.2
      · rw [nxt, if_neg k1, if_neg k2, if_pos k3, ht]; rfl
      · exact inB_int (u3 (.inr k4)).1 (u3 (.inr k4)).2.1
      · exact inB_int (u3 (.inr k4)).2.2.1 (u3 (.inr k4)).2.2.2
      · rw [nxt, if_neg k1, if_neg k2, if_neg k3, if_pos k4, ht]; rfl
      · rw [nxt, if_neg k1, if_neg k2, if_neg k3, if_neg k4]; rfl
    · have e : i = l.length := by have := nlt_dec h; omega
      subst e
      rw [List.take_length] at hI'
      have hw : w64 ((s.length : Int) - 1) = ((l.length - 1 : Nat) : Int) := by rw [w64_in (by omega) (by omega)]; omega
      rw [hw]
      refine T.yes (inB_nat (by omega)) (T.pure ⟨fun _ _ => ?_, .inr ⟨hE, hI⟩⟩)
      rw [Int.toNat_natCast, hI'.1]; rfl
end Go.Proofs.Ytplmejnoepkdgaa.H1
namespace Go.Proofs.Ytplmejnoepkdgaa.H1
open Go Go.Proofs.Ytplmejnoepkdgaa.Rf
/-- One corner's values. -/
def col (t : List (List E)) (i : Nat) : List E := t.map fun x => x.getD i z
theorem col_len (t : List (List E)) (i : Nat) : (col t i).length = t.length := by simp [col]
theorem col_at (t : List (List E)) (i j : Nat) (h : j < t.length) : (col t i).getD j z = (t.getD j []).getD i z := by
  simp [col, List.getD_eq_getElem?_getD, h]
theorem many_T (c : List (List O)) : T (fun k => zero_many.f k c) (fun e => e = 0 → 0 < c.length ∧ c.length ≤ 40) := by
  refine T.eq (zero_many.f_eq · c) (T.ite (fun _ => T.pure fun h => absurd h (by decide)) fun h0 => T.ite (fun _ => T.pure fun h => absurd h (by decide)) fun h1 => T.pure fun _ => ?_)
  simp only [beq_eq_false_iff_ne, ne_eq, decide_eq_false_iff_not] at h0 h1
  omega
theorem ask_T (lv : Int) (c : List (List O)) (t : List (List E)) (ht : fewT t) : T (fun k => zero_ask.f k lv c t) (fun e => e = 0 → okT t ∧ 0 < c.length ∧ c.length ≤ 40 ∧ ∀ j, j < c.length → Ev (fun k => expr_Check.f k lv (t.length : Int) (c.getD j [])) 0) := by
  refine T.eq (zero_ask.f_eq · lv c t) (T.bind (many_T c) fun e he => T.ite (fun h => T.pure fun h' => by simp [h'] at h) fun h => ?_)
  obtain ⟨h1, h2⟩ := he (by simpa using h)
  refine T.loop0 (σ := Unit) (f := fun k _ i => zero_ask.l58 k lv t c (c.length : Int) i) c.length (fun _ i => (0 < i → okT t) ∧ ∀ j, j < i → Ev (fun k => expr_Check.f k lv (t.length : Int) (c.getD j [])) 0) () ⟨fun h => absurd h (by omega), fun j h => absurd h (by omega)⟩ fun s i hi hI ih => ?_
  refine T.eq (zero_ask.l58_eq · lv t c _ _) (T.ite (fun h => ?_) (fun h => ?_))
  · have hlt := lt_dec h
    simp only [Int.toNat_natCast]
    refine T.yes (inB_nat hlt) (T.bind (sCheck_T lv _ t ht) fun e he => T.ite (fun h => T.pure fun h' => by simp [h'] at h) fun h => ?_)
    obtain ⟨k1, k2⟩ := he (by simpa using h)
    rw [inc (by omega)]
    refine ih () hlt ⟨fun _ => k2, fun j hj => ?_⟩
    by_cases e : j = i
    · subst e; exact k1
    · exact hI.2 j (by omega)
  · have e : i = c.length := by have := nlt_dec h; omega
    subst e
    exact T.pure fun _ => ⟨hI.1 h1, h1, h2, hI.2⟩
/-- A condition is zero at a corner. -/
def Zero (lv : Int) (c : List (List O)) (t : List (List E)) (i j : Nat) : Prop := ∀ r, Ev (fun k => expr_Eval.f k lv (c.getD j []) (col t i)) r → r.1 = z
theorem set_get {α : Type} (l : List α) (i j : Nat) (a d : α) (hi : i < l.length) : (l.set i a).getD j d = if j = i then a else l.getD j d := by
  by_cases h : j = i
  · subst h; simp [List.getD_eq_getElem?_getD, hi]
  · simp [List.getD_eq_getElem?_getD, h, List.getElem?_set_ne (Ne.symm h)]
theorem list_eq {α : Type} {l m : List α} (d : α) (hl : l.length = m.length) (h : ∀ j, j < m.length → l.getD j d = m.getD j d) : l = m := by
  apply List.ext_getElem hl
  intro j h1 h2
  have := h j h2
  simpa [List.getD_eq_getElem?_getD, h1, h2] using this
theorem Holds_T (lv : Int) (c : List (List O)) (t : List (List E)) (ht : fewT t) : T (fun k => zero_Holds.f k lv c t) (fun r => r.1 = true → r.2 = 0 →
    okT t ∧ (∀ j, j < c.length → Ev (fun k => expr_Check.f k lv (t.length : Int) (c.getD j [])) 0) ∧ ∀ i, i < (t.getD 0 []).length → ∀ j, j < c.length → Zero lv c t i j) := by
  refine T.eq (zero_Holds.f_eq · lv c t) (T.bind (ask_T lv c t ht) fun e he => T.ite (fun _ => T.pure fun h => by cases h) fun h => ?_)
  obtain ⟨h1, h2, h3, h4⟩ := he (by simpa using h)
  have hlen := ht.2 0
  refine T.yes (inB_nat (i := 0) h1.1) (T.loop0 (σ := Unit) (f := fun k _ i => zero_Holds.l58 k lv c t ((t.getD 0 []).length : Int) i) (t.getD 0 []).length (fun _ i => ∀ i', i' < i → ∀ j, j < c.length → Zero lv c t i' j) () (fun i' h => absurd h (by omega)) fun s i hi hI ih => ?_)
  refine T.eq (zero_Holds.l58_eq · lv c t _ _) (T.ite (fun h => ?_) (fun h => ?_))
  · have hlt := lt_dec h
    have h1000 := ht.1
    refine T.yes ?_ ?_
    · simp only [makeB, Bool.and_eq_true, decide_eq_true_eq]
      exact ⟨⟨by omega, by omega⟩, room_ok (by simp only [Int.toNat_natCast]; omega)⟩
    refine T.loop0 (f := fun k s n => zero_Holds.l59802 k lv c t (i : Int) s ((t.getD 0 []).length : Int) (i : Int) t (t.length : Int) n) t.length (fun s n => s.length = t.length ∧ ∀ j, j < n → s.getD j z = (t.getD j []).getD i z) _ ⟨by simp, fun j h => absurd h (by omega)⟩ fun s n hn hI2 ih2 => ?_
    refine T.eq (zero_Holds.l59802_eq · lv c t _ s _ _ t _ _) (T.ite (fun h => ?_) (fun h => ?_))
    · have hlt2 := lt_dec h
      simp only [Int.toNat_natCast]
      refine T.yes (inB_nat hlt2) (T.yes (inB_nat (by have := h1.2 n hlt2; omega)) (T.yes (inB_nat (by omega)) ?_))
      rw [inc (by omega)]
      refine ih2 _ hlt2 ⟨by simp [hI2.1], fun j hj => ?_⟩
      rw [set_get _ _ _ _ _ (by omega)]
      split
      · rename_i e; subst e; rfl
      · exact hI2.2 j (by omega)
    · have e : n = t.length := by have := nlt_dec h; omega
      subst e
      have hs : s = col t i := list_eq z (by rw [col_len]; exact hI2.1) fun j hj => by rw [col_len] at hj; rw [hI2.2 j hj, col_at t i j hj]
      subst hs
      refine T.loop0 (σ := Unit) (f := fun k _ n => zero_Holds.l59806 k lv c t (col t i) ((t.getD 0 []).length : Int) (i : Int) c (c.length : Int) n) c.length (fun _ n => ∀ j, j < n → Zero lv c t i j) () (fun j h => absurd h (by omega)) fun s m hm hI3 ih3 => ?_
      refine T.eq (zero_Holds.l59806_eq · lv c t _ _ _ c _ _) (T.ite (fun h => ?_) (fun h => ?_))
      · have hlt3 := lt_dec h
        simp only [Int.toNat_natCast]
        refine T.yes (inB_nat hlt3) (T.bindE (Eval_T lv _ _ (by rw [col_len]; omega)) fun r _ hE => T.ite (fun _ => T.pure fun h => by cases h) fun hz => ?_)
        rw [inc (by omega)]
        refine ih3 () hlt3 fun j hj => ?_
        by_cases e : j = m
        · subst e
          intro r' hr'
          rw [hr'.uniq hE]
          simp only [Bool.not_eq_false', Bool.and_eq_true, beq_iff_eq] at hz
          exact Prod.ext hz.1 (Prod.ext hz.2 rfl)
        · exact hI3 j (by omega)
      · have e : m = c.length := by have := nlt_dec h; omega
        subst e
        rw [inc (by omega)]
        refine ih () hlt fun i' hi' j hj => ?_
        by_cases e : i' = i
        · subst e; exact hI3 j hj
        · exact hI i' (by omega) j hj
  · have e : i = (t.getD 0 []).length := by have := nlt_dec h; omega
    subst e
    exact T.pure fun _ _ => ⟨h1, h4, hI⟩
theorem sum_T (lv : Int) (l : List O) (t : List (List E)) (ht : fewT t) (h1 : okT t) : T (fun k => sumcheck_sum.f k lv l t) (fun r => (∀ i, i < (t.getD 0 []).length → ∀ r', Ev (fun k => expr_Eval.f k lv l (col t i)) r' → r'.1 = z) → r = z) := by
  have hlen := ht.2 0
  have h1000 := ht.1
  refine T.eq (sumcheck_sum.f_eq · lv l t) (T.yes (inB_nat (i := 0) h1.1) (T.loop0 (f := fun k s i => sumcheck_sum.l58 k lv l t (0, 0, ()) s ((t.getD 0 []).length : Int) i) (t.getD 0 []).length (fun s _ => (∀ i, i < (t.getD 0 []).length → ∀ r', Ev (fun k => expr_Eval.f k lv l (col t i)) r' → r'.1 = z) → s = z) _ (fun _ => rfl) fun acc i hi hI ih => ?_))
  refine T.eq (sumcheck_sum.l58_eq · lv l t _ acc _ _) (T.ite (fun h => ?_) (fun h => T.pure hI))
  have hlt := lt_dec h
  refine T.yes ?_ ?_
  · simp only [makeB, Bool.and_eq_true, decide_eq_true_eq]
    exact ⟨⟨by omega, by omega⟩, room_ok (by simp only [Int.toNat_natCast]; omega)⟩
  refine T.loop0 (f := fun k s n => sumcheck_sum.l59802 k lv l t (0, 0, ()) acc (i : Int) s ((t.getD 0 []).length : Int) (i : Int) t (t.length : Int) n) t.length (fun s n => s.length = t.length ∧ ∀ j, j < n → s.getD j z = (t.getD j []).getD i z) _ ⟨by simp, fun j h => absurd h (by omega)⟩ fun s n hn hI2 ih2 => ?_
  refine T.eq (sumcheck_sum.l59802_eq · lv l t _ acc _ s _ _ t _ _) (T.ite (fun h => ?_) (fun h => ?_))
  · have hlt2 := lt_dec h
    simp only [Int.toNat_natCast]
    refine T.yes (inB_nat hlt2) (T.yes (inB_nat (by have := h1.2 n hlt2; omega)) (T.yes (inB_nat (by omega)) ?_))
    rw [inc (by omega)]
    refine ih2 _ hlt2 ⟨by simp [hI2.1], fun j hj => ?_⟩
    rw [set_get _ _ _ _ _ (by omega)]
    split
    · rename_i e; subst e; rfl
    · exact hI2.2 j (by omega)
  · have e : n = t.length := by have := nlt_dec h; omega
    subst e
    have hs : s = col t i := list_eq z (by rw [col_len]; exact hI2.1) fun j hj => by rw [col_len] at hj; rw [hI2.2 j hj, col_at t i j hj]
    subst hs
    refine T.bindE (Eval_T lv l _ (by rw [col_len]; omega)) fun r _ hE => T.bind (add_T _ _) fun a ha => ?_
    rw [inc (by omega)]
    refine ih a hlt fun H => ?_
    rw [ha, hI H, H i hlt r hE]; exact Av0
end Go.Proofs.Ytplmejnoepkdgaa.H1
namespace Go.Proofs.Ytplmejnoepkdgaa.H1
open Go Go.Proofs.Ytplmejnoepkdgaa.Rf
/-- A step behind so many others. -/
def shiftO (n : Int) (o : O) : O := if o.1 = 3 ∨ o.1 = 4 then (o.1, w64 (o.2.1 + n), w64 (o.2.2.1 + n), o.2.2.2) else o
theorem nilB_same {α β : Type} (l : List α) (a b : Option β) (h : l.isEmpty = true → b = a) : nilB l a b = b := by
  unfold nilB
  cases hl : l.isEmpty with
  | false => rfl
  | true => rw [h hl]; simp [both]
theorem clone_T (l : List O) (hl : l.length ≤ 1000) : T (fun k => slices_Clone.f k l) (fun r => r = l) := by
  refine T.eq (slices_Clone.f_eq · l) ?_
  have hr : room l.length 40 = true := room_ok (by omega)
  have : nilB l (some []) (bif room l.length 40 then some l else none) = some l := by
    rw [hr]
    exact nilB_same l _ _ fun h => by rw [List.isEmpty_iff.1 h]; rfl
  rw [this]
  exact T.pure rfl
theorem behind_T (n : Int) (l : List O) (hl : l.length ≤ 1000) : T (fun k => zero_behind.f k n l) (fun r => r = l.map (shiftO n)) := by
  refine T.eq (zero_behind.f_eq · n l) (T.bind (clone_T l hl) fun r hr => ?_)
  subst hr
  refine T.loop0 (f := fun k s i => zero_behind.l58 k n s (r.length : Int) i) r.length (fun s i => s.length = r.length ∧ ∀ j, s.getD j zo = if j < i then shiftO n (r.getD j zo) else r.getD j zo) r ⟨rfl, fun j => by simp⟩ fun s i hi hI ih => ?_
  refine T.eq (zero_behind.l58_eq · n s _ _) (T.ite (fun h => ?_) (fun h => ?_))
  · have hlt := lt_dec h
    simp only [Int.toNat_natCast, List.length_set]
    have hb : inB (i : Int) s.length = true := inB_nat (by omega)
    have hget : s.getD i (0, 0, 0, (0, 0, ()), ()) = r.getD i zo := by have := hI.2 i; rw [if_neg (Nat.lt_irrefl i)] at this; exact this
    obtain ⟨o, ho⟩ : ∃ o, o = r.getD i zo := ⟨_, rfl⟩
    rw [← ho] at hget
    simp only [hget]
    have hset : ∀ a, (s.set i a).getD i (0, 0, 0, (0, 0, ()), ()) = a := fun a => by rw [set_get _ _ _ _ _ (by omega), if_pos rfl]
    simp only [hset, List.set_set]
    rw [inc (by omega)]
    have go : ∀ s', s'.length = r.length → s'.getD i zo = shiftO n o → (∀ j, j ≠ i → s'.getD j zo = s.getD j zo) → T (fun k => zero_behind.l58 k n s' (r.length : Int) ((i : Int) + 1)) _ := fun s' h1 h2 h3 => ih s' hlt ⟨h1, fun j => by
      by_cases e : j = i
      · subst e; rw [h2, if_pos (Nat.lt_succ_self j), ho]
      · rw [h3 j e, hI.2 j]
        by_cases h' : j < i
        · rw [if_pos h', if_pos (by omega)]
        · rw [if_neg h', if_neg (by omega)]⟩
    have upd : ∀ a : O, a = shiftO n o → T (fun k => zero_behind.l58 k n (s.set i a) (r.length : Int) ((i : Int) + 1)) _ := fun a ha => go _ (by simp [hI.1]) (by rw [set_get _ _ _ _ _ (by omega), if_pos rfl, ha]) (fun j hj => by rw [set_get _ _ _ _ _ (by omega), if_neg hj])
    refine T.yes hb (T.ite (fun k3 => T.yes hb (T.yes hb (T.yes hb (T.yes hb (upd _ ?_))))) fun k3 => T.yes hb (T.ite (fun k4 => T.yes hb (T.yes hb (T.yes hb (T.yes hb (upd _ ?_))))) fun k4 => go s hI.1 ?_ (fun j _ => rfl)))
    · rw [shiftO, if_pos (.inl (by simpa using k3))]
    · rw [shiftO, if_pos (.inr (by simpa using k4))]
    · have : s.getD i zo = o := hget
      rw [this, shiftO, if_neg]
      simp only [beq_eq_false_iff_ne, ne_eq] at k3 k4
      omega
  · have e : i = r.length := by have := nlt_dec h; omega
    subst e
    refine T.pure (list_eq zo (by simp [hI.1]) fun j hj => ?_)
    rw [List.length_map] at hj
    rw [hI.2 j, if_pos hj]
    simp [List.getD_eq_getElem?_getD, hj]
theorem getD_app_l {α : Type} (l m : List α) (d : α) {j : Nat} (h : j < l.length) : (l ++ m).getD j d = l.getD j d := by simp [List.getD_eq_getElem?_getD, List.getElem?_append_left h]
theorem getD_app_r {α : Type} (l m : List α) (d : α) (j : Nat) : (l ++ m).getD (l.length + j) d = m.getD j d := by simp [List.getD_eq_getElem?_getD, List.getElem?_append_right]
/-- A condition's steps come to the same behind others. -/
theorem outs_shift (lv : Int) (v : List E) (w : E) (out : List E) (ho : out.length ≤ 10000) : ∀ (c : List O) (pre : List E), pre.length + c.length ≤ 1000 → (∀ j, j < c.length → okS v.length (pre.length + j) (c.getD j zo)) →
    outs lv (v ++ [w]) (out ++ pre) (c.map (shiftO out.length)) = out ++ outs lv v pre c
  | [], pre, hl, hc => rfl
  | o :: c, pre, hl, hc => by
    have h0 : okS v.length pre.length o := by have := hc 0 (by simp); simpa using this
    obtain ⟨u1, u2, u3⟩ := h0
    simp only [List.length_cons] at hl
    have hn : nxt lv (v ++ [w]) (out ++ pre) (shiftO out.length o) = nxt lv v pre o := by
      by_cases k : o.1 = 3 ∨ o.1 = 4
      · obtain ⟨a1, a2, a3, a4⟩ := u3 k
        have e1 : w64 (o.2.1 + (out.length : Int)) = ((out.length + o.2.1.toNat : Nat) : Int) := by rw [w64_in (by omega) (by omega)]; omega
        have e2 : w64 (o.2.2.1 + (out.length : Int)) = ((out.length + o.2.2.1.toNat : Nat) : Int) := by rw [w64_in (by omega) (by omega)]; omega
        rw [shiftO, if_pos k, e1, e2]
        have n1 : ¬ o.1 = 1 := by omega
        have n2 : ¬ o.1 = 2 := by omega
        simp only [nxt, if_neg n1, if_neg n2, Int.toNat_natCast, getD_app_r]
      · rw [shiftO, if_neg k]
        have k' : ¬ o.1 = 3 ∧ ¬ o.1 = 4 := by omega
        rcases (show o.1 = 1 ∨ o.1 = 2 by omega) with k1 | k2
        · simp only [nxt, if_pos k1]
        · have n1 : ¬ o.1 = 1 := by omega
          simp only [nxt, if_neg n1, if_pos k2]
          exact getD_app_l _ _ _ (by have := u2 k2; omega)
    simp only [List.map_cons, outs]
    rw [hn, List.append_assoc]
    exact outs_shift lv v w out ho c (pre ++ [nxt lv v pre o]) (by simp only [List.length_append, List.length_cons, List.length_nil]; omega) (fun j hj => by
      have := hc (j + 1) (by simpa using hj)
      have e : (pre ++ [nxt lv v pre o]).length + j = pre.length + (j + 1) := by simp only [List.length_append, List.length_cons, List.length_nil]; omega
      rw [e]; simpa using this)
/-- All conditions are zero at a point. -/
def Zer (lv : Int) (c : List (List O)) (v : List E) : Prop := ∀ j, j < c.length → 0 < (c.getD j []).length ∧ okL v.length (c.getD j []) ∧ (outs lv v [] (c.getD j [])).getD ((c.getD j []).length - 1) z = z
def fewC (c : List (List O)) : Prop := c.length ≤ 50 ∧ ∀ j, (c.getD j []).length ≤ 12
def Good (lv : Int) (vars : Nat) (c : List (List O)) (out : List O) : Prop := ∀ v w, v.length = vars → Zer lv c v → (outs lv (v ++ [w]) [] out).getD (out.length - 1) z = z
theorem mix_T (lv : Int) (vars : Nat) (c : List (List O)) (a : E) (hc : fewC c) (h0 : 0 < c.length) (hv : vars ≤ 1000) (hne : ∀ j, j < c.length → 0 < (c.getD j []).length) : T (fun k => zero_mix.f k lv vars c a) (fun out => Good lv vars c out) := by
  refine T.eq (zero_mix.f_eq · lv vars c a) (T.bind (p := fun _ => True) (T.eq tower_One.f_eq (T.pure trivial)) fun one _ => ?_)
  refine T.loop0 (σ := List O × Int × E) (f := fun k s i => zero_mix.l442 k lv vars a s.1 s.2.1 s.2.2 c (c.length : Int) i) c.length
    (fun s i => s.1.length ≤ 15 * i ∧ (0 < i → 0 ≤ s.2.1 ∧ s.2.1 < s.1.length) ∧ ∀ v w, v.length = vars → Zer lv c v → 0 < i → (outs lv (v ++ [w]) [] s.1).getD s.2.1.toNat z = z) ([], 0, one) ⟨by simp, fun h => absurd h (by omega), fun v w _ _ h => absurd h (by omega)⟩ fun s i hi hI ih => ?_
  obtain ⟨out, sum, by_⟩ := s
  obtain ⟨hlen, hsum, hzer⟩ := hI
  dsimp only at hlen hsum hzer ⊢
  have hc50 := hc.1
  refine T.eq (zero_mix.l442_eq · lv vars a out sum by_ c _ _) (T.ite (fun h => ?_) (fun h => ?_))
  · have hlt := lt_dec h
    have hci := hc.2 i
    simp only [Int.toNat_natCast]
    refine T.yes (inB_nat hlt) (T.bind (behind_T (out.length : Int) _ (by omega)) fun t ht => ?_)
    change t = (c.getD i []).map (shiftO (out.length : Int)) at ht
    have htl : t.length = (c.getD i []).length := by rw [ht, List.length_map]
    have happ : (out ++ t).length = out.length + t.length := List.length_append
    refine T.yes (room_ok (by omega)) ?_
    have hw : 0 < t.length → w64 (((out ++ t).length : Int) - 1) = ((out.length + (t.length - 1) : Nat) : Int) := fun hp => by rw [w64_in (by omega) (by omega)]; omega
    have val : ∀ v w, v.length = vars → Zer lv c v → 0 < t.length ∧ outs lv (v ++ [w]) [] (out ++ t) = outs lv (v ++ [w]) [] out ++ outs lv v [] (c.getD i []) := fun v w hv hz => by
      obtain ⟨z1, z2, z3⟩ := hz i hlt
      refine ⟨by omega, ?_⟩
      rw [outs_append, ht]
      have ol := outs_length lv (v ++ [w]) out []
      rw [List.length_nil, Nat.zero_add] at ol
      have := outs_shift lv v w (outs lv (v ++ [w]) [] out) (by omega) (c.getD i []) [] (by simp only [List.length_nil]; omega) (fun j hj => by simpa using z2 j hj)
      rw [List.append_nil, ol] at this
      exact this
    rw [inc (by omega)]
    have hp : 0 < t.length := by have := hne i hlt; omega
    · refine T.ite (fun hz0 => ?_) (fun hz0 => ?_)
      · have hi0 : i = 0 := by simpa using hz0
        subst hi0
        have ho0 : out.length = 0 := by omega
        rw [hw hp]
        refine ih (out ++ t, _, by_) hlt ⟨by dsimp only; omega, fun _ => ⟨Int.natCast_nonneg _, Int.ofNat_lt.2 (by dsimp only; omega)⟩, fun v w hv' hz _ => ?_⟩
        dsimp only
        obtain ⟨_, e1⟩ := val v w hv' hz
        obtain ⟨z1, z2, z3⟩ := hz 0 hlt
        have ol := outs_length lv (v ++ [w]) out []
        rw [List.length_nil, Nat.zero_add] at ol
        rw [Int.toNat_natCast, e1, ← ol, getD_app_r, htl]
        exact z3
      · have hi0 : i ≠ 0 := by simpa using hz0
        refine T.bind (Mv_T lv by_ a) fun m hm => ?_
        have e1 : w64 (((out.length + (t.length - 1) : Nat) : Int) + 1) = ((out.length + t.length : Nat) : Int) := by rw [w64_in (by omega) (by omega)]; omega
        have e2 : w64 (((out.length + (t.length - 1) : Nat) : Int) + 2) = ((out.length + t.length + 1 : Nat) : Int) := by rw [w64_in (by omega) (by omega)]; omega
        have e3 : w64 (((out.length + (t.length - 1) : Nat) : Int) + 3) = ((out.length + t.length + 2 : Nat) : Int) := by rw [w64_in (by omega) (by omega)]; omega
        rw [hw hp, e1, e2, e3]
        refine T.yes (room_ok (by simp only [List.length_cons, List.length_nil]; omega)) ?_
        obtain ⟨s1, s2⟩ := hsum (by omega)
        refine ih (_, _, m) hlt ⟨by dsimp only; rw [List.length_append]; simp only [List.length_cons, List.length_nil]; omega, fun _ => ⟨Int.natCast_nonneg _, Int.ofNat_lt.2 (by dsimp only; rw [List.length_append]; simp only [List.length_cons, List.length_nil]; omega)⟩, fun v w hv' hz _ => ?_⟩
        dsimp only
        obtain ⟨_, g1⟩ := val v w hv' hz
        obtain ⟨z1, z2, z3⟩ := hz i hlt
        have ol := outs_length lv (v ++ [w]) (out ++ t) []
        rw [List.length_nil, Nat.zero_add, happ] at ol
        have ol0 := outs_length lv (v ++ [w]) out []
        rw [List.length_nil, Nat.zero_add] at ol0
        rw [outs_append]
        obtain ⟨X, hX⟩ : ∃ X, X = outs lv (v ++ [w]) [] (out ++ t) := ⟨_, rfl⟩
        rw [← hX] at ol ⊢
        have hlast : X.getD (out.length + (t.length - 1)) z = z := by rw [hX, g1, ← ol0, getD_app_r, htl]; exact z3
        have hsumX : X.getD sum.toNat z = z := by
          rw [hX, g1, getD_app_l _ _ _ (by omega)]
          exact hzer v w hv' hz (by omega)
        simp only [outs, nxt, if_true, Int.toNat_natCast, show ¬ (4 : Int) = 1 by decide, show ¬ (4 : Int) = 2 by decide, show ¬ (4 : Int) = 3 by decide, show ¬ (3 : Int) = 1 by decide, show ¬ (3 : Int) = 2 by decide, if_false]
        have q1 : (X ++ [m]).getD (out.length + (t.length - 1)) z = z := by rw [getD_app_l _ _ _ (by omega)]; exact hlast
        rw [q1, Mv0]
        have q2 : (X ++ [m] ++ [z]).getD sum.toNat z = z := by rw [List.append_assoc, getD_app_l _ _ _ (by omega)]; exact hsumX
        have q3 : (X ++ [m] ++ [z]).getD (out.length + t.length + 1) z = z := by
          have : (X ++ [m]).length = out.length + t.length + 1 := by rw [List.length_append, ol]; rfl
          rw [← this]; exact getD_app_r (X ++ [m]) [z] z 0
        rw [q2, q3, Av0]
        have : (X ++ [m] ++ [z]).length = out.length + t.length + 2 := by rw [List.length_append, List.length_append, ol]; rfl
        rw [← this]; exact getD_app_r (X ++ [m] ++ [z]) [z] z 0
  · have e : i = c.length := by have := nlt_dec h; omega
    subst e
    obtain ⟨s1, s2⟩ := hsum h0
    refine T.yes (room_ok (by simp only [List.length_cons, List.length_nil]; omega)) (T.pure fun v w hv' hz => ?_)
    have ol := outs_length lv (v ++ [w]) out []
    rw [List.length_nil, Nat.zero_add] at ol
    rw [outs_append]
    obtain ⟨X, hX⟩ : ∃ X, X = outs lv (v ++ [w]) [] out := ⟨_, rfl⟩
    have hs := hzer v w hv' hz h0
    rw [← hX] at ol hs ⊢
    simp only [outs, nxt, if_true, Int.toNat_natCast, show ¬ (4 : Int) = 1 by decide, show ¬ (4 : Int) = 2 by decide, show ¬ (4 : Int) = 3 by decide, show ¬ (2 : Int) = 1 by decide, if_false]
    have q : ∀ y, (X ++ [y]).getD sum.toNat z = z := fun y => by rw [getD_app_l _ _ _ (by omega)]; exact hs
    rw [q, Mv0]
    have : (out ++ [((2 : Int), (vars : Int), (0 : Int), ((0 : Int), (0 : Int), ()), ()), (4, (out.length : Int), sum, (0, 0, ()), ())]).length - 1 = (X ++ [(v ++ [w]).getD vars z]).length := by
      simp only [List.length_append, List.length_cons, List.length_nil]; omega
    rw [this]
    exact getD_app_r _ [z] z 0
end Go.Proofs.Ytplmejnoepkdgaa.H1
namespace Go.Proofs.Ytplmejnoepkdgaa.H1
open Go Go.Proofs.Ytplmejnoepkdgaa.Rf
theorem Mix_T (lv : Int) (vars : Nat) (c : List (List O)) (a : E) (hc : fewC c) (hv : vars ≤ 1000) : T (fun k => zero_Mix.f k lv vars c a) (fun r => r.2 = 0 → Good lv vars c r.1) := by
  refine T.eq (zero_Mix.f_eq · lv vars c a) (T.bind (many_T c) fun e he => T.ite (fun h => T.pure fun h' => by simp at h h'; exact absurd h' h) fun h => ?_)
  obtain ⟨h1, h2⟩ := he (by simpa using h)
  refine T.loop0 (σ := Unit) (f := fun k _ i => zero_Mix.l58 k lv vars c a c (c.length : Int) i) c.length (fun _ i => ∀ j, j < i → 0 < (c.getD j []).length) () (fun j h => absurd h (by omega)) fun s i hi hI ih => ?_
  refine T.eq (zero_Mix.l58_eq · lv vars c a c _ _) (T.ite (fun h => ?_) (fun h => ?_))
  · have hlt := lt_dec h
    simp only [Int.toNat_natCast]
    refine T.yes (inB_nat hlt) (T.bind (Check_T _ _ _) fun e he => T.ite (fun h => T.pure fun h' => by simp at h h'; exact absurd h' h) fun h => ?_)
    have := he (by simpa using h)
    rw [inc (by omega)]
    refine ih () hlt fun j hj => ?_
    by_cases e : j = i
    · subst e; exact this.1
    · exact hI j (by omega)
  · have e : i = c.length := by have := nlt_dec h; omega
    subst e
    refine T.bind (of_T _ _) fun b _ => T.ite (fun _ => T.pure fun h => absurd h (by decide)) fun _ => T.bind (mix_T lv vars c a hc h1 hv hI) fun out ho => T.bind (Check_T _ _ _) fun e _ => T.ite (fun h => T.pure fun h' => by simp at h h'; exact absurd h' h) fun _ => T.pure fun _ => ho
theorem idx2_T (l : List E) (lv : Int) (hl : l.length ≤ 100000000) : T (fun k => slices_ContainsFunc''.f k l lv) (fun _ => True) := by
  refine T.eq (slices_ContainsFunc''.f_eq · l lv) (T.bind (p := fun _ => True) ?_ fun _ _ => T.pure trivial)
  refine T.eq (slices_IndexFunc''.f_eq · l lv) (T.loop0 (σ := Unit) (f := fun k _ i => slices_IndexFunc''.l26 k l lv (l.length : Int) i) l.length (fun _ _ => True) () trivial fun s i hi _ ih => ?_)
  refine T.eq (slices_IndexFunc''.l26_eq · l lv _ _) (T.ite (fun h => T.yes (inB_nat (lt_dec h)) (T.bind (p := fun _ => True) (T.eq (zero_Sum_1.f_eq · _ lv) (T.bind (of_T _ _) fun _ _ => T.pure trivial)) fun _ _ => T.ite (fun _ => T.pure trivial) fun _ => ?_)) (fun _ => T.pure trivial))
  rw [inc (by omega)]
  exact ih () (lt_dec h) trivial
theorem idx3_T (l : List E) (lv : Int) (hl : l.length ≤ 100000000) : T (fun k => slices_ContainsFunc'''.f k l lv) (fun _ => True) := by
  refine T.eq (slices_ContainsFunc'''.f_eq · l lv) (T.bind (p := fun _ => True) ?_ fun _ _ => T.pure trivial)
  refine T.eq (slices_IndexFunc'''.f_eq · l lv) (T.loop0 (σ := Unit) (f := fun k _ i => slices_IndexFunc'''.l26 k l lv (l.length : Int) i) l.length (fun _ _ => True) () trivial fun s i hi _ ih => ?_)
  refine T.eq (slices_IndexFunc'''.l26_eq · l lv _ _) (T.ite (fun h => T.yes (inB_nat (lt_dec h)) (T.bind (p := fun _ => True) (T.eq (cube_of_1.f_eq · _ lv) (T.bind (of_T _ _) fun _ _ => T.pure trivial)) fun _ _ => T.ite (fun _ => T.pure trivial) fun _ => ?_)) (fun _ => T.pure trivial))
  rw [inc (by omega)]
  exact ih () (lt_dec h) trivial
theorem clone2_T (t : List (List E)) (hl : t.length ≤ 1000) : T (fun k => slices_Clone'.f k t) (fun r => r = t) := by
  refine T.eq (slices_Clone'.f_eq · t) ?_
  have hr : room t.length 24 = true := room_ok (by omega)
  have : nilB t (some []) (bif room t.length 24 then some t else none) = some t := by
    rw [hr]
    exact nilB_same t _ _ fun h => by rw [List.isEmpty_iff.1 h]; rfl
  rw [this]
  exact T.pure rfl
theorem weights_T (lv : Int) (p : List E) (hp : p.length ≤ 6) : T (fun k => cube_Weights.f k lv p) (fun r => r.length ≤ 64) := by
  refine T.eq (cube_Weights.f_eq · lv p) (T.bind (wide_T lv) fun _ _ => T.ite (fun _ => T.pure (by simp)) fun _ => T.ite (fun _ => T.pure (by simp)) fun _ => T.bind (p := fun _ => True) (T.eq (cube_of.f_eq · lv p) (T.bind (idx3_T p lv (by omega)) fun _ _ => T.pure trivial)) fun _ _ => T.ite (fun _ => T.pure (by simp)) fun _ => T.bind (p := fun _ => True) (T.eq tower_One.f_eq (T.pure trivial)) fun one _ => ?_)
  refine T.loop0 (f := fun k s i => cube_Weights.l122 k lv s p (p.length : Int) i) p.length (fun s i => s.length = 2 ^ i) [one] rfl fun s i hi hI ih => ?_
  have hpow : 2 ^ i ≤ 2 ^ 6 := Nat.pow_le_pow_right (by decide) (by omega)
  refine T.eq (cube_Weights.l122_eq · lv s p _ _) (T.ite (fun h => ?_) (fun h => T.pure (by rw [hI]; simpa using hpow)))
  have hlt := lt_dec h
  simp only [Int.toNat_natCast]
  refine T.yes (inB_nat hlt) (T.yes ?_ ?_)
  · simp only [makeB, Bool.and_eq_true, decide_eq_true_eq]
    exact ⟨⟨by omega, by omega⟩, room_ok (by simp only [Int.toNat_natCast]; omega)⟩
  have hs64 : s.length ≤ 64 := by omega
  refine T.loop0 (σ := List E × List E) (f := fun k q n => cube_Weights.l125338 k lv q.1 (p.getD i (0, 0, ())) q.2 p (p.length : Int) (i : Int) (s.length : Int) n) s.length (fun q n => q.1.length = s.length ∧ q.2.length = s.length) (s, _) ⟨rfl, by simp⟩ fun q n hn hq ih2 => ?_
  obtain ⟨q1, q2⟩ := q
  obtain ⟨hq1, hq2⟩ := hq
  dsimp only at hq1 hq2 ⊢
  refine T.eq (cube_Weights.l125338_eq · lv q1 _ q2 p _ _ _ _) (T.ite (fun h => ?_) (fun h => ?_))
  · have hlt2 := lt_dec h
    simp only [Int.toNat_natCast]
    refine T.yes (inB_nat (by omega)) (T.bind (Mv_T _ _ _) fun m _ => T.yes (inB_nat (by omega)) (T.yes (inB_nat (by rw [List.length_set]; omega)) (T.bind (add_T _ _) fun a _ => T.yes (inB_nat (by omega)) ?_)))
    rw [inc (by omega)]
    exact ih2 (_, _) hlt2 ⟨by simp [hq1], by simp [hq2]⟩
  · refine T.yes (room_ok (by omega)) ?_
    rw [inc (by omega)]
    refine ih _ hlt ?_
    rw [List.length_append, hq1, hq2, hI, Nat.pow_succ]; omega
theorem sSum_T (lv : Int) (l : List O) (t : List (List E)) (ht : fewT t) : T (fun k => sumcheck_Sum.f k lv l t) (fun r => r.2 = 0 → Ev (fun k => expr_Check.f k lv (t.length : Int) l) 0 ∧ okT t ∧
    ((∀ i, i < (t.getD 0 []).length → ∀ r', Ev (fun k => expr_Eval.f k lv l (col t i)) r' → r'.1 = z) → r.1 = z)) := by
  refine T.eq (sumcheck_Sum.f_eq · lv l t) (T.bind (sCheck_T lv l t ht) fun e he => T.ite (fun h => T.pure fun h' => by simp at h h'; exact absurd h' h) fun h => ?_)
  obtain ⟨h1, h2⟩ := he (by simpa using h)
  exact T.bind (sum_T lv l t ht h2) fun r hr => T.pure fun _ => ⟨h1, h2, hr⟩
theorem col_app (t : List (List E)) (w : List E) (i : Nat) : col (t ++ [w]) i = col t i ++ [w.getD i z] := by simp [col]
theorem zSum_T (lv : Int) (c : List (List O)) (t : List (List E)) (a : E) (p : List E) (hc : fewC c) (ht : fewT t) (hp : p.length ≤ 6) (h999 : t.length ≤ 900) : T (fun k => zero_Sum.f k lv c t a p) (fun r => r.2 = 0 →
    (okT t ∧ (∀ j, j < c.length → Ev (fun k => expr_Check.f k lv (t.length : Int) (c.getD j [])) 0) ∧ ∀ i, i < (t.getD 0 []).length → ∀ j, j < c.length → Zero lv c t i j) → r.1 = z) := by
  refine T.eq (zero_Sum.f_eq · lv c t a p) (T.bind (ask_T lv c t ht) fun e he => T.ite (fun h => T.pure fun h' => by simp at h h'; exact absurd h' h) fun h => ?_)
  obtain ⟨h1, h2, h3, h4⟩ := he (by simpa using h)
  refine T.bind (Mix_T lv t.length c a hc (by omega)) fun m hm => T.ite (fun h => T.pure fun h' => by simp at h h'; exact absurd h' h) fun h => ?_
  have hgood := hm (by simpa using h)
  refine T.yes (inB_nat (i := 0) h1.1) (T.bind (log_T _) fun n _ => T.ite (fun _ => T.pure fun h => absurd h (by decide)) fun _ => T.bind (idx2_T p lv (by omega)) fun b _ => T.ite (fun _ => T.pure fun h => absurd h (by decide)) fun _ => T.bind (clone2_T t (by omega)) fun t' ht' => T.bind (weights_T lv p hp) fun w hw => ?_)
  subst ht'
  refine T.yes (room_ok (by simp only [List.length_cons, List.length_nil]; omega)) ?_
  have hall : fewT (t' ++ [w]) := ⟨by rw [List.length_append]; simp only [List.length_cons, List.length_nil]; omega, fun i => by
    rcases Nat.lt_trichotomy i t'.length with k | k | k
    · rw [getD_app_l _ _ _ k]; exact ht.2 i
    · subst k
      have := getD_app_r t' [w] [] 0
      simp only [Nat.add_zero] at this
      rw [this]; simp; omega
    · have : (t' ++ [w]).getD i [] = [] := by
        rw [List.getD_eq_getElem?_getD, List.getElem?_eq_none (by rw [List.length_append]; simp only [List.length_cons, List.length_nil]; omega)]; rfl
      rw [this]; simp⟩
  refine T.bind (sSum_T lv m.1 (t' ++ [w]) hall) fun r hr => T.pure fun h0 hH => ?_
  obtain ⟨k1, k2, k3⟩ := hr h0
  obtain ⟨_, c1, c2⟩ := hH
  refine k3 fun i hi r' hr' => ?_
  have hi' : i < (t'.getD 0 []).length := by rw [getD_app_l _ _ _ h1.1] at hi; exact hi
  have hlenc : (col (t' ++ [w]) i).length = (t' ++ [w]).length := col_len _ _
  obtain ⟨e1, e2⟩ := (Eval_T lv m.1 (col (t' ++ [w]) i) (by rw [hlenc]; have := hall.1; omega)).of hr'
  rcases e2 with e2 | ⟨e2, e3⟩
  · exact e2
  · rw [e1 e2 e3, col_app]
    refine hgood (col t' i) _ (col_len _ _) fun j hj => ?_
    have hev := c1 j hj
    obtain ⟨g1, g2, g3⟩ := (Check_T lv (t'.length : Int) (c.getD j [])).of hev rfl
    refine ⟨g1, by rw [col_len]; exact g3, ?_⟩
    obtain ⟨rr, ⟨f1, f2⟩, hE⟩ := Eval_T lv (c.getD j []) (col t' i) (by rw [col_len]; omega)
    have hz := c2 i hi' j hj rr hE
    rw [← f1 (by rw [col_len]; exact hev) fun q hq => ?_]
    · exact hz
    rw [col_len] at hq
    have := e3 q (by rw [hlenc, List.length_append]; omega)
    rw [col_app, getD_app_l _ _ _ (by rw [col_len]; exact hq)] at this
    exact this
theorem few9_T (t : List (List E)) : T (fun k => steeplelaw09_Few.f k t 5 16) (fun b => b = true → t.length ≤ 5 ∧ ∀ i, (t.getD i []).length ≤ 16) := by
  refine T.eq (steeplelaw09_Few.f_eq · t 5 16) (T.ite (fun _ => T.pure (by simp)) fun h5 => ?_)
  have h5 : t.length ≤ 5 := by simp only [gt_iff_lt, decide_eq_false_iff_not] at h5; omega
  refine T.loop0 (σ := Unit) (f := fun k _ i => steeplelaw09_Few.l58 k t 16 i) t.length (fun _ i => ∀ j, j < i → (t.getD j []).length ≤ 16) () (fun j h => absurd h (by omega)) fun s i hi hI ih => ?_
  refine T.eq (steeplelaw09_Few.l58_eq · t 16 _) (T.ite (fun h => ?_) (fun h => ?_))
  · have hlt := lt_dec h
    simp only [Int.toNat_natCast]
    refine T.yes (inB_nat hlt) (T.ite (fun _ => T.pure (by simp)) fun h16 => ?_)
    rw [inc (by omega)]
    refine ih () hlt fun j hj => ?_
    by_cases e : j = i
    · subst e
      simp only [gt_iff_lt, decide_eq_false_iff_not] at h16
      omega
    · exact hI j (by omega)
  · have e : i = t.length := by have := nlt_dec h; omega
    subst e
    refine T.pure fun _ => ⟨h5, fun i => ?_⟩
    by_cases hi : i < t.length
    · exact hI i hi
    · rw [List.getD_eq_getElem?_getD, List.getElem?_eq_none (by omega)]; simp
theorem few21_T (x : List (List O) × List (List E) × Unit) : T (fun k => steeplelaw21_Few.f k x) (fun b => b = true → fewC x.1 ∧ x.2.1.length ≤ 5 ∧ ∀ i, (x.2.1.getD i []).length ≤ 16) := by
  refine T.eq (steeplelaw21_Few.f_eq · x) (T.ite (fun _ => T.pure (by simp)) fun h50 => T.bind (few9_T x.2.1) fun b hb => T.ite (fun _ => T.pure (by simp)) fun hb' => ?_)
  have h50 : x.1.length ≤ 50 := by simp only [gt_iff_lt, decide_eq_false_iff_not] at h50; omega
  obtain ⟨k1, k2⟩ := hb (by simpa using hb')
  refine T.loop0 (σ := Unit) (f := fun k _ i => steeplelaw21_Few.l58 k x i) x.1.length (fun _ i => ∀ j, j < i → (x.1.getD j []).length ≤ 12) () (fun j h => absurd h (by omega)) fun s i hi hI ih => ?_
  refine T.eq (steeplelaw21_Few.l58_eq · x _) (T.ite (fun h => ?_) (fun h => ?_))
  · have hlt := lt_dec h
    simp only [Int.toNat_natCast]
    refine T.yes (inB_nat hlt) (T.ite (fun _ => T.pure (by simp)) fun h16 => ?_)
    rw [inc (by omega)]
    refine ih () hlt fun j hj => ?_
    by_cases e : j = i
    · subst e
      simp only [gt_iff_lt, decide_eq_false_iff_not] at h16
      omega
    · exact hI j (by omega)
  · have e : i = x.1.length := by have := nlt_dec h; omega
    subst e
    have fin : fewC x.1 ∧ x.2.1.length ≤ 5 ∧ ∀ i, (x.2.1.getD i []).length ≤ 16 := ⟨⟨h50, fun i => by
      by_cases hi : i < x.1.length
      · exact hI i hi
      · rw [List.getD_eq_getElem?_getD, List.getElem?_eq_none (by omega)]; simp⟩, k1, k2⟩
    exact T.ite (fun _ => T.pure fun _ => fin) (fun _ => T.pure fun _ => fin)
theorem awake_ev (k : Nat) : steeplelaw21_awake.f (k + 100) = some true := by kernel_rfl
theorem awake_T : T (fun k => steeplelaw21_awake.f k) (fun b => b = true) := ⟨true, rfl, 100, fun k hk => by obtain ⟨j, rfl⟩ := Nat.exists_eq_add_of_le hk; rw [Nat.add_comm]; exact awake_ev j⟩
end Go.Proofs.Ytplmejnoepkdgaa.H1
namespace Go.Proofs.Ytplmejnoepkdgaa.H1
open Go Go.Proofs.Ytplmejnoepkdgaa.Rf
theorem m11_0 (k : Nat) : tower_Mul.f (k + 40) 0 (0, 1, ()) (0, 1, ()) = some (0, 1, ()) := by kernel_rfl
theorem m11_1 (k : Nat) : tower_Mul.f (k + 40) 1 (0, 1, ()) (0, 1, ()) = some (0, 1, ()) := by kernel_rfl
theorem m11_2 (k : Nat) : tower_Mul.f (k + 40) 2 (0, 1, ()) (0, 1, ()) = some (0, 1, ()) := by kernel_rfl
theorem m11_3 (k : Nat) : tower_Mul.f (k + 40) 3 (0, 1, ()) (0, 1, ()) = some (0, 1, ()) := by kernel_rfl
theorem m11_4 (k : Nat) : tower_Mul.f (k + 40) 4 (0, 1, ()) (0, 1, ()) = some (0, 1, ()) := by kernel_rfl
theorem m11_5 (k : Nat) : tower_Mul.f (k + 40) 5 (0, 1, ()) (0, 1, ()) = some (0, 1, ()) := by kernel_rfl
theorem m11_6 (k : Nat) : tower_Mul.f (k + 40) 6 (0, 1, ()) (0, 1, ()) = some (0, 1, ()) := by kernel_rfl
theorem m11_7 (k : Nat) : tower_Mul.f (k + 40) 7 (0, 1, ()) (0, 1, ()) = some (0, 1, ()) := by kernel_rfl
end Go.Proofs.Ytplmejnoepkdgaa.H1
namespace Go.Proofs.Ytplmejnoepkdgaa.H1
open Go Go.Proofs.Ytplmejnoepkdgaa.Rf
def rng (n : Int) : Prop := 0 ≤ n ∧ n < 18446744073709551616
theorem wrap_rng (n : Int) : rng (IntKind.u64.wrap n) := by
  have : IntKind.u64.wrap n = n % 18446744073709551616 := by unfold IntKind.wrap; simp [IntKind.signed, IntKind.bits]
  rw [this]; exact ⟨Int.emod_nonneg _ (by decide), Int.emod_lt_of_pos _ (by decide)⟩
theorem wrap_in {n : Int} (h : rng n) : IntKind.u64.wrap n = n := by
  have : IntKind.u64.wrap n = n % 18446744073709551616 := by unfold IntKind.wrap; simp [IntKind.signed, IntKind.bits]
  rw [this]; exact Int.emod_eq_of_lt h.1 h.2
theorem and_rng (a b : Int) : rng (andI .u64 a b) := wrap_rng _
theorem or_rng (a b : Int) : rng (orI .u64 a b) := wrap_rng _
theorem xor_rng (a b : Int) : rng (xorI .u64 a b) := wrap_rng _
theorem ofInt_nat {n : Int} (h : rng n) : ((BitVec.ofInt 64 n).toNat : Int) = n := by
  rw [BitVec.toNat_ofInt]
  obtain ⟨h1, h2⟩ := h
  have : n % ((2 ^ 64 : Nat) : Int) = n := Int.emod_eq_of_lt h1 (by simpa using h2)
  rw [this]; omega
theorem xor_zl {n : Int} (h : rng n) : xorI .u64 0 n = n := by
  unfold xorI
  have e : IntKind.u64.bits = 64 := rfl
  rw [e, show BitVec.ofInt 64 0 = 0#64 by decide, BitVec.zero_xor, ofInt_nat h]; exact wrap_in h
theorem xor_zr {n : Int} (h : rng n) : xorI .u64 n 0 = n := by
  unfold xorI
  have e : IntKind.u64.bits = 64 := rfl
  rw [e, show BitVec.ofInt 64 0 = 0#64 by decide, BitVec.xor_zero, ofInt_nat h]; exact wrap_in h
def rngE (x : E) : Prop := rng x.1 ∧ rng x.2.1
theorem rngE_z : rngE z := ⟨⟨by decide, by decide⟩, by decide, by decide⟩
theorem Av_zl {x : E} (h : rngE x) : Av z x = x := Prod.ext (xor_zl h.1) (Prod.ext (xor_zl h.2) rfl)
theorem Av_zr {x : E} (h : rngE x) : Av x z = x := Prod.ext (xor_zr h.1) (Prod.ext (xor_zr h.2) rfl)
theorem andz (b : Int) : andI .u64 (andI .u64 0 b) 1 = 0 := by
  have e : andI .u64 0 b = 0 := by unfold andI; simp [IntKind.wrap, IntKind.signed]
  rw [e]; decide
theorem join_R {l : Nat} (h1 : 1 ≤ l) (h2 : l ≤ 7) (a b : Int) : T (fun k => tower_join.f k l a b) (fun r => rng r) := by
  have hl : l = 1 ∨ l = 2 ∨ l = 3 ∨ l = 4 ∨ l = 5 ∨ l = 6 ∨ l = 7 := by omega
  rcases hl with rfl | rfl | rfl | rfl | rfl | rfl | rfl <;>
  exact T.eq (tower_join.f_eq · _ a b) (T.no (by decide) (T.no (by decide) (T.pure (or_rng _ _))))
theorem mul_R : ∀ (l : Nat), l ≤ 6 → ∀ a b, T (fun k => tower_mul.f k l a b) (fun r => (a = 0 → r = 0) ∧ rng r)
  | 0, h, a, b => T.eq (tower_mul.f_eq · _ a b) (T.yes (by simp) (T.pure ⟨by rintro rfl; exact andz b, and_rng _ _⟩))
  | l + 1, h, a, b => by
    refine T.eq (tower_mul.f_eq · _ a b) (T.no (by simp; omega) (T.ite (fun _ => T.pure ⟨by rintro rfl; exact andz b, and_rng _ _⟩) fun ha => T.ite (fun _ => T.pure ⟨by rintro rfl; exact andz b, and_rng _ _⟩) fun hb => ?_))
    refine T.bind (halves_T (by omega) (by omega) a) fun r _ => T.bind (halves_T (by omega) (by omega) b) fun s _ => ?_
    rw [lev (by omega)]
    refine T.bind (mul_R l (by omega) _ _) fun t1 _ => T.bind (mul_R l (by omega) _ _) fun t2 _ => T.bind (mul_R l (by omega) _ _) fun t3 _ => T.bind (mulX_T l (by omega) _) fun t4 _ => T.bind (join_R (by omega) (by omega) _ _) fun t5 h5 => T.pure ⟨fun h0 => ?_, h5⟩
    subst h0; simp at ha
theorem Mul_R (l : Int) (a b : E) : T (fun k => tower_Mul.f k l a b) (fun r => (a = z → r = z) ∧ rngE r) := by
  refine T.eq (tower_Mul.f_eq · l a b) (T.bind (of_T l a) fun o1 h1 => T.ite (fun _ => T.pure ⟨fun _ => rfl, rngE_z⟩) fun g1 => T.bind (of_T l b) fun o2 h2 => T.ite (fun _ => T.pure ⟨fun _ => rfl, rngE_z⟩) fun g2 => ?_)
  have h0 : 0 ≤ l ∧ l ≤ 7 := by
    rw [h1] at g1
    unfold ofB at g1
    by_cases k1 : l < 0
    · simp [k1] at g1
    · by_cases k2 : l > 7
      · simp [k1, k2] at g1
      · omega
  refine T.ite (fun g => ?_) (fun g => ?_)
  · obtain ⟨n, rfl⟩ := Int.eq_ofNat_of_zero_le h0.1
    simp only [decide_eq_true_eq] at g
    exact T.bind (mul_R n (by omega) _ _) fun r hr => T.pure ⟨fun hb => by rw [hr.1 (by rw [hb]; rfl)]; rfl, show rng 0 from ⟨by decide, by decide⟩, hr.2⟩
  · refine T.bind (mul_R 6 (by omega) _ _) fun r1 q1 => T.bind (mul_R 6 (by omega) _ _) fun r2 q2 => T.bind (mul_R 6 (by omega) _ _) fun r3 q3 => T.bind (mulX_T 6 (by omega) _) fun r4 q4 => T.pure ⟨fun hb => ?_, xor_rng _ _, xor_rng _ _⟩
    subst hb
    have e1 := q1.1 rfl
    have e2 := q2.1 rfl
    have e3 := q3.1 (by decide)
    have e4 := q4 e1
    rw [e1, e2, e3, e4]; decide
theorem Mvz (lv : Int) (b : E) : Mv lv z b = z := ((Mul_R lv z b).of (Mv_ev lv z b)).1 rfl
theorem Mv_rng (lv : Int) (a b : E) : rngE (Mv lv a b) := ((Mul_R lv a b).of (Mv_ev lv a b)).2
def one : E := (0, 1, ())
theorem Mv11 {lv : Int} (h1 : 0 ≤ lv) (h2 : lv ≤ 7) : Mv lv one one = one := by
  have ev : ∀ {l : Int}, (∀ k, tower_Mul.f (k + 40) l (0, 1, ()) (0, 1, ()) = some (0, 1, ())) → Mv l one one = one := fun h => (Mv_ev _ one one).uniq ⟨40, fun k hk => by obtain ⟨j, rfl⟩ := Nat.exists_eq_add_of_le hk; rw [Nat.add_comm]; exact h j⟩
  have hl : lv = 0 ∨ lv = 1 ∨ lv = 2 ∨ lv = 3 ∨ lv = 4 ∨ lv = 5 ∨ lv = 6 ∨ lv = 7 := by omega
  rcases hl with rfl | rfl | rfl | rfl | rfl | rfl | rfl | rfl
  · exact ev m11_0
  · exact ev m11_1
  · exact ev m11_2
  · exact ev m11_3
  · exact ev m11_4
  · exact ev m11_5
  · exact ev m11_6
  · exact ev m11_7
theorem ofB_bit {lv : Int} (h1 : 0 ≤ lv) (h2 : lv ≤ 7) : ofB lv z = true ∧ ofB lv one = true := by
  have hl : lv = 0 ∨ lv = 1 ∨ lv = 2 ∨ lv = 3 ∨ lv = 4 ∨ lv = 5 ∨ lv = 6 ∨ lv = 7 := by omega
  rcases hl with rfl | rfl | rfl | rfl | rfl | rfl | rfl | rfl <;> decide
/-- A check that says nothing is of a level that there is. -/
theorem chk_lv {lv vars : Int} {l : List O} (h : Ev (fun k => expr_Check.f k lv vars l) 0) : 0 ≤ lv ∧ lv ≤ 7 := by
  by_cases hl : 0 ≤ lv ∧ lv ≤ 7
  · exact hl
  · exfalso
    have hw : T (fun k => octet_Wide.f k lv) (fun r => r = 0) := by
      refine T.eq (octet_Wide.f_eq · lv) (T.ite (fun _ => T.pure rfl) fun h1 => T.ite (fun _ => T.pure rfl) fun h2 => ?_)
      simp only [decide_eq_false_iff_not] at h1 h2
      omega
    have : T (fun k => expr_Check.f k lv vars l) (fun e => e = 1) := T.eq (expr_Check.f_eq · lv vars l) (T.bind (p := fun r => r = ([], 1)) (T.eq (expr_degrees.f_eq · lv vars l) (T.bind hw fun r hr => T.yes (by rw [hr]; rfl) (T.pure rfl))) fun r hr => T.pure (by rw [hr]))
    have := this.of h
    cases this
end Go.Proofs.Ytplmejnoepkdgaa.H1
namespace Go.Proofs.Ytplmejnoepkdgaa.H1
open Go Go.Proofs.Ytplmejnoepkdgaa.Rf
/-- All elements are of a level. -/
def allOf (lv : Int) (l : List E) : Prop := ∀ j, j < l.length → ofB lv (l.getD j z) = true
theorem of1_S (x : E) (lv : Int) : T (fun k => sumcheck_of_1.f k x lv) (fun b => b = !ofB lv x) := T.eq (sumcheck_of_1.f_eq · x lv) (T.bind (of_T lv x) fun b hb => T.pure (by rw [hb]))
theorem idx1_S (l : List E) (lv : Int) (hl : l.length ≤ 100000000) : T (fun k => slices_IndexFunc'.f k l lv) (fun r => r < 0 → allOf lv l) := by
  refine T.eq (slices_IndexFunc'.f_eq · l lv) (T.loop0 (σ := Unit) (f := fun k _ i => slices_IndexFunc'.l26 k l lv (l.length : Int) i) l.length (fun _ i => ∀ j, j < i → ofB lv (l.getD j z) = true) () (fun j h => absurd h (by omega)) fun s i hi hI ih => ?_)
  refine T.eq (slices_IndexFunc'.l26_eq · l lv _ _) (T.ite (fun h => ?_) (fun h => ?_))
  · have hlt := lt_dec h
    simp only [Int.toNat_natCast]
    refine T.yes (inB_nat hlt) (T.bind (of1_S _ _) fun b hb => T.ite (fun _ => T.pure fun h => by omega) fun hf => ?_)
    rw [inc (by omega)]
    refine ih () hlt fun j hj => ?_
    by_cases e : j = i
    · subst e
      have : b = !ofB lv (l.getD j z) := hb
      rw [hf] at this; simpa using this.symm
    · exact hI j (by omega)
  · have e : i = l.length := by have := nlt_dec h; omega
    subst e
    exact T.pure fun _ => hI
theorem of_all_S (lv : Int) (l : List E) (hl : l.length ≤ 100000000) : T (fun k => sumcheck_of.f k lv l) (fun b => b = true → allOf lv l) :=
  T.eq (sumcheck_of.f_eq · lv l) (T.bind (p := fun b => b = false → allOf lv l) (T.eq (slices_ContainsFunc'.f_eq · l lv) (T.bind (idx1_S l lv hl) fun r hr => T.pure fun h => hr (by simpa using h))) fun b hb => T.pure fun h => hb (by simpa using h))
theorem chk1_S (l : List E) (lv : Int) (hl : l.length ≤ 100000000) : T (fun k => sumcheck_Check_1.f k l lv) (fun b => b = false → allOf lv l) := T.eq (sumcheck_Check_1.f_eq · l lv) (T.bind (of_all_S lv l hl) fun b hb => T.pure fun h => hb (by simpa using h))
def allT (lv : Int) (t : List (List E)) : Prop := ∀ i, i < t.length → allOf lv (t.getD i [])
theorem idx_S (t : List (List E)) (lv : Int) (ht : fewT t) : T (fun k => slices_IndexFunc.f k t lv) (fun r => r < 0 → allT lv t) := by
  refine T.eq (slices_IndexFunc.f_eq · t lv) (T.loop0 (σ := Unit) (f := fun k _ i => slices_IndexFunc.l26 k t lv (t.length : Int) i) t.length (fun _ i => ∀ j, j < i → allOf lv (t.getD j [])) () (fun j h => absurd h (by omega)) fun s i hi hI ih => ?_)
  have h1000 := ht.1
  refine T.eq (slices_IndexFunc.l26_eq · t lv _ _) (T.ite (fun h => ?_) (fun h => ?_))
  · have hlt := lt_dec h
    simp only [Int.toNat_natCast]
    refine T.yes (inB_nat hlt) (T.bind (chk1_S _ _ (ht.2 _)) fun b hb => T.ite (fun _ => T.pure fun h => by omega) fun hf => ?_)
    rw [inc (by omega)]
    refine ih () hlt fun j hj => ?_
    by_cases e : j = i
    · subst e; exact hb hf
    · exact hI j (by omega)
  · have e : i = t.length := by have := nlt_dec h; omega
    subst e
    exact T.pure fun _ => hI
theorem log_S (n : Int) : T (fun k => cube_Log.f k n) (fun r => 0 ≤ r → r < 17 ∧ n = shlI .i64 1 r) := by
  refine T.eq (cube_Log.f_eq · n) (T.loop0 (σ := Unit) (f := fun k _ i => cube_Log.l26 k n i) 17 (fun _ _ => True) () trivial fun s i hi _ ih => ?_)
  refine T.eq (cube_Log.l26_eq · n _) (T.ite (fun h => T.no (by simp) (T.ite (fun he => T.pure fun _ => ⟨of_decide_eq_true h, by simpa using he⟩) fun _ => ?_)) (fun _ => T.pure fun h => absurd h (by decide)))
  rw [inc (by omega)]
  exact ih () (by have := of_decide_eq_true h; omega) trivial
theorem sCheck_S (lv : Int) (l : List O) (t : List (List E)) (ht : fewT t) : T (fun k => sumcheck_Check.f k lv l t) (fun e => e = 0 → allT lv t) := by
  refine T.eq (sumcheck_Check.f_eq · lv l t) (T.bind (Check_T lv _ l) fun e _ => T.ite (fun h => T.pure fun h' => by simp [h'] at h) fun he => T.ite (fun _ => T.pure fun h => absurd h (by decide)) fun h0 => T.bind (sdegree_T l) fun d _ => T.bind (fits_T _ _) fun b _ => T.ite (fun _ => T.pure fun h => absurd h (by decide)) fun _ => ?_)
  have hpos : 0 < t.length := by have : ¬ ((t.length : Int) = 0) := by simpa using h0
                                 omega
  refine T.yes (inB_nat (i := 0) hpos) (T.bind (log_T _) fun n _ => T.ite (fun _ => T.pure fun h => absurd h (by decide)) fun hn => T.ite (fun _ => T.pure fun h => absurd h (by decide)) fun _ => ?_)
  refine T.loop0 (σ := Unit) (f := fun k _ i => sumcheck_Check.l506 k t lv n t (t.length : Int) i) t.length (fun _ i => True) () trivial fun s i hi hI ih => ?_
  refine T.eq (sumcheck_Check.l506_eq · t lv n t _ _) (T.ite (fun h => ?_) (fun h => ?_))
  · have hlt := lt_dec h
    refine T.yes (inB_nat hlt) (T.no hn (T.ite (fun _ => T.pure fun h => absurd h (by decide)) fun hl => ?_))
    rw [inc (by have := ht.1; omega)]
    exact ih () hlt trivial
  · refine T.bind (p := fun b => b = false → allT lv t) (T.eq (slices_ContainsFunc.f_eq · t lv) (T.bind (idx_S t lv ht) fun r hr => T.pure fun h => hr (by simpa using h))) fun b hb => T.ite (fun _ => T.pure fun h => absurd h (by decide)) fun hf => T.pure fun _ => hb hf
/-- The expression's last step times a weight. -/
def EndsBy (lv : Int) (vars : Nat) (out : List O) : Prop := ∀ v w, v.length = vars → ∃ s, (outs lv (v ++ [w]) [] out).getD (out.length - 1) z = Mv lv w s
theorem mix_E (lv : Int) (vars : Nat) (c : List (List O)) (a : E) (hc : fewC c) (hv : vars ≤ 1000) : T (fun k => zero_mix.f k lv vars c a) (fun out => EndsBy lv vars out) := by
  refine T.eq (zero_mix.f_eq · lv vars c a) (T.bind (p := fun _ => True) (T.eq tower_One.f_eq (T.pure trivial)) fun one _ => ?_)
  refine T.loop0 (σ := List O × Int × E) (f := fun k s i => zero_mix.l442 k lv vars a s.1 s.2.1 s.2.2 c (c.length : Int) i) c.length (fun s i => s.1.length ≤ 15 * i) ([], 0, one) (by simp) fun s i hi hlen ih => ?_
  obtain ⟨out, sum, by_⟩ := s
  dsimp only at hlen ⊢
  have hc50 := hc.1
  refine T.eq (zero_mix.l442_eq · lv vars a out sum by_ c _ _) (T.ite (fun h => ?_) (fun h => ?_))
  · have hlt := lt_dec h
    have hci := hc.2 i
    simp only [Int.toNat_natCast]
    refine T.yes (inB_nat hlt) (T.bind (behind_T (out.length : Int) _ (by omega)) fun t ht => ?_)
    change t = (c.getD i []).map (shiftO (out.length : Int)) at ht
    have htl : t.length = (c.getD i []).length := by rw [ht, List.length_map]
    have happ : (out ++ t).length = out.length + t.length := List.length_append
    refine T.yes (room_ok (by omega)) ?_
    rw [inc (by omega)]
    refine T.ite (fun hz0 => ih (out ++ t, _, by_) hlt (by dsimp only; omega)) (fun hz0 => T.bind (Mv_T lv by_ a) fun m hm => T.yes (room_ok (by simp only [List.length_cons, List.length_nil]; omega)) (ih (_, _, m) hlt (by dsimp only; rw [List.length_append]; simp only [List.length_cons, List.length_nil]; omega)))
  · refine T.yes (room_ok (by simp only [List.length_cons, List.length_nil]; omega)) (T.pure fun v w hv' => ?_)
    have ol := outs_length lv (v ++ [w]) out []
    rw [List.length_nil, Nat.zero_add] at ol
    rw [outs_append]
    obtain ⟨X, hX⟩ : ∃ X, X = outs lv (v ++ [w]) [] out := ⟨_, rfl⟩
    rw [← hX] at ol ⊢
    simp only [outs, nxt, if_true, Int.toNat_natCast, show ¬ (4 : Int) = 1 by decide, show ¬ (4 : Int) = 2 by decide, show ¬ (4 : Int) = 3 by decide, show ¬ (2 : Int) = 1 by decide, if_false]
    have hvw : (v ++ [w]).getD vars z = w := by have := getD_app_r v [w] z 0; rw [Nat.add_zero, hv'] at this; exact this
    have hq : (X ++ [(v ++ [w]).getD vars z]).getD out.length z = w := by have := getD_app_r X [(v ++ [w]).getD vars z] z 0; rw [Nat.add_zero, ol] at this; rw [this]; exact hvw
    rw [hq]
    have : (out ++ [((2 : Int), (vars : Int), (0 : Int), ((0 : Int), (0 : Int), ()), ()), (4, (out.length : Int), sum, (0, 0, ()), ())]).length - 1 = (X ++ [(v ++ [w]).getD vars z]).length := by
      simp only [List.length_append, List.length_cons, List.length_nil]; omega
    rw [this]
    exact ⟨_, getD_app_r _ [_] z 0⟩
theorem Mix_E (lv : Int) (vars : Nat) (c : List (List O)) (a : E) (hc : fewC c) (hv : vars ≤ 1000) : T (fun k => zero_Mix.f k lv vars c a) (fun r => r.2 = 0 → EndsBy lv vars r.1 ∧ Ev (fun k => expr_Check.f k lv ((vars + 1 : Nat) : Int) r.1) 0) := by
  refine T.eq (zero_Mix.f_eq · lv vars c a) (T.bind (many_T c) fun e he => T.ite (fun h => T.pure fun h' => by simp at h h'; exact absurd h' h) fun h => ?_)
  obtain ⟨h1, h2⟩ := he (by simpa using h)
  refine T.loop0 (σ := Unit) (f := fun k _ i => zero_Mix.l58 k lv vars c a c (c.length : Int) i) c.length (fun _ i => True) () trivial fun s i hi hI ih => ?_
  refine T.eq (zero_Mix.l58_eq · lv vars c a c _ _) (T.ite (fun h => ?_) (fun h => ?_))
  · have hlt := lt_dec h
    simp only [Int.toNat_natCast]
    refine T.yes (inB_nat hlt) (T.bind (Check_T _ _ _) fun e he => T.ite (fun h => T.pure fun h' => by simp at h h'; exact absurd h' h) fun h => ?_)
    rw [inc (by omega)]
    exact ih () hlt trivial
  · have hw : w64 ((vars : Int) + 1) = ((vars + 1 : Nat) : Int) := by rw [w64_in (by omega) (by omega)]; omega
    rw [hw]
    refine T.bind (of_T _ _) fun b _ => T.ite (fun _ => T.pure fun h => absurd h (by decide)) fun _ => T.bind (mix_E lv vars c a hc hv) fun out ho => T.bindE (Check_T _ _ _) fun e _ hE => T.ite (fun h => T.pure fun h' => by simp at h h'; exact absurd h' h) fun h => T.pure fun _ => ⟨ho, ?_⟩
    have : e = 0 := by simpa using h
    subst this; exact hE
/-- Evaluating what may be evaluated is no error. -/
theorem Eval_ok (lv : Int) (l : List O) (v : List E) (hv : v.length ≤ 100000) (hc : Ev (fun k => expr_Check.f k lv (v.length : Int) l) 0) (ho : allOf lv v) : T (fun k => expr_Eval.f k lv l v) (fun r => r.2 = 0) := by
  obtain ⟨q1, q2, q3⟩ := (Check_T lv _ l).of hc rfl
  refine T.eq (expr_Eval.f_eq · lv l v) (T.bindE (Check_T lv _ l) fun e he hE => T.ite (fun h => ?_) fun h => ?_)
  · have := hE.uniq hc; subst this; simp at h
  refine T.loop0 (σ := Unit) (f := fun k _ i => expr_Eval.l58 k lv l v (0, 0, ()) v (v.length : Int) i) v.length (fun _ i => True) () trivial fun s i hi hI ih => ?_
  refine T.eq (expr_Eval.l58_eq · lv l v _ v _ _) (T.ite (fun h => ?_) (fun h => ?_))
  · have hlt := lt_dec h
    simp only [Int.toNat_natCast]
    refine T.yes (inB_nat hlt) (T.bind (of_T _ _) fun b hb => T.no ?_ ?_)
    · rw [hb, show v.getD i (0, 0, ()) = v.getD i z from rfl, ho i hlt]; rfl
    · rw [inc (by omega)]; exact ih () hlt trivial
  · refine T.loop0 (f := fun k s i => expr_Eval.l250 k lv v (0, 0, ()) s l (l.length : Int) i) l.length (fun s i => s.length = i) [] rfl fun s i hi hI' ih => ?_
    refine T.eq (expr_Eval.l250_eq · lv v _ s l _ _) (T.ite (fun h => ?_) (fun h => ?_))
    · have hlt := lt_dec h
      simp only [Int.toNat_natCast]
      have hok := q3 i hlt
      obtain ⟨o, hoo⟩ : ∃ o, o = l.getD i zo := ⟨_, rfl⟩
      have ho' : l.getD i (0, 0, 0, (0, 0, ()), ()) = o := hoo.symm
      rw [← hoo] at hok
      have hroom : ∀ t : E, room (s.length + ([t] : List E).length) 16 = true := fun t => room_ok (by simp only [List.length_singleton]; omega)
      have go : ∀ t, T (fun k => expr_Eval.l250 k lv v (0, 0, ()) (s ++ [t]) l (l.length : Int) (w64 ((i : Int) + 1))) _ := fun t => by
        rw [inc (by omega)]
        exact ih _ hlt (by simp [hI'])
      simp only [ho']
      obtain ⟨u1, u2, u3⟩ := hok
      rw [← hI'] at u3
      refine T.yes (inB_nat hlt) (T.ite (fun k1 => T.yes (hroom _) (go _)) fun k1 => T.ite (fun k2 => T.yes ?_ (T.yes (hroom _) (go _))) fun k2 => T.ite (fun k3 => T.yes ?_ (T.yes ?_ (T.bind (add_T _ _) fun t ht => T.yes (hroom _) (go _)))) fun k3 => T.ite (fun k4 => T.yes ?_ (T.yes ?_ (T.bind (Mv_T _ _ _) fun t ht => T.yes (hroom _) (go _)))) fun k4 => T.yes (hroom _) (go _))
      all_goals simp only [beq_iff_eq, beq_eq_false_iff_ne, ne_eq] at *
      · exact inB_int (u2 k2).1 (u2 k2).2
      · exact inB_int (u3 (.inl k3)).1 (u3 (.inl k3)).2.1
      · exact inB_int (u3 (.inl k3)).2.2.1 (u3 (.inl k3)).2.2.2
      · exact inB_int (u3 (.inr k4)).1 (u3 (.inr k4)).2.1
      · exact inB_int (u3 (.inr k4)).2.2.1 (u3 (.inr k4)).2.2.2
    · have e : i = l.length := by have := nlt_dec h; omega
      subst e
      have hw : w64 ((s.length : Int) - 1) = ((l.length - 1 : Nat) : Int) := by rw [w64_in (by omega) (by omega)]; omega
      rw [hw]
      exact T.yes (inB_nat (by omega)) (T.pure rfl)
end Go.Proofs.Ytplmejnoepkdgaa.H1
namespace Go.Proofs.Ytplmejnoepkdgaa.H1
open Go Go.Proofs.Ytplmejnoepkdgaa.Rf
def fold (f : Nat → E) : Nat → E
  | 0 => z
  | n + 1 => Av (fold f n) (f n)
theorem fold_one {f : Nat → E} {n i0 : Nat} {x : E} (hx : rngE x) (h : ∀ i, i < n → f i = if i = i0 then x else z) (hi : i0 < n) : fold f n = x := by
  have lo : ∀ m, m ≤ i0 → fold f m = z := by
    intro m
    induction m with
    | zero => intro _; rfl
    | succ m ih => intro hm; rw [fold, ih (by omega), h m (by omega), if_neg (by omega)]; exact Av0
  have hi' : ∀ m, i0 < m → m ≤ n → fold f m = x := by
    intro m
    induction m with
    | zero => intro h; omega
    | succ m ih =>
      intro h1 h2
      rw [fold]
      by_cases e : m = i0
      · subst e; rw [lo m (Nat.le_refl _), h m (by omega), if_pos rfl]; exact Av_zl hx
      · rw [ih (by omega) (by omega), h m (by omega), if_neg e]; exact Av_zr hx
  exact hi' n hi (Nat.le_refl _)
theorem sum_S (lv : Int) (l : List O) (t : List (List E)) (ht : fewT t) (h1 : okT t) : T (fun k => sumcheck_sum.f k lv l t) (fun r => ∀ f : Nat → E, (∀ i, i < (t.getD 0 []).length → ∀ r', Ev (fun k => expr_Eval.f k lv l (col t i)) r' → r'.1 = f i) → r = fold f (t.getD 0 []).length) := by
  have hlen := ht.2 0
  have h1000 := ht.1
  refine T.eq (sumcheck_sum.f_eq · lv l t) (T.yes (inB_nat (i := 0) h1.1) (T.loop0 (f := fun k s i => sumcheck_sum.l58 k lv l t (0, 0, ()) s ((t.getD 0 []).length : Int) i) (t.getD 0 []).length (fun s n => ∀ f : Nat → E, (∀ i, i < (t.getD 0 []).length → ∀ r', Ev (fun k => expr_Eval.f k lv l (col t i)) r' → r'.1 = f i) → s = fold f n) _ (fun _ _ => rfl) fun acc i hi hI ih => ?_))
  refine T.eq (sumcheck_sum.l58_eq · lv l t _ acc _ _) (T.ite (fun h => ?_) (fun h => ?_))
  rotate_left
  · have e : i = (t.getD 0 []).length := Nat.le_antisymm hi (nlt_dec h)
    subst e
    exact T.pure hI
  have hlt := lt_dec h
  refine T.yes ?_ ?_
  · simp only [makeB, Bool.and_eq_true, decide_eq_true_eq]
    exact ⟨⟨by omega, by omega⟩, room_ok (by simp only [Int.toNat_natCast]; omega)⟩
  refine T.loop0 (f := fun k s n => sumcheck_sum.l59802 k lv l t (0, 0, ()) acc (i : Int) s ((t.getD 0 []).length : Int) (i : Int) t (t.length : Int) n) t.length (fun s n => s.length = t.length ∧ ∀ j, j < n → s.getD j z = (t.getD j []).getD i z) _ ⟨by simp, fun j h => absurd h (by omega)⟩ fun s n hn hI2 ih2 => ?_
  refine T.eq (sumcheck_sum.l59802_eq · lv l t _ acc _ s _ _ t _ _) (T.ite (fun h => ?_) (fun h => ?_))
  · have hlt2 := lt_dec h
    simp only [Int.toNat_natCast]
    refine T.yes (inB_nat hlt2) (T.yes (inB_nat (by have := h1.2 n hlt2; omega)) (T.yes (inB_nat (by omega)) ?_))
    rw [inc (by omega)]
    refine ih2 _ hlt2 ⟨by simp [hI2.1], fun j hj => ?_⟩
    rw [set_get _ _ _ _ _ (by omega)]
    split
    · rename_i e; subst e; rfl
    · exact hI2.2 j (by omega)
  · have e : n = t.length := by have := nlt_dec h; omega
    subst e
    have hs : s = col t i := list_eq z (by rw [col_len]; exact hI2.1) fun j hj => by rw [col_len] at hj; rw [hI2.2 j hj, col_at t i j hj]
    subst hs
    refine T.bindE (Eval_T lv l _ (by rw [col_len]; omega)) fun r _ hE => T.bind (add_T _ _) fun a ha => ?_
    rw [inc (by omega)]
    refine ih a hlt fun f H => ?_
    rw [ha, hI f H, H i hlt r hE]; rfl
theorem idx3_S (l : List E) (lv : Int) (hl : l.length ≤ 100000000) (ho : allOf lv l) : T (fun k => slices_ContainsFunc'''.f k l lv) (fun b => b = false) := by
  refine T.eq (slices_ContainsFunc'''.f_eq · l lv) (T.bind (p := fun r => r = -1) ?_ fun r hr => T.pure (by rw [hr]; decide))
  refine T.eq (slices_IndexFunc'''.f_eq · l lv) (T.loop0 (σ := Unit) (f := fun k _ i => slices_IndexFunc'''.l26 k l lv (l.length : Int) i) l.length (fun _ _ => True) () trivial fun s i hi _ ih => ?_)
  refine T.eq (slices_IndexFunc'''.l26_eq · l lv _ _) (T.ite (fun h => ?_) (fun _ => T.pure rfl))
  have hlt := lt_dec h
  simp only [Int.toNat_natCast]
  refine T.yes (inB_nat hlt) (T.bind (p := fun b => b = !ofB lv (l.getD i z)) (T.eq (cube_of_1.f_eq · _ lv) (T.bind (of_T _ _) fun b hb => T.pure (by rw [hb]; rfl))) fun b hb => T.no (by rw [hb, ho i hlt]; rfl) ?_)
  rw [inc (by omega)]
  exact ih () hlt trivial
/-- A corner as a point. -/
def bitE (i k : Nat) : E := if i / 2 ^ k % 2 = 1 then one else z
def ind (i0 m j : Nat) : E := if j = i0 % 2 ^ m then one else z
theorem ind_cases (i0 m j : Nat) : ind i0 m j = one ∨ ind i0 m j = z := by unfold ind; split <;> simp
theorem Av_oz : Av one z = one := by decide
theorem Av_oo : Av one one = z := by decide
theorem weights_S (lv : Int) (p : List E) (i0 : Nat) (hp : p.length ≤ 6) (h1 : 0 ≤ lv) (h2 : lv ≤ 7) (hbit : ∀ k, k < p.length → p.getD k z = bitE i0 k) : T (fun k => cube_Weights.f k lv p) (fun r => r.length = 2 ^ p.length ∧ ∀ j, j < 2 ^ p.length → r.getD j z = ind i0 p.length j) := by
  have hall : allOf lv p := fun k hk => by
    rw [hbit k hk]; unfold bitE
    split
    · exact (ofB_bit h1 h2).2
    · exact (ofB_bit h1 h2).1
  have hwide : T (fun k => octet_Wide.f k lv) (fun r => r ≠ 0) := by
    have hl : lv = 0 ∨ lv = 1 ∨ lv = 2 ∨ lv = 3 ∨ lv = 4 ∨ lv = 5 ∨ lv = 6 ∨ lv = 7 := by omega
    rcases hl with rfl | rfl | rfl | rfl | rfl | rfl | rfl | rfl <;>
    first
    | exact T.eq (octet_Wide.f_eq · _) (T.no (by decide) (T.no (by decide) (T.yes (by decide) (T.pure (by decide)))))
    | exact T.eq (octet_Wide.f_eq · _) (T.no (by decide) (T.no (by decide) (T.no (by decide) (T.no (by decide) (T.pure (by decide))))))
  refine T.eq (cube_Weights.f_eq · lv p) (T.bind hwide fun r hr => T.no (by simpa using hr) (T.no (by simp; omega) (T.bind (p := fun b => b = true) (T.eq (cube_of.f_eq · lv p) (T.bind (idx3_S p lv (by omega) hall) fun b hb => T.pure (by rw [hb]; rfl))) fun b hb => T.no (by rw [hb]; rfl) (T.bind (p := fun o => o = one) (T.eq tower_One.f_eq (T.pure rfl)) fun o ho => ?_))))
  subst ho
  refine T.loop0 (f := fun k s i => cube_Weights.l122 k lv s p (p.length : Int) i) p.length (fun s i => s.length = 2 ^ i ∧ ∀ j, j < 2 ^ i → s.getD j z = ind i0 i j) [one] ⟨rfl, fun j hj => ?_⟩ fun s i hi hI ih => ?_
  · have : j = 0 := by simpa using hj
    subst this
    simp [ind, Nat.mod_one]
  have hpow : 2 ^ i ≤ 2 ^ 6 := Nat.pow_le_pow_right (by decide) (by omega)
  have hs64 : s.length ≤ 64 := by rw [hI.1]; simpa using hpow
  refine T.eq (cube_Weights.l122_eq · lv s p _ _) (T.ite (fun h => ?_) (fun h => ?_))
  rotate_left
  · have e : i = p.length := Nat.le_antisymm hi (nlt_dec h)
    subst e
    exact T.pure hI
  have hlt := lt_dec h
  simp only [Int.toNat_natCast]
  refine T.yes (inB_nat hlt) (T.yes ?_ ?_)
  · simp only [makeB, Bool.and_eq_true, decide_eq_true_eq]
    exact ⟨⟨by omega, by omega⟩, room_ok (by simp only [Int.toNat_natCast]; omega)⟩
  obtain ⟨x, hx⟩ : ∃ x, x = p.getD i z := ⟨_, rfl⟩
  have hx' : p.getD i (0, 0, ()) = x := hx.symm
  simp only [hx']
  refine T.loop0 (σ := List E × List E) (f := fun k q n => cube_Weights.l125338 k lv q.1 x q.2 p (p.length : Int) (i : Int) (s.length : Int) n) s.length
    (fun q n => q.1.length = s.length ∧ q.2.length = s.length ∧ (∀ j, j < n → q.2.getD j z = Mv lv (s.getD j z) x ∧ q.1.getD j z = Av (s.getD j z) (Mv lv (s.getD j z) x)) ∧ ∀ j, n ≤ j → q.1.getD j z = s.getD j z) (s, _) ⟨rfl, by simp, fun j h => absurd h (by omega), fun j _ => rfl⟩ fun q n hn hq ih2 => ?_
  obtain ⟨q1, q2⟩ := q
  obtain ⟨hq1, hq2, hq3, hq4⟩ := hq
  dsimp only at hq1 hq2 hq3 hq4 ⊢
  refine T.eq (cube_Weights.l125338_eq · lv q1 _ q2 p _ _ _ _) (T.ite (fun h => ?_) (fun h => ?_))
  · have hlt2 := lt_dec h
    simp only [Int.toNat_natCast]
    have hcur : q1.getD n (0, 0, ()) = s.getD n z := hq4 n (Nat.le_refl _)
    rw [hcur]
    refine T.yes (inB_nat (by omega)) (T.bind (Mv_T _ _ _) fun m hm => T.yes (inB_nat (by omega)) (T.yes (inB_nat (by rw [List.length_set]; omega)) ?_))
    have hup : (q2.set n m).getD n (0, 0, ()) = m := by rw [set_get _ _ _ _ _ (by omega), if_pos rfl]
    rw [hup]
    refine T.bind (add_T _ _) fun a ha => T.yes (inB_nat (by omega)) ?_
    rw [inc (by omega)]
    refine ih2 (_, _) hlt2 ⟨by simp [hq1], by simp [hq2], fun j hj => ?_, fun j hj => ?_⟩
    · dsimp only
      rw [set_get _ _ _ _ _ (by omega), set_get _ _ _ _ _ (by omega)]
      by_cases e : j = n
      · subst e
        rw [if_pos rfl, if_pos rfl]
        exact ⟨hm, by rw [ha, hm]; rfl⟩
      · rw [if_neg e, if_neg e]; exact hq3 j (by omega)
    · dsimp only
      rw [set_get _ _ _ _ _ (by omega), if_neg (by omega)]
      exact hq4 j (by omega)
  · have e : n = s.length := by have := nlt_dec h; omega
    subst e
    refine T.yes (room_ok (by omega)) ?_
    rw [inc (by omega)]
    have hmod : i0 % 2 ^ (i + 1) = i0 % 2 ^ i + 2 ^ i * (i0 / 2 ^ i % 2) := Nat.mod_pow_succ
    have hlti : i0 % 2 ^ i < 2 ^ i := Nat.mod_lt _ (Nat.two_pow_pos i)
    have hxb : x = bitE i0 i := by rw [hx]; exact hbit i hlt
    refine ih _ hlt ⟨by rw [List.length_append, hq1, hq2, hI.1, Nat.pow_succ]; omega, fun j hj => ?_⟩
    rw [Nat.pow_succ] at hj
    have hb2 : i0 / 2 ^ i % 2 = 0 ∨ i0 / 2 ^ i % 2 = 1 := by omega
    have hsv : ∀ j, j < 2 ^ i → s.getD j z = ind i0 i j := hI.2
    by_cases hj2 : j < 2 ^ i
    · rw [getD_app_l _ _ _ (by rw [hq1, hI.1]; exact hj2), (hq3 j (by rw [hI.1]; exact hj2)).2, hsv j hj2]
      rcases hb2 with b0 | b1
      · rw [hxb, bitE, if_neg (by omega), Mv0]
        have : ind i0 (i + 1) j = ind i0 i j := by unfold ind; rw [hmod, b0]; simp
        rw [this]
        rcases ind_cases i0 i j with e | e <;> rw [e]
        · exact Av_oz
        · exact Av0
      · rw [hxb, bitE, if_pos b1]
        have : ind i0 (i + 1) j = z := by unfold ind; rw [hmod, b1, if_neg (by omega)]
        rw [this]
        rcases ind_cases i0 i j with e | e <;> rw [e]
        · rw [Mv11 h1 h2]; exact Av_oo
        · rw [Mvz]; exact Av0
    · have hj3 : j - 2 ^ i < 2 ^ i := by omega
      have ej : j = q1.length + (j - 2 ^ i) := by rw [hq1, hI.1]; omega
      rw [ej, getD_app_r, (hq3 (j - 2 ^ i) (by rw [hI.1]; exact hj3)).1, hsv _ hj3, ← ej]
      rcases hb2 with b0 | b1
      · rw [hxb, bitE, if_neg (by omega), Mv0]
        unfold ind; rw [hmod, b0, if_neg (by omega)]
      · rw [hxb, bitE, if_pos b1]
        have : ind i0 (i + 1) j = ind i0 i (j - 2 ^ i) := by
          unfold ind; rw [hmod, b1]
          by_cases e : j - 2 ^ i = i0 % 2 ^ i
          · rw [if_pos e, if_pos (by omega)]
          · rw [if_neg e, if_neg (by omega)]
        rw [this]
        rcases ind_cases i0 i (j - 2 ^ i) with e | e <;> rw [e]
        · exact Mv11 h1 h2
        · exact Mvz lv one
end Go.Proofs.Ytplmejnoepkdgaa.H1
namespace Go.Proofs.Ytplmejnoepkdgaa.H1
open Go Go.Proofs.Ytplmejnoepkdgaa.Rf
theorem T.both {α : Type} {g : Nat → Option α} {p q : α → Prop} (h1 : T g p) (h2 : T g q) : T g (fun a => p a ∧ q a) := by
  obtain ⟨a, ha, he⟩ := h1
  exact ⟨a, ⟨ha, h2.of he⟩, he⟩
theorem sSum_S (lv : Int) (l : List O) (t : List (List E)) (ht : fewT t) : T (fun k => sumcheck_Sum.f k lv l t) (fun r => r.2 = 0 → Ev (fun k => expr_Check.f k lv (t.length : Int) l) 0 ∧ okT t ∧ allT lv t ∧
    ∀ f : Nat → E, (∀ i, i < (t.getD 0 []).length → ∀ r', Ev (fun k => expr_Eval.f k lv l (col t i)) r' → r'.1 = f i) → r.1 = fold f (t.getD 0 []).length) := by
  refine T.eq (sumcheck_Sum.f_eq · lv l t) (T.bind ((sCheck_T lv l t ht).both (sCheck_S lv l t ht)) fun e he => T.ite (fun h => T.pure fun h' => by simp at h h'; exact absurd h' h) fun h => ?_)
  have e0 : e = 0 := by simpa using h
  obtain ⟨h1, h2⟩ := he.1 e0
  exact T.bind (sum_S lv l t ht h2) fun r hr => T.pure fun _ => ⟨h1, h2, he.2 e0, hr⟩
theorem fewT_app {t : List (List E)} {w : List E} (ht : fewT t) (h9 : t.length ≤ 900) (hw : w.length ≤ 64) : fewT (t ++ [w]) := ⟨by rw [List.length_append]; simp only [List.length_cons, List.length_nil]; omega, fun i => by
  rcases Nat.lt_trichotomy i t.length with k | k | k
  · rw [getD_app_l _ _ _ k]; exact ht.2 i
  · subst k
    have := getD_app_r t [w] [] 0
    simp only [Nat.add_zero] at this
    rw [this]; simp; omega
  · have : (t ++ [w]).getD i [] = [] := by
      rw [List.getD_eq_getElem?_getD, List.getElem?_eq_none (by rw [List.length_append]; simp only [List.length_cons, List.length_nil]; omega)]; rfl
    rw [this]; simp⟩
theorem zSum_S (lv : Int) (c : List (List O)) (t : List (List E)) (a : E) (p : List E) (hc : fewC c) (ht : fewT t) (hp : p.length ≤ 6) (h999 : t.length ≤ 900) : T (fun k => zero_Sum.f k lv c t a p) (fun r => r.2 = 0 →
    ∃ (m : List O) (w : List E), Ev (fun k => zero_Mix.f k lv (t.length : Int) c a) (m, 0) ∧ Ev (fun k => cube_Weights.f k lv p) w ∧ Ev (fun k => expr_Check.f k lv ((t.length + 1 : Nat) : Int) m) 0 ∧ okT (t ++ [w]) ∧ allT lv (t ++ [w]) ∧ 0 < t.length ∧
      ((t.getD 0 []).length : Int) = shlI .i64 1 (p.length : Int) ∧
      ∀ f : Nat → E, (∀ i, i < (t.getD 0 []).length → ∀ r', Ev (fun k => expr_Eval.f k lv m (col (t ++ [w]) i)) r' → r'.1 = f i) → r.1 = fold f (t.getD 0 []).length) := by
  refine T.eq (zero_Sum.f_eq · lv c t a p) (T.bind (ask_T lv c t ht) fun e he => T.ite (fun h => T.pure fun h' => by simp at h h'; exact absurd h' h) fun h => ?_)
  obtain ⟨h1, h2, h3, h4⟩ := he (by simpa using h)
  refine T.bindE (Mix_T lv t.length c a hc (by omega)) fun m hm hmE => T.ite (fun h => T.pure fun h' => by simp at h h'; exact absurd h' h) fun h => ?_
  have hm0 : m = (m.1, 0) := Prod.ext rfl (by simpa using h)
  refine T.yes (inB_nat (i := 0) h1.1) (T.bind (log_S _) fun n hn => T.ite (fun _ => T.pure fun h => absurd h (by decide)) fun hpn => T.bind (idx2_T p lv (by omega)) fun b _ => T.ite (fun _ => T.pure fun h => absurd h (by decide)) fun _ => T.bind (clone2_T t (by omega)) fun t' ht' => T.bindE (weights_T lv p hp) fun w hw hwE => ?_)
  subst ht'
  have hpn : (p.length : Int) = n := by simpa using hpn
  obtain ⟨_, hlog⟩ := hn (by omega)
  refine T.yes (room_ok (by simp only [List.length_cons, List.length_nil]; omega)) ?_
  refine T.bind (sSum_S lv m.1 (t' ++ [w]) (fewT_app ht h999 hw)) fun r hr => T.pure fun h0 => ?_
  obtain ⟨k1, k2, k3, k4⟩ := hr h0
  have e0 : (t' ++ [w]).getD 0 [] = t'.getD 0 [] := getD_app_l _ _ _ h1.1
  have el : (t' ++ [w]).length = t'.length + 1 := by rw [List.length_append]; rfl
  rw [e0] at k4
  rw [el] at k1
  exact ⟨m.1, w, by rw [← hm0]; exact hmE, hwE, k1, k2, k3, h1.1, by rw [hpn]; exact hlog, k4⟩
theorem clone3_T (t : List E) (hl : t.length ≤ 1000) : T (fun k => slices_Clone''.f k t) (fun r => r = t) := by
  refine T.eq (slices_Clone''.f_eq · t) ?_
  have hr : room t.length 16 = true := room_ok (by omega)
  have : nilB t (some []) (bif room t.length 16 then some t else none) = some t := by
    rw [hr]
    exact nilB_same t _ _ fun h => by rw [List.isEmpty_iff.1 h]; rfl
  rw [this]
  exact T.pure rfl
theorem Ev.T {α : Type} {g : Nat → Option α} {a : α} (h : Ev g a) : T g (fun r => r = a) := ⟨a, rfl, h⟩
/-- The value at a point, where all may be. -/
theorem Value_S (lv : Int) (c : List (List O)) (v : List E) (a w : E) (m : List O) (hm : Ev (fun k => zero_Mix.f k lv (v.length : Int) c a) (m, 0)) (hv : v.length ≤ 900) (hc : Ev (fun k => expr_Check.f k lv ((v.length + 1 : Nat) : Int) m) 0) (ho : allOf lv (v ++ [w])) :
    T (fun k => zero_Value.f k lv c v a w) (fun r => r.2 = 0 ∧ ∀ r', Ev (fun k => expr_Eval.f k lv m (v ++ [w])) r' → r.1 = r'.1) := by
  have el : (v ++ [w]).length = v.length + 1 := by rw [List.length_append]; rfl
  refine T.eq (zero_Value.f_eq · lv c v a w) (T.bind hm.T fun q hq => ?_)
  subst hq
  refine T.no (by simp) (T.bind (clone3_T v (by omega)) fun v' hv' => ?_)
  subst hv'
  refine T.yes (room_ok (by simp only [List.length_cons, List.length_nil]; omega)) (T.bindE (Eval_ok lv m (v' ++ [w]) (by omega) (by rw [el]; exact hc) ho) fun r hr hE => T.pure ⟨hr, fun r' hr' => by rw [hr'.uniq hE]⟩)
theorem shl_pow {m : Nat} (h : m ≤ 6) : shlI .i64 1 (m : Int) = ((2 ^ m : Nat) : Int) := by
  have hl : m = 0 ∨ m = 1 ∨ m = 2 ∨ m = 3 ∨ m = 4 ∨ m = 5 ∨ m = 6 := by omega
  rcases hl with rfl | rfl | rfl | rfl | rfl | rfl | rfl <;> decide
theorem wu_in {n : Int} (h1 : 0 ≤ n) (h2 : n < 18446744073709551616) : wu64 n = n := wrap_in ⟨h1, h2⟩
/-- Behind a sum that is right: the mixed conditions' value at the corner is the sum. -/
theorem tail_T (lv : Int) (x : List (List O) × List (List E) × Unit) (y : E × List E × E × Unit) (i0 : Nat) (p : List E) (hc : fewC x.1) (h5 : x.2.1.length ≤ 5) (h16 : ∀ i, (x.2.1.getD i []).length ≤ 16) (hi : i0 < (x.2.1.getD 0 []).length) (hp : p.length ≤ 5)
    (hb : ∀ k, k < p.length → p.getD k z = bitE i0 k) : T (fun k => (zero_Sum.f k lv x.1 x.2.1 y.1 p).bind fun t79 => bif t79.2 != 0 then ((steeplelaw21_awake.f k).bind fun t84 => some t84) else steeplelaw21_ZeroCorners.l2042 k lv x y (i0 : Int) [] t79.1 0) (fun b => b = true) := by
  have hft : fewT x.2.1 := ⟨by omega, fun i => by have := h16 i; omega⟩
  refine T.bind (zSum_S lv x.1 x.2.1 y.1 p hc hft (by omega) (by omega)) fun r hr => T.ite (fun _ => T.bind awake_T fun b hb => T.pure hb) fun h => ?_
  obtain ⟨m, w, hm, hw, hchk, hok, hall, hpos, hlog, hsum⟩ := hr (by simpa using h)
  rw [shl_pow (by omega)] at hlog
  have hlen : (x.2.1.getD 0 []).length = 2 ^ p.length := by exact_mod_cast hlog
  obtain ⟨lv1, lv2⟩ := chk_lv hchk
  obtain ⟨wl, wv⟩ := (weights_S lv p i0 (by omega) lv1 lv2 hb).of hw
  have el : (x.2.1 ++ [w]).length = x.2.1.length + 1 := by rw [List.length_append]; rfl
  have hlens : ∀ q, q < x.2.1.length → (x.2.1.getD q []).length = 2 ^ p.length := fun q hq => by
    have := hok.2 q (by omega)
    rw [getD_app_l _ _ _ hq, getD_app_l _ _ _ hpos] at this
    omega
  have hi2 : i0 < 2 ^ p.length := by omega
  have hmod : i0 % 2 ^ p.length = i0 := Nat.mod_eq_of_lt hi2
  obtain ⟨hends, _⟩ := (Mix_E lv x.2.1.length x.1 y.1 hc (by omega)).of hm rfl
  -- the corner's own value
  obtain ⟨X, ⟨X1, X2⟩, hX⟩ := Eval_T lv m (col x.2.1 i0 ++ [one]) (by rw [List.length_append, col_len]; simp only [List.length_cons, List.length_nil]; omega)
  have hrng : rngE X.1 := by
    rcases X2 with e | ⟨e1, e2⟩
    · rw [e]; exact rngE_z
    · rw [X1 e1 e2]
      obtain ⟨s, hs⟩ := hends (col x.2.1 i0) one (col_len _ _)
      rw [hs]; exact Mv_rng _ _ _
  have hval : r.1 = X.1 := by
    rw [hsum (fun i => if i = i0 then X.1 else z) fun i hi r' hr' => ?_]
    · exact fold_one hrng (fun i _ => rfl) hi
    · rw [hlen] at hi
      rw [col_app] at hr'
      have hwi : w.getD i z = if i = i0 then one else z := by rw [wv i hi, ind, hmod]
      rw [hwi] at hr'
      by_cases e : i = i0
      · subst e
        rw [if_pos rfl] at hr'
        rw [hr'.uniq hX]; simp
      · rw [if_neg e] at hr'
        rw [if_neg e]
        obtain ⟨f1, f2⟩ := (Eval_T lv m (col x.2.1 i ++ [z]) (by rw [List.length_append, col_len]; simp only [List.length_cons, List.length_nil]; omega)).of hr'
        rcases f2 with e | ⟨e1, e2⟩
        · exact e
        · rw [f1 e1 e2]
          obtain ⟨s, hs⟩ := hends (col x.2.1 i) z (col_len _ _)
          rw [hs]; exact Mvz lv s
  have hall2 : allOf lv (col x.2.1 i0 ++ [one]) := fun j hj => by
    rw [List.length_append, col_len] at hj
    simp only [List.length_cons, List.length_nil] at hj
    by_cases e : j < x.2.1.length
    · rw [getD_app_l _ _ _ (by rw [col_len]; exact e), col_at _ _ _ e]
      have := hall j (by omega)
      rw [getD_app_l _ _ _ e] at this
      exact this i0 (by rw [hlens j e]; exact hi2)
    · have ej : j = (col x.2.1 i0).length + 0 := by rw [col_len]; omega
      rw [ej, getD_app_r]
      exact (ofB_bit lv1 lv2).2
  refine T.loop0 (f := fun k s i => steeplelaw21_ZeroCorners.l2042 k lv x y (i0 : Int) s r.1 i) x.2.1.length (fun s i => s = (col x.2.1 i0).take i) [] rfl fun s i hi' hI ih => ?_
  refine T.eq (steeplelaw21_ZeroCorners.l2042_eq · lv x y _ s _ _) (T.ite (fun h => ?_) (fun h => ?_))
  · have hlt := lt_dec h
    simp only [Int.toNat_natCast]
    have hsl : s.length ≤ 5 := by rw [hI, List.length_take, col_len]; omega
    refine T.yes (inB_nat hlt) (T.yes (inB_nat (by rw [hlens i hlt]; exact hi2)) (T.yes (room_ok (by simp only [List.length_cons, List.length_nil]; omega)) ?_))
    rw [inc (by omega)]
    refine ih _ hlt ?_
    rw [take_snoc (col x.2.1 i0) z (by rw [col_len]; exact hlt), ← hI, col_at _ _ _ hlt]; rfl
  · have e : i = x.2.1.length := Nat.le_antisymm hi' (nlt_dec h)
    subst e
    have hs : s = col x.2.1 i0 := by rw [hI]; exact List.take_of_length_le (by rw [col_len]; exact Nat.le_refl _)
    subst hs
    refine T.bind (Value_S lv x.1 (col x.2.1 i0) y.1 one m (by rw [col_len]; exact hm) (by rw [col_len]; omega) (by rw [col_len]; exact hchk) hall2) fun v hv => T.bind awake_T fun b hb => T.yes hb (T.yes (by rw [hv.1]; rfl) (T.pure ?_))
    rw [hv.2 X hX, hval]
    simp
/-- The law is true of every input. -/
theorem corner_T (lv : Int) (x : List (List O) × List (List E) × Unit) (y : E × List E × E × Unit) (hW : 0 ≤ y.2.2.1.2.1) : T (fun k => steeplelaw21_ZeroCorners.f k lv x y) (fun b => b = true) := by
  have aw : T (fun k => (steeplelaw21_awake.f k).bind fun t => some t) (fun b => b = true) := T.bind awake_T fun b hb => T.pure hb
  refine T.eq (steeplelaw21_ZeroCorners.f_eq · lv x y) (T.bind (few21_T x) fun b hb => T.ite (fun _ => aw) fun hb' => T.ite (fun _ => aw) fun h0 => ?_)
  obtain ⟨k1, k2, k3⟩ := hb (by simpa using hb')
  have hpos : 0 < x.2.1.length := by have : ¬ ((x.2.1.length : Int) = 0) := by simpa using h0
                                     omega
  refine T.yes (inB_nat (i := 0) hpos) (T.ite (fun _ => aw) fun h1 => T.yes (inB_nat (i := 0) hpos) ?_)
  have e00 : x.2.1.getD ((0 : Int).toNat) [] = x.2.1.getD 0 [] := rfl
  rw [e00] at h1 ⊢
  have hn16 := k3 0
  have hn : 0 < (x.2.1.getD 0 []).length := by have : ¬ (((x.2.1.getD 0 []).length : Int) = 0) := by simpa using h1
                                               omega
  obtain ⟨n, hnn⟩ : ∃ n, n = (x.2.1.getD 0 []).length := ⟨_, rfl⟩
  rw [← hnn] at hn hn16
  rw [← hnn, wu_in (by omega) (by omega)]
  obtain ⟨i0, hi0⟩ : ∃ i0 : Nat, (i0 : Int) = Int.tmod y.2.2.1.2.1 (n : Int) := ⟨(Int.tmod y.2.2.1.2.1 (n : Int)).toNat, Int.toNat_of_nonneg (Int.tmod_nonneg _ hW)⟩
  have hilt : i0 < n := by have := Int.tmod_lt_of_pos y.2.2.1.2.1 (show (0 : Int) < n by omega); omega
  rw [← hi0, w64_in (by omega) (by omega)]
  refine T.no (by simp; omega) ?_
  have key : ∀ (d m : Nat) (p : List E), 5 - m = d → m ≤ 5 → p.length = m → (∀ k, k < m → p.getD k z = bitE i0 k) → T (fun k => steeplelaw21_ZeroCorners.l250 k lv x y (i0 : Int) p () ((i0 / 2 ^ m : Nat) : Int)) (fun b => b = true) := by
    intro d
    induction d with
    | zero =>
      intro m p hd hm hpl hpb
      refine T.eq (steeplelaw21_ZeroCorners.l250_eq · lv x y _ p () _) (T.yes (inB_nat (i := 0) hpos) ?_)
      rw [wu_in (show 0 ≤ (p.length : Int) by omega) (by omega)]
      refine T.no (by simp) (T.ite (fun _ => T.no (by simp; omega) ?_) (fun _ => ?_)) <;> exact tail_T lv x y i0 p k1 k2 k3 (by omega) (by omega) (by rw [hpl]; exact hpb)
    | succ d ih =>
      intro m p hd hm hpl hpb
      refine T.eq (steeplelaw21_ZeroCorners.l250_eq · lv x y _ p () _) (T.yes (inB_nat (i := 0) hpos) ?_)
      rw [wu_in (show 0 ≤ (p.length : Int) by omega) (by omega)]
      refine T.no (by simp) (T.ite (fun _ => T.yes (by simp; omega) (T.no (by decide) (T.yes (room_ok (by simp only [List.length_cons, List.length_nil]; omega)) (T.no (by decide) ?_)))) (fun _ => tail_T lv x y i0 p k1 k2 k3 (by omega) (by omega) (by rw [hpl]; exact hpb)))
      have e1 : Int.tdiv ((i0 / 2 ^ m : Nat) : Int) 2 = ((i0 / 2 ^ (m + 1) : Nat) : Int) := by
        rw [Int.tdiv_eq_ediv_of_nonneg (Int.natCast_nonneg _), Nat.pow_succ, ← Nat.div_div_eq_div_mul]; rfl
      have e2 : Int.tmod ((i0 / 2 ^ m : Nat) : Int) 2 = ((i0 / 2 ^ m % 2 : Nat) : Int) := by
        rw [Int.tmod_eq_emod_of_nonneg (Int.natCast_nonneg _)]; rfl
      have hle : i0 / 2 ^ (m + 1) ≤ i0 := Nat.div_le_self _ _
      have e3 : w64 ((i0 / 2 ^ (m + 1) : Nat) : Int) = ((i0 / 2 ^ (m + 1) : Nat) : Int) := by
        generalize i0 / 2 ^ (m + 1) = Q at hle
        exact w64_in (by omega) (by omega)
      have e4 : wu64 ((i0 / 2 ^ m % 2 : Nat) : Int) = ((i0 / 2 ^ m % 2 : Nat) : Int) := by
        have hB : i0 / 2 ^ m % 2 < 2 := Nat.mod_lt _ (by decide)
        generalize i0 / 2 ^ m % 2 = B at hB
        exact wu_in (by omega) (by omega)
      rw [e1, e2, e3, e4]
      refine ih (m + 1) _ (by omega) (by omega) (by rw [List.length_append]; simp only [List.length_cons, List.length_nil]; omega) fun k hk => ?_
      by_cases e : k < m
      · rw [getD_app_l _ _ _ (by omega)]; exact hpb k e
      · have ek : k = p.length + 0 := by omega
        rw [ek, getD_app_r]
        have : k = m := by omega
        have hpm : p.length + 0 = m := by omega
        rw [hpm]
        show ((0 : Int), ((i0 / 2 ^ m % 2 : Nat) : Int), ()) = bitE i0 m
        unfold bitE
        rcases (show i0 / 2 ^ m % 2 = 0 ∨ i0 / 2 ^ m % 2 = 1 by omega) with b | b <;> rw [b] <;> rfl
  have := key 5 0 [] rfl (by omega) rfl (fun k h => absurd h (by omega))
  simpa using this
end Go.Proofs.Ytplmejnoepkdgaa.H1
