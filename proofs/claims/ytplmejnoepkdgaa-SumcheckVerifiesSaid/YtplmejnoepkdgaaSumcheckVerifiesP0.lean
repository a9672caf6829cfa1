/- A walk by reckoning: what a Go function comes to, reckoned out of its operations, and why that is so. -/
import Derived.Test.YtplmejnoepkdgaaSumcheckVerifiesH
import Derived.Test.YtplmejnoepkdgaaRf4
import Derived.IntWalk
set_option linter.unusedVariables false
set_option linter.unusedSimpArgs false
namespace Go.Proofs.Ytplmejnoepkdgaa.H1
open Go Go.Proofs.Ytplmejnoepkdgaa.Rf
/-- What a function comes to, from some fuel on. -/
def Ev {α : Type} (g : Nat → Option α) (r : α) : Prop := ∃ K, ∀ k, K ≤ k → g k = some r
def T {α : Type} (g : Nat → Option α) (p : α → Prop) : Prop := ∃ r, p r ∧ Ev g r
theorem Ev.uniq {α : Type} {g : Nat → Option α} {a b : α} (h : Ev g a) (k : Ev g b) : a = b := by
  obtain ⟨K, hK⟩ := h; obtain ⟨L, hL⟩ := k
  have := (hK (K + L) (Nat.le_add_right _ _)).symm.trans (hL (K + L) (Nat.le_add_left _ _))
  exact Option.some.inj this
theorem T.of {α : Type} {g : Nat → Option α} {p : α → Prop} {a : α} (h : T g p) (k : Ev g a) : p a := by
  obtain ⟨r, h1, h2⟩ := h; rw [k.uniq h2]; exact h1
theorem T.pure {α : Type} {p : α → Prop} {r : α} (h : p r) : T (fun _ => some r) p := ⟨r, h, 0, fun _ _ => rfl⟩
theorem T.mono {α : Type} {g : Nat → Option α} {p q : α → Prop} (h : T g p) (k : ∀ a, p a → q a) : T g q := let ⟨r, h1, h2⟩ := h; ⟨r, k r h1, h2⟩
theorem T.eq {α : Type} {f g : Nat → Option α} {p : α → Prop} (he : ∀ k, f (k + 1) = g k) (h : T g p) : T f p := by
  obtain ⟨r, h1, K, h2⟩ := h
  exact ⟨r, h1, K + 1, fun k hk => by obtain ⟨j, rfl⟩ := Nat.exists_eq_add_of_le hk; rw [show K + 1 + j = (K + j) + 1 by omega, he]; exact h2 _ (Nat.le_add_right _ _)⟩
theorem T.bind {α β : Type} {g : Nat → Option α} {h : Nat → α → Option β} {p : α → Prop} {q : β → Prop} (h1 : T g p) (h2 : ∀ a, p a → T (fun k => h k a) q) : T (fun k => (g k).bind (h k)) q := by
  obtain ⟨a, ha, K, hK⟩ := h1
  obtain ⟨b, hb, L, hL⟩ := h2 a ha
  exact ⟨b, hb, K + L, fun k hk => by show (g k).bind (h k) = _; rw [hK k (by omega)]; exact hL k (by omega)⟩
theorem T.ite {α : Type} {g h : Nat → Option α} {b : Bool} {p : α → Prop} (h1 : b = true → T g p) (h2 : b = false → T h p) : T (fun k => bif b then g k else h k) p := by
  cases b
  · exact h2 rfl
  · exact h1 rfl
theorem T.yes {α : Type} {g h : Nat → Option α} {b : Bool} {p : α → Prop} (hb : b = true) (h1 : T g p) : T (fun k => bif b then g k else h k) p := T.ite (fun _ => h1) (fun h => by rw [hb] at h; cases h)
theorem T.no {α : Type} {g h : Nat → Option α} {b : Bool} {p : α → Prop} (hb : b = false) (h1 : T h p) : T (fun k => bif b then g k else h k) p := T.ite (fun h => by rw [hb] at h; cases h) (fun _ => h1)
/-- A count from one number up to another. -/
theorem T.loop {α σ : Type} {f : Nat → σ → Int → Option α} {p : α → Prop} (n : Nat) (I : σ → Nat → Prop) (body : ∀ s i, i ≤ n → I s i → (∀ s', i < n → I s' (i + 1) → T (fun k => f k s' ((i : Int) + 1)) p) → T (fun k => f k s (i : Int)) p) :
    ∀ (m : Nat) (s : σ) (i : Nat), n - i = m → i ≤ n → I s i → T (fun k => f k s (i : Int)) p := by
  intro m
  induction m with
  | zero => intro s i hm hi hI; exact body s i hi hI (fun s' hlt _ => absurd hlt (by omega))
  | succ m ih => intro s i hm hi hI; exact body s i hi hI (fun s' hlt hI' => by have := ih s' (i + 1) (by omega) (by omega) hI'; simpa using this)
theorem T.loop0 {α σ : Type} {f : Nat → σ → Int → Option α} {p : α → Prop} (n : Nat) (I : σ → Nat → Prop) (s : σ) (h0 : I s 0) (body : ∀ s i, i ≤ n → I s i → (∀ s', i < n → I s' (i + 1) → T (fun k => f k s' ((i : Int) + 1)) p) → T (fun k => f k s (i : Int)) p) :
    T (fun k => f k s 0) p := by
  have := T.loop n I body n s 0 (by omega) (by omega) h0
  simpa using this
theorem w64_in {n : Int} (h1 : -9223372036854775808 ≤ n) (h2 : n ≤ 9223372036854775807) : w64 n = n := Go.IntWalk.i64_in n ⟨h1, h2⟩
theorem inB_nat {i n : Nat} (h : i < n) : inB (i : Int) n = true := by simp [inB]; omega
theorem room_ok {n b : Nat} (h : n * b ≤ 140737488355328) : room n b = true := Nat.ble_eq_true_of_le h
abbrev E := Int × Int × Unit
def z : E := (0, 0, ())
/-- Whether an element is of a level. -/
def ofB (l : Int) (x : E) : Bool :=
  if l < 0 then false else if l > 7 then false else if l = 7 then true else if l = 6 then x.1 == 0 else if x.1 == 0 then (shrI .u64 x.2.1 (shlI .u64 1 l)) == 0 else false
theorem shl_u64_pos {a b : Int} : ¬ shlI .u64 a b < 0 := by
  unfold shlI
  have : IntKind.u64.wrap (a * 2 ^ min b.toNat IntKind.u64.bits) = (a * 2 ^ min b.toNat IntKind.u64.bits) % 2 ^ 64 := by
    unfold IntKind.wrap; simp [IntKind.signed, IntKind.bits]
  rw [this]
  have := Int.emod_nonneg (a * 2 ^ min b.toNat IntKind.u64.bits) (show (2 ^ 64 : Int) ≠ 0 by decide)
  omega
theorem of_T (l : Int) (x : E) : T (fun k => octet_Of.f k l x) (fun b => b = ofB l x) := by
  refine T.eq (octet_Of.f_eq · l x) ?_
  unfold ofB
  by_cases h1 : l < 0
  · exact T.yes (by simp [h1]) (T.pure (by simp [h1]))
  refine T.no (by simp [h1]) ?_
  by_cases h2 : l > 7
  · exact T.yes (by simp [h2]) (T.pure (by simp [h1, h2]))
  refine T.no (by simp [h2]) ?_
  by_cases h3 : l = 7
  · exact T.yes (by simp [h3]) (T.pure (by simp [h1, h2, h3]))
  refine T.no (by simpa using h3) ?_
  by_cases h4 : l = 6
  · exact T.yes (by simp [h4]) (T.pure (by simp [h4]))
  refine T.no (by simpa using h4) (T.ite (fun h => ?_) (fun h => T.pure (by simp [h1, h2, h3, h4, h])))
  exact T.no (by simp [h1]) (T.no (by simpa using shl_u64_pos) (T.pure (by simp [h1, h2, h3, h4, h])))
theorem add_T (a b : E) : T (fun k => tower_Add.f k a b) (fun r => r = (xorI .u64 a.1 b.1, xorI .u64 a.2.1 b.2.1, ())) := T.eq (tower_Add.f_eq · a b) (T.pure rfl)
theorem halves_T {l : Nat} (h1 : 1 ≤ l) (h2 : l ≤ 7) (a : Int) : T (fun k => tower_halves.f k l a) (fun r => a = 0 → r = (0, 0)) := by
  have hl : l = 1 ∨ l = 2 ∨ l = 3 ∨ l = 4 ∨ l = 5 ∨ l = 6 ∨ l = 7 := by omega
  rcases hl with rfl | rfl | rfl | rfl | rfl | rfl | rfl <;>
  exact T.eq (tower_halves.f_eq · _ a) (T.no (by decide) (T.no (by decide) (T.no (by decide) (T.pure (by rintro rfl; decide)))))
theorem join_T {l : Nat} (h1 : 1 ≤ l) (h2 : l ≤ 7) (a b : Int) : T (fun k => tower_join.f k l a b) (fun r => a = 0 → b = 0 → r = 0) := by
  have hl : l = 1 ∨ l = 2 ∨ l = 3 ∨ l = 4 ∨ l = 5 ∨ l = 6 ∨ l = 7 := by omega
  rcases hl with rfl | rfl | rfl | rfl | rfl | rfl | rfl <;>
  exact T.eq (tower_join.f_eq · _ a b) (T.no (by decide) (T.no (by decide) (T.pure (by rintro rfl rfl; decide))))
theorem lev {l : Nat} (h : l ≤ 7) : w64 (((l + 1 : Nat) : Int) - 1) = (l : Int) := by rw [w64_in (by omega) (by omega)]; omega
theorem mulX_T : ∀ (l : Nat), l ≤ 6 → ∀ a, T (fun k => tower_mulX.f k l a) (fun r => a = 0 → r = 0)
  | 0, h, a => T.eq (tower_mulX.f_eq · _ a) (T.yes (by simp) (T.pure id))
  | l + 1, h, a => by
    refine T.eq (tower_mulX.f_eq · _ a) (T.no (by simp; omega) (T.bind (halves_T (by omega) (by omega) a) fun r hr => ?_))
    rw [lev (by omega)]
    refine T.bind (mulX_T l (by omega) r.1) fun s hs => T.bind (join_T (by omega) (by omega) _ _) fun t ht => T.pure fun ha => ?_
    have e := hr ha
    have e1 : r.1 = 0 := by rw [e]
    have e2 : r.2 = 0 := by rw [e]
    exact ht (by rw [e2, hs e1]; decide) e1
theorem and0 (a : Int) : andI .u64 (andI .u64 a 0) 1 = 0 := by
  have e : andI .u64 a 0 = 0 := by unfold andI; simp [IntKind.wrap, IntKind.signed]
  rw [e]; decide
theorem mul_T : ∀ (l : Nat), l ≤ 6 → ∀ a b, T (fun k => tower_mul.f k l a b) (fun r => b = 0 → r = 0)
  | 0, h, a, b => T.eq (tower_mul.f_eq · _ a b) (T.yes (by simp) (T.pure (by rintro rfl; exact and0 a)))
  | l + 1, h, a, b => by
    refine T.eq (tower_mul.f_eq · _ a b) (T.no (by simp; omega) (T.ite (fun _ => T.pure (by rintro rfl; exact and0 a)) fun _ => T.ite (fun _ => T.pure (by rintro rfl; exact and0 a)) fun hb => ?_))
    refine T.bind (halves_T (by omega) (by omega) a) fun r _ => T.bind (halves_T (by omega) (by omega) b) fun s _ => ?_
    rw [lev (by omega)]
    refine T.bind (mul_T l (by omega) _ _) fun t1 _ => T.bind (mul_T l (by omega) _ _) fun t2 _ => T.bind (mul_T l (by omega) _ _) fun t3 _ => T.bind (mulX_T l (by omega) _) fun t4 _ => T.bind (join_T (by omega) (by omega) _ _) fun t5 _ => T.pure fun h0 => ?_
    subst h0; simp at hb
theorem Mul_T (l : Int) (a b : E) : T (fun k => tower_Mul.f k l a b) (fun r => b = z → r = z) := by
  refine T.eq (tower_Mul.f_eq · l a b) (T.bind (of_T l a) fun o1 h1 => T.ite (fun _ => T.pure fun _ => rfl) fun g1 => T.bind (of_T l b) fun o2 h2 => T.ite (fun _ => T.pure fun _ => rfl) fun g2 => ?_)
  have h0 : 0 ≤ l ∧ l ≤ 7 := by
    rw [h1] at g1
    unfold ofB at g1
    by_cases k1 : l < 0
    · simp [k1] at g1
    · by_cases k2 : l > 7
      · simp [k1, k2] at g1
      · omega
  refine T.ite (fun g => ?_) (fun g => ?_)
  · obtain ⟨n, rfl⟩ := Int.eq_ofNat_of_zero_le h0.1
    simp only [decide_eq_true_eq] at g
    exact T.bind (mul_T n (by omega) _ _) fun r hr => T.pure fun hb => by rw [hr (by rw [hb]; rfl)]; rfl
  · refine T.bind (mul_T 6 (by omega) _ _) fun r1 q1 => T.bind (mul_T 6 (by omega) _ _) fun r2 q2 => T.bind (mul_T 6 (by omega) _ _) fun r3 q3 => T.bind (mulX_T 6 (by omega) _) fun r4 q4 => T.pure fun hb => ?_
    subst hb
    have e1 := q1 rfl
    have e2 := q2 rfl
    have e3 := q3 (by decide)
    have e4 := q4 e1
    rw [e1, e2, e3, e4]; decide
end Go.Proofs.Ytplmejnoepkdgaa.H1
namespace Go.Proofs.Ytplmejnoepkdgaa.H1
open Go Go.Proofs.Ytplmejnoepkdgaa.Rf
theorem getD_app_lt {α : Type} (l : List α) (a d : α) {j : Nat} (h : j < l.length) : (l ++ [a]).getD j d = l.getD j d := by
  simp [List.getD_eq_getElem?_getD, List.getElem?_append_left h]
theorem lt_dec {i n : Nat} : decide ((i : Int) < (n : Int)) = true → i < n := fun h => by simpa using h
theorem nlt_dec {i n : Nat} : decide ((i : Int) < (n : Int)) = false → n ≤ i := fun h => by simpa using h
theorem inc {i : Nat} (h : i ≤ 100000000) : w64 ((i : Int) + 1) = (i : Int) + 1 := w64_in (by omega) (by omega)
end Go.Proofs.Ytplmejnoepkdgaa.H1
namespace Go.Proofs.Ytplmejnoepkdgaa.H1
open Go Go.Proofs.Ytplmejnoepkdgaa.Rf
noncomputable def Mv (lv : Int) (a b : E) : E := (Mul_T lv a b).choose
theorem Mv_ev (lv : Int) (a b : E) : Ev (fun k => tower_Mul.f k lv a b) (Mv lv a b) := (Mul_T lv a b).choose_spec.2
theorem Mv_T (lv : Int) (a b : E) : T (fun k => tower_Mul.f k lv a b) (fun r => r = Mv lv a b) := ⟨_, rfl, Mv_ev lv a b⟩
def Av (a b : E) : E := (xorI .u64 a.1 b.1, xorI .u64 a.2.1 b.2.1, ())
theorem take_snoc {α : Type} (l : List α) (d : α) {i : Nat} (h : i < l.length) : l.take (i + 1) = l.take i ++ [l.getD i d] := by
  rw [List.take_add_one, List.getElem?_eq_getElem h, List.getD_eq_getElem?_getD, List.getElem?_eq_getElem h]; rfl
end Go.Proofs.Ytplmejnoepkdgaa.H1
namespace Go.Proofs.Ytplmejnoepkdgaa.H1
open Go Go.Proofs.Ytplmejnoepkdgaa.Rf
theorem set_get {α : Type} (l : List α) (i j : Nat) (a d : α) (hi : i < l.length) : (l.set i a).getD j d = if j = i then a else l.getD j d := by
  by_cases h : j = i
  · subst h; simp [List.getD_eq_getElem?_getD, hi]
  · simp [List.getD_eq_getElem?_getD, h, List.getElem?_set_ne (Ne.symm h)]
end Go.Proofs.Ytplmejnoepkdgaa.H1
namespace Go.Proofs.Ytplmejnoepkdgaa.H1
open Go Go.Proofs.Ytplmejnoepkdgaa.Rf
end Go.Proofs.Ytplmejnoepkdgaa.H1
namespace Go.Proofs.Ytplmejnoepkdgaa.H1
open Go Go.Proofs.Ytplmejnoepkdgaa.Rf
end Go.Proofs.Ytplmejnoepkdgaa.H1
namespace Go.Proofs.Ytplmejnoepkdgaa.H1
open Go Go.Proofs.Ytplmejnoepkdgaa.Rf
end Go.Proofs.Ytplmejnoepkdgaa.H1
namespace Go.Proofs.Ytplmejnoepkdgaa.H1
open Go Go.Proofs.Ytplmejnoepkdgaa.Rf
def rng (n : Int) : Prop := 0 ≤ n ∧ n < 18446744073709551616
theorem wrap_rng (n : Int) : rng (IntKind.u64.wrap n) := by
  have : IntKind.u64.wrap n = n % 18446744073709551616 := by unfold IntKind.wrap; simp [IntKind.signed, IntKind.bits]
  rw [this]; exact ⟨Int.emod_nonneg _ (by decide), Int.emod_lt_of_pos _ (by decide)⟩
theorem wrap_in {n : Int} (h : rng n) : IntKind.u64.wrap n = n := by
  have : IntKind.u64.wrap n = n % 18446744073709551616 := by unfold IntKind.wrap; simp [IntKind.signed, IntKind.bits]
  rw [this]; exact Int.emod_eq_of_lt h.1 h.2
theorem xor_rng (a b : Int) : rng (xorI .u64 a b) := wrap_rng _
theorem ofInt_nat {n : Int} (h : rng n) : ((BitVec.ofInt 64 n).toNat : Int) = n := by
  rw [BitVec.toNat_ofInt]
  obtain ⟨h1, h2⟩ := h
  have : n % ((2 ^ 64 : Nat) : Int) = n := Int.emod_eq_of_lt h1 (by simpa using h2)
  rw [this]; omega
theorem xor_zl {n : Int} (h : rng n) : xorI .u64 0 n = n := by
  unfold xorI
  have e : IntKind.u64.bits = 64 := rfl
  rw [e, show BitVec.ofInt 64 0 = 0#64 by decide, BitVec.zero_xor, ofInt_nat h]; exact wrap_in h
def rngE (x : E) : Prop := rng x.1 ∧ rng x.2.1
theorem rngE_z : rngE z := ⟨⟨by decide, by decide⟩, by decide, by decide⟩
theorem Av_zl {x : E} (h : rngE x) : Av z x = x := Prod.ext (xor_zl h.1) (Prod.ext (xor_zl h.2) rfl)
def one : E := (0, 1, ())
theorem ofB_bit {lv : Int} (h1 : 0 ≤ lv) (h2 : lv ≤ 7) : ofB lv z = true ∧ ofB lv one = true := by
  have hl : lv = 0 ∨ lv = 1 ∨ lv = 2 ∨ lv = 3 ∨ lv = 4 ∨ lv = 5 ∨ lv = 6 ∨ lv = 7 := by omega
  rcases hl with rfl | rfl | rfl | rfl | rfl | rfl | rfl | rfl <;> decide
end Go.Proofs.Ytplmejnoepkdgaa.H1
namespace Go.Proofs.Ytplmejnoepkdgaa.H1
open Go Go.Proofs.Ytplmejnoepkdgaa.Rf
/-- All elements are of a level. -/
def allOf (lv : Int) (l : List E) : Prop := ∀ j, j < l.length → ofB lv (l.getD j z) = true
theorem of1_S (x : E) (lv : Int) : T (fun k => sumcheck_of_1.f k x lv) (fun b => b = !ofB lv x) := T.eq (sumcheck_of_1.f_eq · x lv) (T.bind (of_T lv x) fun b hb => T.pure (by rw [hb]))
end Go.Proofs.Ytplmejnoepkdgaa.H1
namespace Go.Proofs.Ytplmejnoepkdgaa.H1
open Go Go.Proofs.Ytplmejnoepkdgaa.Rf
def fold (f : Nat → E) : Nat → E
  | 0 => z
  | n + 1 => Av (fold f n) (f n)
end Go.Proofs.Ytplmejnoepkdgaa.H1
namespace Go.Proofs.Ytplmejnoepkdgaa.H1
open Go Go.Proofs.Ytplmejnoepkdgaa.Rf
theorem Ev.T {α : Type} {g : Nat → Option α} {a : α} (h : Ev g a) : T g (fun r => r = a) := ⟨a, rfl, h⟩
theorem shl_pow {m : Nat} (h : m ≤ 6) : shlI .i64 1 (m : Int) = ((2 ^ m : Nat) : Int) := by
  have hl : m = 0 ∨ m = 1 ∨ m = 2 ∨ m = 3 ∨ m = 4 ∨ m = 5 ∨ m = 6 := by omega
  rcases hl with rfl | rfl | rfl | rfl | rfl | rfl | rfl <;> decide
theorem wu_in {n : Int} (h1 : 0 ≤ n) (h2 : n < 18446744073709551616) : wu64 n = n := wrap_in ⟨h1, h2⟩
end Go.Proofs.Ytplmejnoepkdgaa.H1
namespace Go.Proofs.Ytplmejnoepkdgaa.Tow
/-- Words of a level, times the level's generator. -/
def mulX : Nat → Nat → Nat
  | 0, a => a
  | l + 1, a => (((a &&& (2 ^ 2 ^ l - 1)) ^^^ mulX l (a >>> 2 ^ l)) <<< 2 ^ l) ^^^ (a >>> 2 ^ l)
/-- The product of words of a level. -/
def mul : Nat → Nat → Nat → Nat
  | 0, a, b => a &&& b &&& 1
  | l + 1, a, b =>
    match Nat.beq a 0 || Nat.beq b 0 with
    | true => 0
    | false =>
      ((mul l ((a >>> 2 ^ l) ^^^ (a &&& (2 ^ 2 ^ l - 1))) ((b >>> 2 ^ l) ^^^ (b &&& (2 ^ 2 ^ l - 1))) ^^^ mul l (a >>> 2 ^ l) (b >>> 2 ^ l) ^^^ mul l (a &&& (2 ^ 2 ^ l - 1)) (b &&& (2 ^ 2 ^ l - 1)) ^^^ mulX l (mul l (a >>> 2 ^ l) (b >>> 2 ^ l))) <<< 2 ^ l)
        ^^^ (mul l (a &&& (2 ^ 2 ^ l - 1)) (b &&& (2 ^ 2 ^ l - 1)) ^^^ mul l (a >>> 2 ^ l) (b >>> 2 ^ l))
theorem mulX0 : ∀ l, mulX l 0 = 0
  | 0 => rfl
  | l + 1 => by simp [mulX, mulX0 l]
theorem mul0l : ∀ l b, mul l 0 b = 0
  | 0, b => by simp [mul]
  | l + 1, b => rfl
theorem mul0r : ∀ l a, mul l a 0 = 0
  | 0, a => by simp [mul]
  | l + 1, a => by
    unfold mul
    have : (Nat.beq a 0 || Nat.beq 0 0) = true := by simp
    rw [this]
theorem mul_eq (l a b : Nat) : mul (l + 1) a b =
      ((mul l ((a >>> 2 ^ l) ^^^ (a &&& (2 ^ 2 ^ l - 1))) ((b >>> 2 ^ l) ^^^ (b &&& (2 ^ 2 ^ l - 1))) ^^^ mul l (a >>> 2 ^ l) (b >>> 2 ^ l) ^^^ mul l (a &&& (2 ^ 2 ^ l - 1)) (b &&& (2 ^ 2 ^ l - 1)) ^^^ mulX l (mul l (a >>> 2 ^ l) (b >>> 2 ^ l))) <<< 2 ^ l)
        ^^^ (mul l (a &&& (2 ^ 2 ^ l - 1)) (b &&& (2 ^ 2 ^ l - 1)) ^^^ mul l (a >>> 2 ^ l) (b >>> 2 ^ l)) := by
  by_cases ha : a = 0
  · subst ha
    simp [mul0l, mulX0]
  · by_cases hb : b = 0
    · subst hb
      simp [mul0r, mulX0]
    · cases a with
      | zero => exact absurd rfl ha
      | succ a =>
        cases b with
        | zero => exact absurd rfl hb
        | succ b => rfl
theorem mulX_xor : ∀ l a b, mulX l (a ^^^ b) = mulX l a ^^^ mulX l b
  | 0, a, b => rfl
  | l + 1, a, b => by
    simp only [mulX, Nat.shiftRight_xor_distrib, Nat.and_xor_distrib_right, mulX_xor l, Nat.shiftLeft_xor_distrib]
    ac_rfl
theorem mul_xorl : ∀ l a a' b, mul l (a ^^^ a') b = mul l a b ^^^ mul l a' b
  | 0, a, a', b => by simp only [mul, Nat.and_xor_distrib_right]
  | l + 1, a, a', b => by
    have e : ((a ^^^ a') >>> 2 ^ l) ^^^ ((a ^^^ a') &&& (2 ^ 2 ^ l - 1)) = ((a >>> 2 ^ l) ^^^ (a &&& (2 ^ 2 ^ l - 1))) ^^^ ((a' >>> 2 ^ l) ^^^ (a' &&& (2 ^ 2 ^ l - 1))) := by
      simp only [Nat.shiftRight_xor_distrib, Nat.and_xor_distrib_right]; ac_rfl
    simp only [mul_eq, e]
    simp only [Nat.shiftRight_xor_distrib, Nat.and_xor_distrib_right, mul_xorl l, mulX_xor, Nat.shiftLeft_xor_distrib]
    ac_rfl
theorem mul_xorr : ∀ l a b b', mul l a (b ^^^ b') = mul l a b ^^^ mul l a b'
  | 0, a, b, b' => by simp only [mul, Nat.and_xor_distrib_left, Nat.and_xor_distrib_right]
  | l + 1, a, b, b' => by
    have e : ((b ^^^ b') >>> 2 ^ l) ^^^ ((b ^^^ b') &&& (2 ^ 2 ^ l - 1)) = ((b >>> 2 ^ l) ^^^ (b &&& (2 ^ 2 ^ l - 1))) ^^^ ((b' >>> 2 ^ l) ^^^ (b' &&& (2 ^ 2 ^ l - 1))) := by
      simp only [Nat.shiftRight_xor_distrib, Nat.and_xor_distrib_right]; ac_rfl
    simp only [mul_eq, e]
    simp only [Nat.shiftRight_xor_distrib, Nat.and_xor_distrib_right, mul_xorr l, mulX_xor, Nat.shiftLeft_xor_distrib]
    ac_rfl
theorem xor_low {n r : Nat} (h : r < 2 ^ n) : 2 ^ n + r = 2 ^ n ^^^ r := by
  have h2 := Nat.two_pow_add_eq_or_of_lt h 1
  rw [Nat.mul_one] at h2
  rw [h2]
  apply Nat.eq_of_testBit_eq
  intro i
  rw [Nat.testBit_or, Nat.testBit_xor, Nat.testBit_two_pow]
  by_cases e : n = i
  · subst e
    rw [Nat.testBit_lt_two_pow h]; simp
  · simp [e]
/-- What is a sum's sum is told by single bits. -/
theorem by_bits (f g : Nat → Nat) (hf : ∀ x y, f (x ^^^ y) = f x ^^^ f y) (hg : ∀ x y, g (x ^^^ y) = g x ^^^ g y) : ∀ n, (∀ i, i < n → f (2 ^ i) = g (2 ^ i)) → ∀ a, a < 2 ^ n → f a = g a
  | 0, _, a, ha => by
    have : a = 0 := by simpa using ha
    subst this
    have e1 := hf 0 0
    have e2 := hg 0 0
    simp only [Nat.xor_self] at e1 e2
    rw [e1, e2]
  | n + 1, h, a, ha => by
    have ih := by_bits f g hf hg n (fun i hi => h i (by omega))
    by_cases hb : a < 2 ^ n
    · exact ih a hb
    · have hlow : a - 2 ^ n < 2 ^ n := by rw [Nat.pow_succ] at ha; omega
      have e : a = 2 ^ n ^^^ (a - 2 ^ n) := by
        have h1 : 2 ^ n + (a - 2 ^ n) = a := by omega
        rw [← xor_low hlow, h1]
      rw [e, hf, hg, h n (by omega), ih _ hlow]
theorem xor_shl {w x y : Nat} (h : y < 2 ^ w) : x <<< w + y = x <<< w ^^^ y := by
  rw [Nat.shiftLeft_eq, Nat.mul_comm, Nat.two_pow_add_eq_or_of_lt h x]
  apply Nat.eq_of_testBit_eq
  intro i
  rw [Nat.testBit_or, Nat.testBit_xor]
  by_cases e : i < w
  · have : (2 ^ w * x).testBit i = false := by
      rw [Nat.mul_comm, ← Nat.shiftLeft_eq, Nat.testBit_shiftLeft]; simp; omega
    rw [this]; simp
  · have : y.testBit i = false := Nat.testBit_lt_two_pow (Nat.lt_of_lt_of_le h (Nat.pow_le_pow_right (by decide) (by omega)))
    rw [this]; simp
/-- A word's halves. -/
theorem halves (w a : Nat) : a = (a >>> w) <<< w ^^^ (a &&& (2 ^ w - 1)) := by
  have hlt : a &&& (2 ^ w - 1) < 2 ^ w := by rw [Nat.and_two_pow_sub_one_eq_mod]; exact Nat.mod_lt _ (Nat.two_pow_pos w)
  rw [← xor_shl hlt, Nat.and_two_pow_sub_one_eq_mod, Nat.shiftLeft_eq, Nat.shiftRight_eq_div_pow]
  rw [Nat.mul_comm]; exact (Nat.div_add_mod a (2 ^ w)).symm
theorem lo_lt (w a : Nat) : a &&& (2 ^ w - 1) < 2 ^ w := by rw [Nat.and_two_pow_sub_one_eq_mod]; exact Nat.mod_lt _ (Nat.two_pow_pos w)
theorem hi_lt {w a : Nat} (h : a < 2 ^ (w + w)) : a >>> w < 2 ^ w := by
  rw [Nat.shiftRight_eq_div_pow, Nat.div_lt_iff_lt_mul (Nat.two_pow_pos w), ← Nat.pow_add]; exact h
theorem hi_of {w x y : Nat} (h : y < 2 ^ w) : (x <<< w ^^^ y) >>> w = x := by
  rw [← xor_shl h, Nat.shiftRight_eq_div_pow, Nat.shiftLeft_eq, Nat.add_comm, Nat.add_mul_div_right _ _ (Nat.two_pow_pos w), Nat.div_eq_of_lt h, Nat.zero_add]
theorem lo_of {w x y : Nat} (h : y < 2 ^ w) : (x <<< w ^^^ y) &&& (2 ^ w - 1) = y := by
  rw [← xor_shl h, Nat.and_two_pow_sub_one_eq_mod, Nat.shiftLeft_eq, Nat.add_comm, Nat.add_mul_mod_self_right, Nat.mod_eq_of_lt h]
theorem cat_lt {w x y : Nat} (hx : x < 2 ^ w) (hy : y < 2 ^ w) : x <<< w ^^^ y < 2 ^ (w + w) := by
  rw [← xor_shl hy, Nat.shiftLeft_eq, Nat.pow_add]
  have : (x + 1) * 2 ^ w ≤ 2 ^ w * 2 ^ w := Nat.mul_le_mul_right _ hx
  rw [Nat.add_mul] at this; omega
theorem two_two (l : Nat) : 2 ^ 2 ^ (l + 1) = 2 ^ (2 ^ l + 2 ^ l) := by rw [Nat.pow_succ, Nat.mul_two]
theorem mulX_lt : ∀ (l : Nat) (a : Nat), a < 2 ^ 2 ^ l → mulX l a < 2 ^ 2 ^ l
  | 0, a, h => h
  | l + 1, a, h => by
    rw [two_two] at h ⊢
    exact cat_lt (Nat.xor_lt_two_pow (lo_lt _ _) (mulX_lt l _ (hi_lt h))) (hi_lt h)
theorem mul_lt : ∀ (l : Nat) (a b : Nat), a < 2 ^ 2 ^ l → b < 2 ^ 2 ^ l → mul l a b < 2 ^ 2 ^ l
  | 0, a, b, _, _ => by
    simp only [mul]
    have : a &&& b &&& 1 ≤ 1 := Nat.and_le_right
    have e : (2 : Nat) ^ 2 ^ 0 = 2 := rfl
    omega
  | l + 1, a, b, ha, hb => by
    rw [two_two] at ha hb ⊢
    rw [mul_eq]
    have h1 := hi_lt ha
    have h2 := hi_lt hb
    have h3 := lo_lt (2 ^ l) a
    have h4 := lo_lt (2 ^ l) b
    have hh := mul_lt l _ _ h1 h2
    have hl := mul_lt l _ _ h3 h4
    have hm := mul_lt l _ _ (Nat.xor_lt_two_pow h1 h3) (Nat.xor_lt_two_pow h2 h4)
    exact cat_lt (Nat.xor_lt_two_pow (Nat.xor_lt_two_pow (Nat.xor_lt_two_pow hm hh) hl) (mulX_lt l _ hh)) (Nat.xor_lt_two_pow hl hh)
/-- A lower level's words multiply as before. -/
theorem mul_up {l a b : Nat} (ha : a < 2 ^ 2 ^ l) (hb : b < 2 ^ 2 ^ l) : mul (l + 1) a b = mul l a b := by
  rw [mul_eq]
  have h1 : a >>> 2 ^ l = 0 := by rw [Nat.shiftRight_eq_div_pow]; exact Nat.div_eq_of_lt ha
  have h2 : b >>> 2 ^ l = 0 := by rw [Nat.shiftRight_eq_div_pow]; exact Nat.div_eq_of_lt hb
  have h3 : a &&& (2 ^ 2 ^ l - 1) = a := by rw [Nat.and_two_pow_sub_one_eq_mod]; exact Nat.mod_eq_of_lt ha
  have h4 : b &&& (2 ^ 2 ^ l - 1) = b := by rw [Nat.and_two_pow_sub_one_eq_mod]; exact Nat.mod_eq_of_lt hb
  rw [h1, h2, h3, h4]
  simp [mul0l, mulX0]
end Go.Proofs.Ytplmejnoepkdgaa.Tow
namespace Go.Proofs.Ytplmejnoepkdgaa.Tow
def msk : Nat → Nat
  | 0 => 0x5555555555555555 | 1 => 0x3333333333333333 | 2 => 0x0f0f0f0f0f0f0f0f | 3 => 0x00ff00ff00ff00ff | 4 => 0x0000ffff0000ffff | 5 => 0x00000000ffffffff | _ => 0
/-- A word's blocks, times their generator; the word itself for 0. -/
def tw : Nat → Nat → Nat
  | 0, v => v
  | j + 1, v => (((v &&& msk j) ^^^ tw j ((v >>> 2 ^ j) &&& msk j)) <<< 2 ^ j) ^^^ ((v >>> 2 ^ j) &&& msk j)
theorem tw_xor : ∀ j a b, tw j (a ^^^ b) = tw j a ^^^ tw j b
  | 0, a, b => rfl
  | j + 1, a, b => by
    simp only [tw, Nat.shiftRight_xor_distrib, Nat.and_xor_distrib_right, tw_xor j, Nat.shiftLeft_xor_distrib]
    ac_rfl
def M64 : Nat := 2 ^ 64 - 1
/-- An element of 128 bits times a generator. -/
def times (j e : Nat) : Nat :=
  match Nat.blt j 6 with
  | true => (tw (j + 1) (e >>> 64) <<< 64) ^^^ tw (j + 1) (e &&& M64)
  | false => (((e &&& M64) ^^^ tw 6 (e >>> 64)) <<< 64) ^^^ (e >>> 64)
theorem x4 (p q r s : Nat) : (p ^^^ q) ^^^ (r ^^^ s) = (p ^^^ r) ^^^ (q ^^^ s) := by ac_rfl
theorem timesL_xor (j a b : Nat) : (tw (j + 1) ((a ^^^ b) >>> 64) <<< 64) ^^^ tw (j + 1) ((a ^^^ b) &&& M64) = ((tw (j + 1) (a >>> 64) <<< 64) ^^^ tw (j + 1) (a &&& M64)) ^^^ ((tw (j + 1) (b >>> 64) <<< 64) ^^^ tw (j + 1) (b &&& M64)) := by
  rw [Nat.shiftRight_xor_distrib, Nat.and_xor_distrib_right, tw_xor, tw_xor, Nat.shiftLeft_xor_distrib]
  exact x4 _ _ _ _
theorem timesH_xor (a b : Nat) : ((((a ^^^ b) &&& M64) ^^^ tw 6 ((a ^^^ b) >>> 64)) <<< 64) ^^^ ((a ^^^ b) >>> 64) = ((((a &&& M64) ^^^ tw 6 (a >>> 64)) <<< 64) ^^^ (a >>> 64)) ^^^ ((((b &&& M64) ^^^ tw 6 (b >>> 64)) <<< 64) ^^^ (b >>> 64)) := by
  rw [Nat.shiftRight_xor_distrib, Nat.and_xor_distrib_right, tw_xor, x4, Nat.shiftLeft_xor_distrib]
  exact x4 _ _ _ _
theorem times_xor (j a b : Nat) : times j (a ^^^ b) = times j a ^^^ times j b := by
  unfold times
  cases Nat.blt j 6 with
  | true => exact timesL_xor j a b
  | false => exact timesH_xor a b
/-- .. times the generators that a number's bits name, from the one on. -/
def timesFrom : Nat → Nat → Nat → Nat → Nat
  | 0, _, _, e => e
  | f + 1, j, n, e => timesFrom f (j + 1) n (match Nat.beq ((n >>> j) % 2) 1 with | true => times j e | false => e)
def timesAll (n e : Nat) : Nat := timesFrom 7 0 n e
theorem timesFrom_xor : ∀ f j n a b, timesFrom f j n (a ^^^ b) = timesFrom f j n a ^^^ timesFrom f j n b
  | 0, j, n, a, b => rfl
  | f + 1, j, n, a, b => by
    simp only [timesFrom]
    cases Nat.beq ((n >>> j) % 2) 1
    · exact timesFrom_xor f (j + 1) n a b
    · simp only [times_xor]; exact timesFrom_xor f (j + 1) n _ _
theorem timesAll_xor (n a b : Nat) : timesAll n (a ^^^ b) = timesAll n a ^^^ timesAll n b := timesFrom_xor 7 0 n a b
/-- The document's product. -/
def prodTo : Nat → Nat → Nat → Nat
  | 0, _, _ => 0
  | n + 1, a, b => prodTo n a b ^^^ (match b.testBit n with | true => timesAll n a | false => 0)
theorem xor_four (p q : Bool) (x y t : Nat) : x ^^^ y ^^^ (match (p ^^ q) with | true => t | false => 0) = x ^^^ (match p with | true => t | false => 0) ^^^ (y ^^^ (match q with | true => t | false => 0)) := by
  cases p <;> cases q <;> simp
  · rw [Nat.xor_assoc]
  · rw [Nat.xor_assoc, Nat.xor_assoc, Nat.xor_comm y]
  · have e : x ^^^ t ^^^ (y ^^^ t) = (x ^^^ y) ^^^ (t ^^^ t) := by ac_rfl
    rw [e, Nat.xor_self, Nat.xor_zero]
theorem prodTo_xorr : ∀ n a b b', prodTo n a (b ^^^ b') = prodTo n a b ^^^ prodTo n a b'
  | 0, a, b, b' => by simp [prodTo]
  | n + 1, a, b, b' => by
    simp only [prodTo, prodTo_xorr n, Nat.testBit_xor]
    exact xor_four _ _ _ _ _
theorem prodTo_bit : ∀ n a j, prodTo n a (2 ^ j) = if j < n then timesAll j a else 0
  | 0, a, j => rfl
  | n + 1, a, j => by
    rw [prodTo, prodTo_bit n, Nat.testBit_two_pow]
    by_cases e : j = n
    · subst e; simp
    · have : (decide (j = n)) = false := by simpa using e
      rw [this]
      by_cases h : j < n
      · rw [if_pos h, if_pos (by omega)]; simp
      · rw [if_neg h, if_neg (by omega)]; simp
/-- What is checked bit by bit. -/
def allB : Nat → (Nat → Bool) → Bool
  | 0, _ => true
  | n + 1, p => p n && allB n p
theorem allB_spec : ∀ n p, allB n p = true → ∀ i, i < n → p i = true
  | 0, p, h, i, hi => absurd hi (Nat.not_lt_zero i)
  | n + 1, p, h, i, hi => by
    simp only [allB, Bool.and_eq_true] at h
    by_cases e : i = n
    · subst e; exact h.1
    · exact allB_spec n p h.2 i (by omega)
def chkShift (l : Nat) : Bool := allB (2 ^ l) fun j => allB (2 ^ l) fun i => Nat.beq (timesAll j ((2 ^ i) <<< 2 ^ l)) (timesAll j (2 ^ i) <<< 2 ^ l)
def chkGen (l : Nat) : Bool := allB (2 ^ l) fun i => Nat.beq (times l (2 ^ i)) ((2 ^ i) <<< 2 ^ l) && Nat.beq (times l ((2 ^ i) <<< 2 ^ l)) ((mulX l (2 ^ i) <<< 2 ^ l) ^^^ 2 ^ i)
theorem shift0 : chkShift 0 = true := by decide +kernel
theorem shift1 : chkShift 1 = true := by decide +kernel
theorem shift2 : chkShift 2 = true := by decide +kernel
theorem shift3 : chkShift 3 = true := by decide +kernel
theorem shift4 : chkShift 4 = true := by decide +kernel
theorem shift5 : chkShift 5 = true := by decide +kernel
theorem shift6 : chkShift 6 = true := by decide +kernel
theorem gen0 : chkGen 0 = true := by decide +kernel
theorem gen1 : chkGen 1 = true := by decide +kernel
theorem gen2 : chkGen 2 = true := by decide +kernel
theorem gen3 : chkGen 3 = true := by decide +kernel
theorem gen4 : chkGen 4 = true := by decide +kernel
theorem gen5 : chkGen 5 = true := by decide +kernel
theorem gen6 : chkGen 6 = true := by decide +kernel
theorem shift_ok {l : Nat} (hl : l ≤ 6) : chkShift l = true := by
  have h : l = 0 ∨ l = 1 ∨ l = 2 ∨ l = 3 ∨ l = 4 ∨ l = 5 ∨ l = 6 := by omega
  rcases h with rfl | rfl | rfl | rfl | rfl | rfl | rfl
  · exact shift0
  · exact shift1
  · exact shift2
  · exact shift3
  · exact shift4
  · exact shift5
  · exact shift6
theorem gen_ok {l : Nat} (hl : l ≤ 6) : chkGen l = true := by
  have h : l = 0 ∨ l = 1 ∨ l = 2 ∨ l = 3 ∨ l = 4 ∨ l = 5 ∨ l = 6 := by omega
  rcases h with rfl | rfl | rfl | rfl | rfl | rfl | rfl
  · exact gen0
  · exact gen1
  · exact gen2
  · exact gen3
  · exact gen4
  · exact gen5
  · exact gen6
theorem timesAll_shift {l j x : Nat} (hl : l ≤ 6) (hj : j < 2 ^ l) (hx : x < 2 ^ 2 ^ l) : timesAll j (x <<< 2 ^ l) = timesAll j x <<< 2 ^ l := by
  refine by_bits (fun x => timesAll j (x <<< 2 ^ l)) (fun x => timesAll j x <<< 2 ^ l) (fun x y => ?_) (fun x y => ?_) (2 ^ l) (fun i hi => ?_) x hx
  · simp only [Nat.shiftLeft_xor_distrib, timesAll_xor]
  · simp only [timesAll_xor, Nat.shiftLeft_xor_distrib]
  · exact Nat.eq_of_beq_eq_true (allB_spec _ _ (allB_spec _ _ (shift_ok hl) j hj) i hi)
theorem times_gen {l hi lo : Nat} (hl : l ≤ 6) (h1 : hi < 2 ^ 2 ^ l) (h2 : lo < 2 ^ 2 ^ l) : times l (hi <<< 2 ^ l ^^^ lo) = ((lo ^^^ mulX l hi) <<< 2 ^ l) ^^^ hi := by
  have a1 : times l lo = lo <<< 2 ^ l := by
    refine by_bits (fun x => times l x) (fun x => x <<< 2 ^ l) (times_xor l) (fun x y => Nat.shiftLeft_xor_distrib) (2 ^ l) (fun i hi => ?_) lo h2
    have := allB_spec _ _ (gen_ok hl) i hi
    simp only [Bool.and_eq_true] at this
    exact Nat.eq_of_beq_eq_true this.1
  have a2 : times l (hi <<< 2 ^ l) = (mulX l hi <<< 2 ^ l) ^^^ hi := by
    refine by_bits (fun x => times l (x <<< 2 ^ l)) (fun x => (mulX l x <<< 2 ^ l) ^^^ x) (fun x y => ?_) (fun x y => ?_) (2 ^ l) (fun i hi => ?_) hi h1
    · simp only [Nat.shiftLeft_xor_distrib, times_xor]
    · simp only [mulX_xor, Nat.shiftLeft_xor_distrib]; ac_rfl
    · have := allB_spec _ _ (gen_ok hl) i hi
      simp only [Bool.and_eq_true] at this
      exact Nat.eq_of_beq_eq_true this.2
  rw [times_xor, a1, a2, Nat.shiftLeft_xor_distrib]
  ac_rfl
end Go.Proofs.Ytplmejnoepkdgaa.Tow
namespace Go.Proofs.Ytplmejnoepkdgaa.Tow
theorem bit_hi {l j k : Nat} (hj : j < 2 ^ l) (hk : l ≤ k) : (j >>> k) % 2 = 0 := by
  rw [Nat.shiftRight_eq_div_pow, Nat.div_eq_of_lt (Nat.lt_of_lt_of_le hj (Nat.pow_le_pow_right (by decide) hk))]
theorem bit_top {l j : Nat} (hj : j < 2 ^ l) : ((2 ^ l + j) >>> l) % 2 = 1 := by
  rw [Nat.shiftRight_eq_div_pow, Nat.add_comm, Nat.add_div_right _ (Nat.two_pow_pos l), Nat.div_eq_of_lt hj]
theorem bit_lo {l j k : Nat} (hk : k < l) : ((2 ^ l + j) >>> k) % 2 = (j >>> k) % 2 := by
  rw [Nat.shiftRight_eq_div_pow, Nat.shiftRight_eq_div_pow]
  have e : 2 ^ l = 2 ^ k * (2 * 2 ^ (l - k - 1)) := by rw [← Nat.pow_succ', ← Nat.pow_add]; congr 1; omega
  rw [e, Nat.mul_comm, Nat.add_comm, Nat.add_mul_div_right _ _ (Nat.two_pow_pos k), Nat.add_mul_mod_self_left]
theorem bit_over {l j k : Nat} (hj : j < 2 ^ l) (hk : l < k) : ((2 ^ l + j) >>> k) % 2 = 0 := by
  have : 2 ^ l + j < 2 ^ (l + 1) := by rw [Nat.pow_succ]; omega
  exact bit_hi this hk
/-- Bits from one on that are none. -/
theorem timesFrom_none : ∀ f k n e, (∀ i, k ≤ i → (n >>> i) % 2 = 0) → timesFrom f k n e = e
  | 0, k, n, e, h => rfl
  | f + 1, k, n, e, h => by
    rw [timesFrom, h k (Nat.le_refl k)]
    exact timesFrom_none f (k + 1) n e fun i hi => h i (by omega)
theorem timesFrom_top {l j : Nat} (hj : j < 2 ^ l) : ∀ f k e, k ≤ l → l < k + f → timesFrom f k (2 ^ l + j) e = times l (timesFrom f k j e)
  | 0, k, e, h1, h2 => by omega
  | f + 1, k, e, h1, h2 => by
    rw [timesFrom, timesFrom]
    by_cases h : k = l
    · subst h
      rw [bit_top hj, bit_hi hj (Nat.le_refl k)]
      show timesFrom f (k + 1) _ (times k e) = times k (timesFrom f (k + 1) j e)
      rw [timesFrom_none f (k + 1) _ _ fun i hi => bit_over hj (by omega), timesFrom_none f (k + 1) j e fun i hi => bit_hi hj (by omega)]
    · rw [bit_lo (show k < l by omega)]
      exact timesFrom_top hj f (k + 1) _ (by omega) (by omega)
theorem timesAll_top {l j : Nat} (hl : l ≤ 6) (hj : j < 2 ^ l) (e : Nat) : timesAll (2 ^ l + j) e = times l (timesAll j e) := timesFrom_top hj 7 0 e (by omega) (by omega)
theorem and_low {b w : Nat} (h : b < 2 ^ w) : b &&& (2 ^ w - 1) = b := by rw [Nat.and_two_pow_sub_one_eq_mod]; exact Nat.mod_eq_of_lt h
theorem shr_low {b w : Nat} (h : b < 2 ^ w) : b >>> w = 0 := by rw [Nat.shiftRight_eq_div_pow]; exact Nat.div_eq_of_lt h
theorem mul_low {l a b : Nat} (h : b < 2 ^ 2 ^ l) : mul (l + 1) a b = mul l (a >>> 2 ^ l) b <<< 2 ^ l ^^^ mul l (a &&& (2 ^ 2 ^ l - 1)) b := by
  rw [mul_eq, and_low h, shr_low h, mul0r, mulX0, Nat.zero_xor, Nat.xor_zero, Nat.xor_zero, Nat.xor_zero, mul_xorl, Nat.xor_assoc, Nat.xor_self, Nat.xor_zero]
theorem mul_high {l a b : Nat} (h : b < 2 ^ 2 ^ l) : mul (l + 1) a (b <<< 2 ^ l) = (mul l (a &&& (2 ^ 2 ^ l - 1)) b ^^^ mulX l (mul l (a >>> 2 ^ l) b)) <<< 2 ^ l ^^^ mul l (a >>> 2 ^ l) b := by
  have e1 : (b <<< 2 ^ l) >>> 2 ^ l = b := Nat.shiftLeft_shiftRight b _
  have e2 : (b <<< 2 ^ l) &&& (2 ^ 2 ^ l - 1) = 0 := by rw [Nat.and_two_pow_sub_one_eq_mod, Nat.shiftLeft_eq]; exact Nat.mul_mod_left _ _
  rw [mul_eq, e1, e2, mul0r, Nat.xor_zero, Nat.xor_zero, Nat.zero_xor, mul_xorl]
  have : ∀ p q : Nat, p ^^^ q ^^^ p = q := fun p q => by rw [Nat.xor_comm p q, Nat.xor_assoc, Nat.xor_self, Nat.xor_zero]
  rw [this]
theorem timesAll_mul : ∀ (l j a : Nat), l ≤ 7 → j < 2 ^ l → a < 2 ^ 2 ^ l → timesAll j a = mul l a (2 ^ j)
  | 0, j, a, hl, hj, ha => by
    have hj0 : j = 0 := by simpa using hj
    subst hj0
    have h2 : a < 2 := ha
    rcases (show a = 0 ∨ a = 1 by omega) with rfl | rfl <;> decide
  | l + 1, j, a, hl, hj, ha => by
    rw [two_two] at ha
    have h1 := hi_lt ha
    have h2 := lo_lt (2 ^ l) a
    have split : ∀ j, j < 2 ^ l → timesAll j a = mul l (a >>> 2 ^ l) (2 ^ j) <<< 2 ^ l ^^^ mul l (a &&& (2 ^ 2 ^ l - 1)) (2 ^ j) := fun j hj => by
      rw [halves (2 ^ l) a, timesAll_xor, timesAll_shift (by omega) hj h1, timesAll_mul l j _ (by omega) hj h1, timesAll_mul l j _ (by omega) hj h2, ← halves (2 ^ l) a]
    rw [Nat.pow_succ, Nat.mul_two] at hj
    by_cases h : j < 2 ^ l
    · have hb : 2 ^ j < 2 ^ 2 ^ l := Nat.pow_lt_pow_right (by decide) h
      rw [split j h, mul_low hb]
    · obtain ⟨j', rfl⟩ : ∃ j', j = 2 ^ l + j' := ⟨j - 2 ^ l, by omega⟩
      have hj' : j' < 2 ^ l := by omega
      have hb : 2 ^ j' < 2 ^ 2 ^ l := Nat.pow_lt_pow_right (by decide) hj'
      rw [timesAll_top (by omega) hj', split j' hj', times_gen (by omega) (mul_lt l _ _ h1 hb) (mul_lt l _ _ h2 hb)]
      have e : 2 ^ (2 ^ l + j') = (2 ^ j') <<< 2 ^ l := by rw [Nat.shiftLeft_eq, Nat.pow_add, Nat.mul_comm]
      rw [e, mul_high hb]
/-- The document's product is the tower's. -/
theorem prod_mul {a b : Nat} (ha : a < 2 ^ 2 ^ 7) (hb : b < 2 ^ 2 ^ 7) : prodTo 128 a b = mul 7 a b := by
  refine by_bits (fun b => prodTo 128 a b) (fun b => mul 7 a b) (prodTo_xorr 128 a) (mul_xorr 7 a) 128 (fun i hi => ?_) b hb
  show prodTo 128 a (2 ^ i) = _
  rw [prodTo_bit, if_pos hi]
  exact timesAll_mul 7 i a (Nat.le_refl _) hi ha
theorem mul_to7 {l a b : Nat} (hl : l ≤ 7) (ha : a < 2 ^ 2 ^ l) (hb : b < 2 ^ 2 ^ l) : mul 7 a b = mul l a b := by
  have up : ∀ m, l ≤ m → m ≤ 7 → mul m a b = mul l a b := by
    intro m
    induction m with
    | zero => intro h _; have : l = 0 := by omega
              subst this; rfl
    | succ m ih =>
      intro h1 h2
      by_cases e : l = m + 1
      · subst e; rfl
      · have hle : 2 ^ 2 ^ l ≤ 2 ^ 2 ^ m := Nat.pow_le_pow_right (by decide) (Nat.pow_le_pow_right (by decide) (by omega))
        rw [mul_up (Nat.lt_of_lt_of_le ha hle) (Nat.lt_of_lt_of_le hb hle)]
        exact ih (by omega) (by omega)
  exact up 7 hl (Nat.le_refl _)
end Go.Proofs.Ytplmejnoepkdgaa.Tow
namespace Go.Proofs.Ytplmejnoepkdgaa.Tow
/-! The tower's fields. -/
theorem mul_comm : ∀ l a b, mul l a b = mul l b a
  | 0, a, b => by simp only [mul, Nat.and_comm a b]
  | l + 1, a, b => by
    rw [mul_eq l a b, mul_eq l b a, mul_comm l (b >>> 2 ^ l ^^^ (b &&& (2 ^ 2 ^ l - 1))) _, mul_comm l (b >>> 2 ^ l) _, mul_comm l (b &&& (2 ^ 2 ^ l - 1)) _]
theorem split {l a : Nat} (h : a < 2 ^ 2 ^ (l + 1)) : ∃ a1 a0, a1 < 2 ^ 2 ^ l ∧ a0 < 2 ^ 2 ^ l ∧ a = a1 <<< 2 ^ l ^^^ a0 := by
  rw [two_two] at h
  exact ⟨_, _, hi_lt h, lo_lt (2 ^ l) a, halves _ _⟩
theorem xa (p q r s x : Nat) : (p ^^^ q ^^^ (r ^^^ s)) ^^^ p ^^^ s ^^^ x = q ^^^ r ^^^ x := by
  have e : (p ^^^ q ^^^ (r ^^^ s)) ^^^ p ^^^ s ^^^ x = (p ^^^ p) ^^^ ((s ^^^ s) ^^^ (q ^^^ r ^^^ x)) := by ac_rfl
  rw [e, Nat.xor_self, Nat.xor_self, Nat.zero_xor, Nat.zero_xor]
theorem mul_cat {l a1 a0 b1 b0 : Nat} (h1 : a0 < 2 ^ 2 ^ l) (h2 : b0 < 2 ^ 2 ^ l) : mul (l + 1) (a1 <<< 2 ^ l ^^^ a0) (b1 <<< 2 ^ l ^^^ b0) =
    (mul l a1 b0 ^^^ mul l a0 b1 ^^^ mulX l (mul l a1 b1)) <<< 2 ^ l ^^^ (mul l a0 b0 ^^^ mul l a1 b1) := by
  rw [mul_eq, hi_of h1, hi_of h2, lo_of h1, lo_of h2, mul_xorl, mul_xorr, mul_xorr, xa]
theorem mulX_cat {l a1 a0 : Nat} (h : a0 < 2 ^ 2 ^ l) : mulX (l + 1) (a1 <<< 2 ^ l ^^^ a0) = (a0 ^^^ mulX l a1) <<< 2 ^ l ^^^ a1 := by
  rw [mulX, hi_of h, lo_of h]
theorem xlt {w a b : Nat} (h : a < 2 ^ w) (k : b < 2 ^ w) : a ^^^ b < 2 ^ w := Nat.xor_lt_two_pow h k
theorem mulX_mul : ∀ (l a b : Nat), a < 2 ^ 2 ^ l → b < 2 ^ 2 ^ l → mulX l (mul l a b) = mul l (mulX l a) b
  | 0, a, b, _, _ => rfl
  | l + 1, a, b, ha, hb => by
    obtain ⟨a1, a0, g1, g0, rfl⟩ := split ha
    obtain ⟨b1, b0, k1, k0, rfl⟩ := split hb
    have ih := mulX_mul l
    have m := mul_lt l
    rw [mul_cat g0 k0, mulX_cat (xlt (m _ _ g0 k0) (m _ _ g1 k1)), mulX_cat g0, mul_cat g1 k0]
    have e1 : mul l a0 b0 ^^^ mul l a1 b1 ^^^ mulX l (mul l a1 b0 ^^^ mul l a0 b1 ^^^ mulX l (mul l a1 b1)) = mul l (a0 ^^^ mulX l a1) b0 ^^^ mul l a1 b1 ^^^ mulX l (mul l (a0 ^^^ mulX l a1) b1) := by
      simp only [mul_xorl, mulX_xor, ← ih _ _ g1 k0, ← ih _ _ g1 k1]; ac_rfl
    have e2 : mul l a1 b0 ^^^ mul l a0 b1 ^^^ mulX l (mul l a1 b1) = mul l a1 b0 ^^^ mul l (a0 ^^^ mulX l a1) b1 := by
      simp only [mul_xorl, ← ih _ _ g1 k1]; ac_rfl
    rw [e1, e2]
theorem mulX_mulr {l a b : Nat} (ha : a < 2 ^ 2 ^ l) (hb : b < 2 ^ 2 ^ l) : mulX l (mul l a b) = mul l a (mulX l b) := by
  rw [mul_comm l a b, mulX_mul l b a hb ha, mul_comm]
theorem mul_assoc : ∀ (l a b c : Nat), a < 2 ^ 2 ^ l → b < 2 ^ 2 ^ l → c < 2 ^ 2 ^ l → mul l (mul l a b) c = mul l a (mul l b c)
  | 0, a, b, c, _, _, _ => by
    simp only [mul]
    apply Nat.eq_of_testBit_eq
    intro i
    simp only [Nat.testBit_and]
    cases a.testBit i <;> cases b.testBit i <;> cases c.testBit i <;> cases (Nat.testBit 1 i) <;> rfl
  | l + 1, a, b, c, ha, hb, hc => by
    obtain ⟨a1, a0, g1, g0, rfl⟩ := split ha
    obtain ⟨b1, b0, k1, k0, rfl⟩ := split hb
    obtain ⟨c1, c0, m1, m0, rfl⟩ := split hc
    have ih := mul_assoc l
    have L := mul_lt l
    have X := mulX_lt l
    rw [mul_cat g0 k0, mul_cat k0 m0, mul_cat (xlt (L _ _ g0 k0) (L _ _ g1 k1)) m0, mul_cat g0 (xlt (L _ _ k0 m0) (L _ _ k1 m1))]
    have e1 : mul l (mul l a1 b0 ^^^ mul l a0 b1 ^^^ mulX l (mul l a1 b1)) c0 ^^^ mul l (mul l a0 b0 ^^^ mul l a1 b1) c1 ^^^ mulX l (mul l (mul l a1 b0 ^^^ mul l a0 b1 ^^^ mulX l (mul l a1 b1)) c1)
        = mul l a1 (mul l b0 c0 ^^^ mul l b1 c1) ^^^ mul l a0 (mul l b1 c0 ^^^ mul l b0 c1 ^^^ mulX l (mul l b1 c1)) ^^^ mulX l (mul l a1 (mul l b1 c0 ^^^ mul l b0 c1 ^^^ mulX l (mul l b1 c1))) := by
      simp only [mul_xorl, mul_xorr, mulX_xor, ← mulX_mul l _ _ (L _ _ g1 k1) m0, ← mulX_mul l _ _ (L _ _ g1 k1) m1, ← mulX_mulr g0 (L _ _ k1 m1), ← mulX_mulr g1 (L _ _ k1 m1), ih _ _ _ g1 k0 m0, ih _ _ _ g0 k1 m0, ih _ _ _ g1 k1 m0, ih _ _ _ g0 k0 m1, ih _ _ _ g1 k1 m1, ih _ _ _ g1 k0 m1, ih _ _ _ g0 k1 m1]; ac_rfl
    have e2 : mul l (mul l a0 b0 ^^^ mul l a1 b1) c0 ^^^ mul l (mul l a1 b0 ^^^ mul l a0 b1 ^^^ mulX l (mul l a1 b1)) c1
        = mul l a0 (mul l b0 c0 ^^^ mul l b1 c1) ^^^ mul l a1 (mul l b1 c0 ^^^ mul l b0 c1 ^^^ mulX l (mul l b1 c1)) := by
      simp only [mul_xorl, mul_xorr, mulX_xor, ← mulX_mul l _ _ (L _ _ g1 k1) m0, ← mulX_mul l _ _ (L _ _ g1 k1) m1, ← mulX_mulr g0 (L _ _ k1 m1), ← mulX_mulr g1 (L _ _ k1 m1), ih _ _ _ g1 k0 m0, ih _ _ _ g0 k1 m0, ih _ _ _ g1 k1 m0, ih _ _ _ g0 k0 m1, ih _ _ _ g1 k1 m1, ih _ _ _ g1 k0 m1, ih _ _ _ g0 k1 m1, ih _ _ _ g0 k0 m0]; ac_rfl
    rw [e1, e2]
theorem one_lt (l : Nat) : 1 < 2 ^ 2 ^ l := by
  have : 2 ^ 1 ≤ 2 ^ 2 ^ l := Nat.pow_le_pow_right (by decide) (Nat.two_pow_pos l)
  omega
theorem one_cat (l : Nat) : 1 = 0 <<< 2 ^ l ^^^ 1 := by simp
theorem mul_one : ∀ (l a : Nat), a < 2 ^ 2 ^ l → mul l a 1 = a
  | 0, a, h => by
    have : a = 0 ∨ a = 1 := by have : (2:Nat) ^ 2 ^ 0 = 2 := rfl; omega
    rcases this with rfl | rfl <;> rfl
  | l + 1, a, h => by
    obtain ⟨a1, a0, g1, g0, rfl⟩ := split h
    have e := mul_cat (l := l) (a1 := a1) (b1 := 0) g0 (one_lt l)
    rw [← one_cat] at e
    rw [e, mul_one l _ g1, mul_one l _ g0, mul0r, mul0r, mulX0]; simp
theorem one_mul {l a : Nat} (h : a < 2 ^ 2 ^ l) : mul l 1 a = a := by rw [mul_comm, mul_one l a h]
/-- The trace. -/
def tr : Nat → Nat → Nat
  | 0, a => a
  | l + 1, a => tr l (mulX l (a >>> 2 ^ l))
theorem tr_cat {l a1 a0 : Nat} (h : a0 < 2 ^ 2 ^ l) : tr (l + 1) (a1 <<< 2 ^ l ^^^ a0) = tr l (mulX l a1) := by rw [tr, hi_of h]
theorem tr_xor : ∀ l a b, tr l (a ^^^ b) = tr l a ^^^ tr l b
  | 0, a, b => rfl
  | l + 1, a, b => by simp only [tr, Nat.shiftRight_xor_distrib, mulX_xor, tr_xor l]
theorem sq_cat {l a1 a0 : Nat} (h : a0 < 2 ^ 2 ^ l) : mul (l + 1) (a1 <<< 2 ^ l ^^^ a0) (a1 <<< 2 ^ l ^^^ a0) = mulX l (mul l a1 a1) <<< 2 ^ l ^^^ (mul l a0 a0 ^^^ mul l a1 a1) := by
  rw [mul_cat h h, mul_comm l a0 a1, Nat.xor_self, Nat.zero_xor]
theorem tr_sq : ∀ (l s : Nat), s < 2 ^ 2 ^ l → tr l (mul l s s) = tr l s
  | 0, s, h => by
    have : s = 0 ∨ s = 1 := by have : (2:Nat) ^ 2 ^ 0 = 2 := rfl; omega
    rcases this with rfl | rfl <;> rfl
  | l + 1, s, h => by
    obtain ⟨a1, a0, g1, g0, rfl⟩ := split h
    have L := mul_lt l
    rw [sq_cat g0, tr_cat (xlt (L _ _ g0 g0) (L _ _ g1 g1)), tr_cat g0, mulX_mul l _ _ g1 g1, mulX_mulr (mulX_lt l _ g1) g1]
    exact tr_sq l _ (mulX_lt l _ g1)
theorem tr_gen : ∀ l, tr l (mulX l 1) = 1
  | 0 => rfl
  | l + 1 => by
    have e := mulX_cat (l := l) (a1 := 0) (one_lt l)
    rw [← one_cat] at e
    rw [e, mulX0, tr_cat (Nat.two_pow_pos _), Nat.xor_zero]
    exact tr_gen l
/-- No root. -/
theorem no_root (l : Nat) : ∀ t, t < 2 ^ 2 ^ l → mul l t t ^^^ mulX l t ≠ 1 := by
  cases l with
  | zero =>
    intro t h
    have : t = 0 ∨ t = 1 := by have : (2:Nat) ^ 2 ^ 0 = 2 := rfl; omega
    rcases this with rfl | rfl <;> decide
  | succ m =>
    intro t ht e
    -- g h = 1
    obtain ⟨h, eh⟩ : ∃ h, h = 1 <<< 2 ^ m ^^^ mulX m 1 := ⟨_, rfl⟩
    have x1 := mulX_lt m _ (one_lt m)
    have hlt : h < 2 ^ 2 ^ (m + 1) := by rw [eh, two_two]; exact cat_lt (one_lt m) x1
    have gh : mulX (m + 1) h = 1 := by rw [eh, mulX_cat x1, Nat.xor_self]; simp
    have L := mul_lt (m + 1)
    have A := mul_assoc (m + 1)
    have s : mul (m + 1) (mul (m + 1) h t) (mul (m + 1) h t) ^^^ mul (m + 1) h t = mul (m + 1) h h := by
      have e1 : mul (m + 1) (mul (m + 1) h t) (mul (m + 1) h t) = mul (m + 1) (mul (m + 1) h h) (mul (m + 1) t t) := by
        rw [A _ _ _ hlt ht (L _ _ hlt ht), ← A _ _ _ ht hlt ht, mul_comm _ t h, A _ _ _ hlt ht ht, ← A _ _ _ hlt hlt (L _ _ ht ht)]
      have e2 : mul (m + 1) h t = mul (m + 1) (mul (m + 1) h h) (mulX (m + 1) t) := by
        rw [← mulX_mulr (L _ _ hlt hlt) ht, A _ _ _ hlt hlt ht, mulX_mul _ _ _ hlt (L _ _ hlt ht), gh, one_mul (L _ _ hlt ht)]
      rw [e1]
      conv => lhs; rhs; rw [e2]
      rw [← mul_xorr, e, mul_one _ _ (L _ _ hlt hlt)]
    have t1 := congrArg (tr (m + 1)) s
    rw [tr_xor, tr_sq _ _ (L _ _ hlt ht), Nat.xor_self, tr_sq _ _ hlt, eh, tr_cat x1, tr_gen] at t1
    cases t1
/-- The inverse, by the norm. -/
def inv : Nat → Nat → Nat
  | 0, a => a
  | l + 1, a =>
    let hi := a >>> 2 ^ l
    let lo := a &&& (2 ^ 2 ^ l - 1)
    let other := lo ^^^ mulX l hi
    let n := inv l (mul l lo other ^^^ mul l hi hi)
    mul l hi n <<< 2 ^ l ^^^ mul l other n
theorem inv_cat {l a1 a0 : Nat} (h : a0 < 2 ^ 2 ^ l) : inv (l + 1) (a1 <<< 2 ^ l ^^^ a0) =
    mul l a1 (inv l (mul l a0 (a0 ^^^ mulX l a1) ^^^ mul l a1 a1)) <<< 2 ^ l ^^^ mul l (a0 ^^^ mulX l a1) (inv l (mul l a0 (a0 ^^^ mulX l a1) ^^^ mul l a1 a1)) := by
  rw [inv, hi_of h, lo_of h]
theorem inv_lt : ∀ (l a : Nat), a < 2 ^ 2 ^ l → inv l a < 2 ^ 2 ^ l
  | 0, a, h => h
  | l + 1, a, h => by
    obtain ⟨a1, a0, g1, g0, rfl⟩ := split h
    have L := mul_lt l
    have o := xlt g0 (mulX_lt l _ g1)
    have n := inv_lt l _ (xlt (L _ _ g0 o) (L _ _ g1 g1))
    rw [inv_cat g0, two_two]
    exact cat_lt (L _ _ g1 n) (L _ _ o n)
theorem inv0 : ∀ l, inv l 0 = 0
  | 0 => rfl
  | l + 1 => by
    have e := inv_cat (l := l) (a1 := 0) (Nat.two_pow_pos (2 ^ l))
    have z : (0 : Nat) <<< 2 ^ l ^^^ 0 = 0 := by simp
    rw [z] at e
    rw [e]
    simp only [mulX0, Nat.xor_self, mul0l]
    exact z
theorem mul_inv : ∀ (l a : Nat), a < 2 ^ 2 ^ l → a ≠ 0 → mul l a (inv l a) = 1
  | 0, a, h, h0 => by
    have : a = 1 := by have : (2:Nat) ^ 2 ^ 0 = 2 := rfl; omega
    subst this; rfl
  | l + 1, a, h, h0 => by
    obtain ⟨a1, a0, g1, g0, rfl⟩ := split h
    have L := mul_lt l
    have A := mul_assoc l
    have x1 := mulX_lt l _ g1
    have o := xlt g0 x1
    have nlt := xlt (L _ _ g0 o) (L _ _ g1 g1)
    have hn : mul l a0 (a0 ^^^ mulX l a1) ^^^ mul l a1 a1 ≠ 0 := by
      intro hz
      by_cases z1 : a1 = 0
      · subst z1
        rw [mulX0, Nat.xor_zero, mul0l, Nat.xor_zero] at hz
        have a00 : a0 ≠ 0 := by rintro rfl; exact h0 (by simp)
        have := mul_inv l a0 g0 a00
        have e : mul l (mul l a0 a0) (inv l a0) = a0 := by rw [A _ _ _ g0 g0 (inv_lt l _ g0), this, mul_one l _ g0]
        rw [hz, mul0l] at e
        exact a00 e.symm
      · have i1 := mul_inv l a1 g1 z1
        have il := inv_lt l _ g1
        refine no_root l (mul l a0 (inv l a1)) (L _ _ g0 il) ?_
        obtain ⟨j, ej⟩ : ∃ j, j = inv l a1 := ⟨_, rfl⟩
        rw [← ej] at i1 il ⊢
        have e1 : mul l (mul l a0 j) (mul l a0 j) = mul l (mul l j j) (mul l a0 a0) := by
          rw [mul_comm l a0 j, A _ _ _ il g0 (L _ _ il g0), ← A _ _ _ g0 il g0, mul_comm l a0 j, A _ _ _ il g0 g0, ← A _ _ _ il il (L _ _ g0 g0)]
        have e2 : mulX l (mul l a0 j) = mul l (mul l j j) (mul l a0 (mulX l a1)) := by
          have : mul l a0 j = mul l (mul l j j) (mul l a0 a1) := by
            rw [mul_comm l a0 a1, A _ _ _ il il (L _ _ g1 g0), ← A _ _ _ il g1 g0, mul_comm l j a1, i1, one_mul g0, mul_comm]
          rw [this, mulX_mulr (L _ _ il il) (L _ _ g0 g1), mulX_mulr g0 g1]
        have e3 : (1 : Nat) = mul l (mul l j j) (mul l a1 a1) := by
          rw [A _ _ _ il il (L _ _ g1 g1), ← A _ _ _ il g1 g1, mul_comm l j a1, i1, one_mul g1, mul_comm, i1]
        rw [e1, e2, ← mul_xorr, ← mul_xorr]
        rw [mul_xorr] at hz
        have e4 : mul l a0 a0 ^^^ mul l a0 (mulX l a1) = mul l a1 a1 := by
          have := congrArg (fun x => x ^^^ mul l a1 a1) hz
          simpa [Nat.xor_assoc, Nat.xor_self] using this
        rw [mul_xorr l a0, e4]; exact e3.symm
    have ni := mul_inv l _ nlt hn
    have nl := inv_lt l _ nlt
    rw [inv_cat g0]
    obtain ⟨n, en⟩ : ∃ n, n = inv l (mul l a0 (a0 ^^^ mulX l a1) ^^^ mul l a1 a1) := ⟨_, rfl⟩
    rw [← en] at ni nl ⊢
    rw [mul_cat g0 (L _ _ o nl)]
    have e1 : mul l a1 (mul l (a0 ^^^ mulX l a1) n) ^^^ mul l a0 (mul l a1 n) ^^^ mulX l (mul l a1 (mul l a1 n)) = 0 := by
      rw [← A _ _ _ g1 o nl, ← A _ _ _ g0 g1 nl, ← A _ _ _ g1 g1 nl, mulX_mul l _ _ (L _ _ g1 g1) nl, mul_xorr, mulX_mulr g1 g1, mul_comm l a0 a1, mul_xorl]
      have : ∀ p q : Nat, p ^^^ q ^^^ p ^^^ q = 0 := fun p q => by
        rw [show p ^^^ q ^^^ p ^^^ q = (p ^^^ p) ^^^ (q ^^^ q) by ac_rfl, Nat.xor_self, Nat.xor_self, Nat.xor_self]
      exact this _ _
    have e2 : mul l a0 (mul l (a0 ^^^ mulX l a1) n) ^^^ mul l a1 (mul l a1 n) = 1 := by
      rw [← A _ _ _ g0 o nl, ← A _ _ _ g1 g1 nl, ← mul_xorl]; exact ni
    rw [e1, e2]; simp
theorem inv_of {l a b : Nat} (ha : a < 2 ^ 2 ^ l) (hb : b < 2 ^ 2 ^ l) (h : mul l a b = 1) : b = inv l a := by
  have h0 : a ≠ 0 := by rintro rfl; rw [mul0l] at h; cases h
  have il := inv_lt l _ ha
  rw [← mul_one l b hb, ← mul_inv l a ha h0, ← mul_assoc l _ _ _ hb ha il, mul_comm l b a, h, one_mul il]
theorem mul_zero_or {l a b : Nat} (ha : a < 2 ^ 2 ^ l) (hb : b < 2 ^ 2 ^ l) (h : mul l a b = 0) : a = 0 ∨ b = 0 := by
  by_cases z : a = 0
  · exact .inl z
  · right
    rw [← one_mul hb, ← mul_inv l a ha z, mul_comm l a, mul_assoc l _ _ _ (inv_lt l _ ha) ha hb, h, mul0r]
/-! Frobenius. -/
def frob (l : Nat) : Nat → Nat → Nat
  | 0, a => a
  | n + 1, a => frob l n (mul l a a)
theorem sq_xor (l a b : Nat) : mul l (a ^^^ b) (a ^^^ b) = mul l a a ^^^ mul l b b := by
  simp only [mul_xorl, mul_xorr, mul_comm l b a]
  rw [show mul l a a ^^^ mul l a b ^^^ (mul l a b ^^^ mul l b b) = (mul l a b ^^^ mul l a b) ^^^ (mul l a a ^^^ mul l b b) by ac_rfl, Nat.xor_self, Nat.zero_xor]
theorem sq_mul {l a b : Nat} (ha : a < 2 ^ 2 ^ l) (hb : b < 2 ^ 2 ^ l) : mul l (mul l a b) (mul l a b) = mul l (mul l a a) (mul l b b) := by
  have L := mul_lt l
  have A := mul_assoc l
  rw [A _ _ _ ha hb (L _ _ ha hb), ← A _ _ _ hb ha hb, mul_comm l b a, A _ _ _ ha hb hb, ← A _ _ _ ha ha (L _ _ hb hb)]
theorem frob_xor (l : Nat) : ∀ n a b, frob l n (a ^^^ b) = frob l n a ^^^ frob l n b
  | 0, a, b => rfl
  | n + 1, a, b => by simp only [frob, sq_xor, frob_xor l n]
theorem frob_mul (l : Nat) : ∀ n a b, a < 2 ^ 2 ^ l → b < 2 ^ 2 ^ l → frob l n (mul l a b) = mul l (frob l n a) (frob l n b)
  | 0, a, b, _, _ => rfl
  | n + 1, a, b, ha, hb => by rw [frob, sq_mul ha hb, frob_mul l n _ _ (mul_lt l _ _ ha ha) (mul_lt l _ _ hb hb)]; rfl
theorem frob_add (l : Nat) : ∀ m n a, frob l (m + n) a = frob l n (frob l m a)
  | 0, n, a => by rw [Nat.zero_add]; rfl
  | m + 1, n, a => by rw [Nat.succ_add]; exact frob_add l m n _
theorem up_lt {l a : Nat} (h : a < 2 ^ 2 ^ l) : a < 2 ^ 2 ^ (l + 1) := Nat.lt_of_lt_of_le h (Nat.pow_le_pow_right (by decide) (Nat.pow_le_pow_right (by decide) (Nat.le_succ l)))
theorem frob_up (l : Nat) : ∀ n a, a < 2 ^ 2 ^ l → frob (l + 1) n a = frob l n a
  | 0, a, h => rfl
  | n + 1, a, h => by rw [frob, frob, mul_up h h, frob_up l n _ (mul_lt l _ _ h h)]
/-- The generator's conjugate. -/
def chkF (l : Nat) : Bool := Nat.beq (frob (l + 1) (2 ^ l) (1 <<< 2 ^ l)) (1 <<< 2 ^ l ^^^ mulX l 1)
theorem frobs : chkF 0 = true ∧ chkF 1 = true ∧ chkF 2 = true ∧ chkF 3 = true ∧ chkF 4 = true ∧ chkF 5 = true ∧ chkF 6 = true := by decide +kernel
theorem frob_gen {l : Nat} (hl : l ≤ 6) : frob (l + 1) (2 ^ l) (1 <<< 2 ^ l) = 1 <<< 2 ^ l ^^^ mulX l 1 := by
  obtain ⟨c0, c1, c2, c3, c4, c5, c6⟩ := frobs
  have : chkF l = true := by
    rcases (show l = 0 ∨ l = 1 ∨ l = 2 ∨ l = 3 ∨ l = 4 ∨ l = 5 ∨ l = 6 by omega) with rfl | rfl | rfl | rfl | rfl | rfl | rfl
    · exact c0
    · exact c1
    · exact c2
    · exact c3
    · exact c4
    · exact c5
    · exact c6
  exact Nat.eq_of_beq_eq_true this
theorem frob_id : ∀ (l a : Nat), l ≤ 7 → a < 2 ^ 2 ^ l → frob l (2 ^ l) a = a
  | 0, a, _, h => by
    have : a = 0 ∨ a = 1 := by have : (2:Nat) ^ 2 ^ 0 = 2 := rfl; omega
    rcases this with rfl | rfl <;> rfl
  | l + 1, a, hl, h => by
    obtain ⟨a1, a0, g1, g0, rfl⟩ := split h
    have X1 : (1 : Nat) <<< 2 ^ l < 2 ^ 2 ^ (l + 1) := by
      have := cat_lt (w := 2 ^ l) (one_lt l) (Nat.two_pow_pos (2 ^ l))
      rw [two_two]; simpa using this
    have x1 := mulX_lt l _ (one_lt l)
    have fl : ∀ b, b < 2 ^ 2 ^ l → frob (l + 1) (2 ^ l) b = b := fun b hb => by rw [frob_up l _ _ hb]; exact frob_id l b (by omega) hb
    have gg : frob (l + 1) (2 ^ (l + 1)) (1 <<< 2 ^ l) = 1 <<< 2 ^ l := by
      rw [Nat.pow_succ, Nat.mul_two, frob_add, frob_gen (by omega), frob_xor, frob_gen (by omega), fl _ x1, Nat.xor_assoc, Nat.xor_self, Nat.xor_zero]
    have f2 : ∀ b, b < 2 ^ 2 ^ l → frob (l + 1) (2 ^ (l + 1)) b = b := fun b hb => by rw [Nat.pow_succ, Nat.mul_two, frob_add, fl b hb, fl b hb]
    have e : a1 <<< 2 ^ l = mul (l + 1) (1 <<< 2 ^ l) a1 := by
      have := mul_cat (l := l) (a1 := 1) (a0 := 0) (b1 := 0) (Nat.two_pow_pos _) g1
      simp only [Nat.xor_zero, Nat.zero_shiftLeft, Nat.zero_xor, mul0r, mul0l, mulX0, one_mul g1] at this
      exact this.symm
    rw [frob_xor, f2 _ g0, e, frob_mul _ _ _ _ X1 (up_lt g1), gg, f2 _ g1]
/-- A product of squares, as the document has the inverse. -/
def pinv (l : Nat) : Nat → Nat → Nat → Nat
  | 0, s, out => out
  | n + 1, s, out => pinv l n (mul l s s) (mul l out (mul l s s))
theorem pinv_a {l t : Nat} (ht : t < 2 ^ 2 ^ l) : ∀ n s out, s < 2 ^ 2 ^ l → out < 2 ^ 2 ^ l → mul l (mul l out t) t = mul l s s → mul l (mul l (pinv l n s out) t) t = frob l (n + 1) s
  | 0, s, out, hs, ho, h => h
  | n + 1, s, out, hs, ho, h => by
    have L := mul_lt l
    have A := mul_assoc l
    have ss := L _ _ hs hs
    refine pinv_a ht n _ _ ss (L _ _ ho ss) ?_
    rw [A _ _ _ ho ss ht, mul_comm l (mul l s s) t, ← A _ _ _ ho ht ss, A _ _ _ (L _ _ ho ht) ss ht, mul_comm l (mul l s s) t, ← A _ _ _ (L _ _ ho ht) ht ss, h]
theorem pinv_lt {l : Nat} : ∀ n s out, s < 2 ^ 2 ^ l → out < 2 ^ 2 ^ l → pinv l n s out < 2 ^ 2 ^ l
  | 0, s, out, hs, ho => ho
  | n + 1, s, out, hs, ho => pinv_lt n _ _ (mul_lt l _ _ hs hs) (mul_lt l _ _ ho (mul_lt l _ _ hs hs))
theorem pinv0 {l : Nat} : ∀ n, 0 < n → ∀ out, pinv l n 0 out = 0
  | 1, _, out => by rw [pinv, pinv, mul0l, mul0r]
  | n + 2, _, out => by rw [pinv, mul0l]; exact pinv0 (n + 1) (by omega) _
theorem pinv_inv {l a : Nat} (hl : l ≤ 7) (h1 : 1 ≤ l) (ha : a < 2 ^ 2 ^ l) : pinv l (2 ^ l - 1) a 1 = inv l a := by
  have hp : 1 < 2 ^ l := Nat.one_lt_two_pow (by omega)
  by_cases h0 : a = 0
  · subst h0; rw [pinv0 _ (by omega), inv0]
  · have L := mul_lt l
    have A := mul_assoc l
    have pl := pinv_lt (2 ^ l - 1) a 1 ha (one_lt l)
    have e := pinv_a ha (2 ^ l - 1) a 1 ha (one_lt l) (by rw [one_mul ha])
    rw [show 2 ^ l - 1 + 1 = 2 ^ l by omega, frob_id l a hl ha] at e
    have il := inv_lt l _ ha
    have e2 := congrArg (fun x => mul l x (inv l a)) e
    simp only [A _ _ _ (L _ _ pl ha) ha il, mul_inv l a ha h0, mul_one l _ (L _ _ pl ha)] at e2
    exact inv_of ha pl (by rw [mul_comm]; exact e2)
theorem inv_up {l a : Nat} (hl : l ≤ 7) (ha : a < 2 ^ 2 ^ l) : inv 7 a = inv l a := by
  by_cases h0 : a = 0
  · subst h0; rw [inv0, inv0]
  · have il := inv_lt l _ ha
    have le : (2 : Nat) ^ 2 ^ l ≤ 2 ^ 2 ^ 7 := Nat.pow_le_pow_right (Nat.le_succ 1) (Nat.pow_le_pow_right (Nat.le_succ 1) hl)
    exact (inv_of (Nat.lt_of_lt_of_le ha le) (Nat.lt_of_lt_of_le il le) (by rw [mul_to7 hl ha il]; exact mul_inv l a ha h0)).symm
end Go.Proofs.Ytplmejnoepkdgaa.Tow
namespace Go.Proofs.Ytplmejnoepkdgaa.H1
open Go Go.Proofs.Ytplmejnoepkdgaa.Rf
theorem rng_nat {n : Int} (h : rng n) : ∃ m : Nat, n = (m : Int) ∧ m < 2 ^ 64 := ⟨n.toNat, by have := h.1; omega, by have := h.2; have := h.1; omega⟩
theorem nat_rng {m : Nat} (h : m < 2 ^ 64) : rng (m : Int) := ⟨by omega, by have : (2:Nat)^64 = 18446744073709551616 := rfl; omega⟩
theorem toNat_nat {m : Nat} (h : m < 2 ^ 64) : (BitVec.ofInt 64 (m : Int)).toNat = m := by
  have := ofInt_nat (nat_rng h); omega
theorem xor_nat {a b : Nat} (ha : a < 2 ^ 64) (hb : b < 2 ^ 64) : xorI .u64 (a : Int) (b : Int) = ((a ^^^ b : Nat) : Int) := by
  show IntKind.u64.wrap ((BitVec.ofInt 64 (a : Int) ^^^ BitVec.ofInt 64 (b : Int)).toNat : Int) = _
  rw [BitVec.toNat_xor, toNat_nat ha, toNat_nat hb]
  exact wrap_in (nat_rng (Nat.xor_lt_two_pow ha hb))
theorem and_nat {a b : Nat} (ha : a < 2 ^ 64) (hb : b < 2 ^ 64) : andI .u64 (a : Int) (b : Int) = ((a &&& b : Nat) : Int) := by
  show IntKind.u64.wrap ((BitVec.ofInt 64 (a : Int) &&& BitVec.ofInt 64 (b : Int)).toNat : Int) = _
  rw [BitVec.toNat_and, toNat_nat ha, toNat_nat hb]
  exact wrap_in (nat_rng (Nat.lt_of_le_of_lt Nat.and_le_left ha))
theorem or_nat {a b : Nat} (ha : a < 2 ^ 64) (hb : b < 2 ^ 64) : orI .u64 (a : Int) (b : Int) = ((a ||| b : Nat) : Int) := by
  show IntKind.u64.wrap ((BitVec.ofInt 64 (a : Int) ||| BitVec.ofInt 64 (b : Int)).toNat : Int) = _
  rw [BitVec.toNat_or, toNat_nat ha, toNat_nat hb]
  exact wrap_in (nat_rng (Nat.or_lt_two_pow ha hb))
theorem shr_nat {a s : Nat} (hs : s ≤ 64) : shrI .u64 (a : Int) (s : Int) = ((a >>> s : Nat) : Int) := by
  unfold shrI
  have e : min ((s : Int).toNat) IntKind.u64.bits = s := by rw [Int.toNat_natCast]; exact Nat.min_eq_left hs
  rw [e, Nat.shiftRight_eq_div_pow, Int.fdiv_eq_ediv_of_nonneg _ (by exact Int.le_of_lt (Int.pow_pos (by decide)))]
  simp
theorem shl_nat {a s : Nat} (hs : s ≤ 64) (h : a <<< s < 2 ^ 64) : shlI .u64 (a : Int) (s : Int) = ((a <<< s : Nat) : Int) := by
  unfold shlI
  have e : min ((s : Int).toNat) IntKind.u64.bits = s := by rw [Int.toNat_natCast]; exact Nat.min_eq_left hs
  rw [e, show (a : Int) * 2 ^ s = ((a <<< s : Nat) : Int) by rw [Nat.shiftLeft_eq]; simp]
  exact wrap_in (nat_rng h)
theorem or_shl {w x y : Nat} (h : y < 2 ^ w) : x <<< w ||| y = x <<< w ^^^ y := by
  rw [← Tow.xor_shl h, Nat.shiftLeft_eq, Nat.mul_comm, ← Nat.two_pow_add_eq_or_of_lt h x]
theorem pow_le {l m : Nat} (h : l ≤ m) : (2 : Nat) ^ 2 ^ l ≤ 2 ^ 2 ^ m := Nat.pow_le_pow_right (by decide) (Nat.pow_le_pow_right (by decide) h)
theorem lt64 {l a : Nat} (hl : l ≤ 6) (h : a < 2 ^ 2 ^ l) : a < 2 ^ 64 := Nat.lt_of_lt_of_le h (pow_le hl)
theorem shl_pow_u {m : Nat} (h : m ≤ 6) : shlI .u64 1 (m : Int) = ((2 ^ m : Nat) : Int) := by
  rcases (show m = 0 ∨ m = 1 ∨ m = 2 ∨ m = 3 ∨ m = 4 ∨ m = 5 ∨ m = 6 by omega) with rfl | rfl | rfl | rfl | rfl | rfl | rfl <;> decide
theorem mask_eq {l : Nat} (h : l ≤ 5) : wu64 (shlI .u64 1 ((2 ^ l : Nat) : Int) - 1) = ((2 ^ 2 ^ l - 1 : Nat) : Int) := by
  rcases (show l = 0 ∨ l = 1 ∨ l = 2 ∨ l = 3 ∨ l = 4 ∨ l = 5 by omega) with rfl | rfl | rfl | rfl | rfl | rfl <;> decide
theorem nn (n : Nat) : decide ((n : Int) < 0) = false := by simp
theorem p2le {l m : Nat} (h : l ≤ m) : 2 ^ l ≤ 2 ^ m := Nat.pow_le_pow_right (by decide) h
theorem halves_N {l a : Nat} (hl : l ≤ 5) (ha : a < 2 ^ 64) : T (fun k => tower_halves.f k ((l + 1 : Nat) : Int) (a : Int)) (fun r => r = (((a >>> 2 ^ l : Nat) : Int), ((a &&& (2 ^ 2 ^ l - 1) : Nat) : Int))) := by
  refine T.eq (tower_halves.f_eq · _ _) ?_
  rw [lev (by omega), shl_pow (by omega)]
  have h5 : 2 ^ l ≤ 32 := p2le hl
  have h6 : (2:Nat) ^ 2 ^ l ≤ 2 ^ 32 := Nat.pow_le_pow_right (by decide) h5
  refine T.no (by simp) (T.no (nn _) (T.no (nn _) (T.pure ?_)))
  rw [mask_eq hl, shr_nat (by omega), and_nat ha (Nat.lt_of_le_of_lt (Nat.sub_le _ _) (Nat.lt_of_le_of_lt h6 (by decide)))]
theorem join_N {l a b : Nat} (hl : l ≤ 5) (ha : a < 2 ^ 2 ^ l) (hb : b < 2 ^ 2 ^ l) : T (fun k => tower_join.f k ((l + 1 : Nat) : Int) (a : Int) (b : Int)) (fun r => r = ((a <<< 2 ^ l ^^^ b : Nat) : Int)) := by
  refine T.eq (tower_join.f_eq · _ _ _) ?_
  rw [lev (by omega), shl_pow_u (by omega)]
  have h5 : 2 ^ l ≤ 32 := p2le hl
  refine T.no (by simp) (T.no (nn _) (T.pure ?_))
  have hs : a <<< 2 ^ l < 2 ^ 64 := by
    have := Tow.cat_lt (w := 2 ^ l) ha (Nat.two_pow_pos _ : 0 < 2 ^ 2 ^ l)
    rw [Nat.xor_zero] at this
    exact Nat.lt_of_lt_of_le this (Nat.pow_le_pow_right (by decide) (by omega))
  rw [shl_nat (by omega) hs, or_nat hs (lt64 (by omega) hb), or_shl hb]
theorem mulX_N : ∀ (l : Nat), l ≤ 6 → ∀ a : Nat, a < 2 ^ 2 ^ l → T (fun k => tower_mulX.f k (l : Int) (a : Int)) (fun r => r = ((Tow.mulX l a : Nat) : Int))
  | 0, h, a, ha => T.eq (tower_mulX.f_eq · _ _) (T.yes (by simp) (T.pure rfl))
  | l + 1, h, a, ha => by
    refine T.eq (tower_mulX.f_eq · _ _) (T.no (by simp; omega) (T.bind (halves_N (by omega) (lt64 h ha)) fun r hr => ?_))
    subst hr
    rw [Tow.two_two] at ha
    have h1 := Tow.hi_lt ha
    have h2 := Tow.lo_lt (2 ^ l) a
    rw [lev (by omega)]
    refine T.bind (mulX_N l (by omega) _ h1) fun s hs => ?_
    subst hs
    have h3 := Tow.mulX_lt l _ h1
    rw [xor_nat (lt64 (by omega) h2) (lt64 (by omega) h3)]
    exact T.bind (join_N (by omega) (Nat.xor_lt_two_pow h2 h3) h1) fun t ht => T.pure ht
theorem and1 {a b : Nat} (ha : a < 2 ^ 64) (hb : b < 2 ^ 64) : andI .u64 (andI .u64 (a : Int) (b : Int)) 1 = ((a &&& b &&& 1 : Nat) : Int) := by
  rw [and_nat ha hb]
  exact and_nat (Nat.lt_of_le_of_lt Nat.and_le_left ha) (b := 1) (by decide)
theorem mul_N : ∀ (l : Nat), l ≤ 6 → ∀ a b : Nat, a < 2 ^ 2 ^ l → b < 2 ^ 2 ^ l → T (fun k => tower_mul.f k (l : Int) (a : Int) (b : Int)) (fun r => r = ((Tow.mul l a b : Nat) : Int))
  | 0, h, a, b, ha, hb => T.eq (tower_mul.f_eq · _ _ _) (T.yes (by simp) (T.pure (and1 (lt64 h ha) (lt64 h hb))))
  | l + 1, h, a, b, ha, hb => by
    refine T.eq (tower_mul.f_eq · _ _ _) (T.no (by simp; omega) (T.ite (fun e => T.pure ?_) fun _ => T.ite (fun e => T.pure ?_) fun _ => ?_))
    · have : a = 0 := by simpa using e
      subst this
      rw [and1 (by decide) (lt64 h hb), Tow.mul0l]; simp
    · have : b = 0 := by simpa using e
      subst this
      rw [and1 (lt64 h ha) (by decide), Tow.mul0r]; simp
    · refine T.bind (halves_N (by omega) (lt64 h ha)) fun r hr => T.bind (halves_N (by omega) (lt64 h hb)) fun s hs => ?_
      subst hr hs
      rw [Tow.two_two] at ha hb
      have h1 := Tow.hi_lt ha
      have h2 := Tow.lo_lt (2 ^ l) a
      have h3 := Tow.hi_lt hb
      have h4 := Tow.lo_lt (2 ^ l) b
      have L : ∀ {x}, x < 2 ^ 2 ^ l → x < 2 ^ 64 := lt64 (by omega)
      rw [lev (by omega)]
      refine T.bind (mul_N l (by omega) _ _ h1 h3) fun t1 e1 => T.bind (mul_N l (by omega) _ _ h2 h4) fun t2 e2 => ?_
      simp only [xor_nat (L h1) (L h2), xor_nat (L h3) (L h4)]
      refine T.bind (mul_N l (by omega) _ _ (Nat.xor_lt_two_pow h1 h2) (Nat.xor_lt_two_pow h3 h4)) fun t3 e3 => ?_
      have g1 := Tow.mul_lt l _ _ h1 h3
      have g2 := Tow.mul_lt l _ _ h2 h4
      have g3 := Tow.mul_lt l _ _ (Nat.xor_lt_two_pow h1 h2) (Nat.xor_lt_two_pow h3 h4)
      subst e1 e2 e3
      refine T.bind (mulX_N l (by omega) _ g1) fun t4 e4 => ?_
      have g4 := Tow.mulX_lt l _ g1
      subst e4
      rw [xor_nat (L g3) (L g1), xor_nat (L (Nat.xor_lt_two_pow g3 g1)) (L g2), xor_nat (L (Nat.xor_lt_two_pow (Nat.xor_lt_two_pow g3 g1) g2)) (L g4), xor_nat (L g2) (L g1)]
      refine T.bind (join_N (by omega) (Nat.xor_lt_two_pow (Nat.xor_lt_two_pow (Nat.xor_lt_two_pow g3 g1) g2) g4) (Nat.xor_lt_two_pow g2 g1)) fun t ht => T.pure ?_
      rw [ht, Tow.mul_eq]
end Go.Proofs.Ytplmejnoepkdgaa.H1
namespace Go.Proofs.Ytplmejnoepkdgaa.H1
open Go Go.Proofs.Ytplmejnoepkdgaa.Rf
def nat (x : E) : Nat := x.1.toNat <<< 64 ^^^ x.2.1.toNat
def mk (n : Nat) : E := (((n >>> 64 : Nat) : Int), ((n &&& (2 ^ 64 - 1) : Nat) : Int), ())
/-- The product of the greatest level. -/
def Pr (a b : E) : E := mk (Tow.mul 7 (nat a) (nat b))
theorem p128 : (2 : Nat) ^ 2 ^ 7 = 2 ^ (64 + 64) := by decide
theorem rng_toNat {n : Int} (h : rng n) : n.toNat < 2 ^ 64 := by obtain ⟨m, rfl, hm⟩ := rng_nat h; simpa using hm
theorem nat_lt {x : E} (h : rngE x) : nat x < 2 ^ 2 ^ 7 := by rw [p128]; exact Tow.cat_lt (rng_toNat h.1) (rng_toNat h.2)
theorem mk_cat {a b : Nat} (ha : a < 2 ^ 64) (hb : b < 2 ^ 64) : mk (a <<< 64 ^^^ b) = ((a : Int), (b : Int), ()) := by
  unfold mk; rw [Tow.hi_of hb, Tow.lo_of hb]
theorem mk_nat {x : E} (h : rngE x) : mk (nat x) = x := by
  obtain ⟨a, b, ⟨⟩⟩ := x
  obtain ⟨a, rfl, ha⟩ := rng_nat h.1
  obtain ⟨b, rfl, hb⟩ := rng_nat h.2
  exact mk_cat ha hb
theorem mk_rng {n : Nat} (h : n < 2 ^ 2 ^ 7) : rngE (mk n) := by
  rw [p128] at h
  exact ⟨nat_rng (Tow.hi_lt h), nat_rng (Tow.lo_lt 64 n)⟩
theorem nat_mk (n : Nat) : nat (mk n) = n := by
  unfold nat mk
  simp only [Int.toNat_natCast]
  exact (Tow.halves 64 n).symm
theorem nat_Av {x y : E} (hx : rngE x) (hy : rngE y) : nat (Av x y) = nat x ^^^ nat y := by
  obtain ⟨a, b, ⟨⟩⟩ := x
  obtain ⟨c, d, ⟨⟩⟩ := y
  obtain ⟨a, rfl, ha⟩ := rng_nat hx.1
  obtain ⟨b, rfl, hb⟩ := rng_nat hx.2
  obtain ⟨c, rfl, hc⟩ := rng_nat hy.1
  obtain ⟨d, rfl, hd⟩ := rng_nat hy.2
  unfold nat Av
  rw [xor_nat ha hc, xor_nat hb hd]
  simp only [Int.toNat_natCast, Nat.shiftLeft_xor_distrib]
  exact Tow.x4 _ _ _ _
theorem Av_rng (x y : E) : rngE (Av x y) := ⟨xor_rng _ _, xor_rng _ _⟩
theorem mk_xor {a b : Nat} (ha : a < 2 ^ 2 ^ 7) (hb : b < 2 ^ 2 ^ 7) : mk (a ^^^ b) = Av (mk a) (mk b) := by
  rw [← mk_nat (Av_rng (mk a) (mk b)), nat_Av (mk_rng ha) (mk_rng hb), nat_mk, nat_mk]
theorem Pr_rng {a b : E} (ha : rngE a) (hb : rngE b) : rngE (Pr a b) := mk_rng (Tow.mul_lt 7 _ _ (nat_lt ha) (nat_lt hb))
theorem nat_Pr (a b : E) : nat (Pr a b) = Tow.mul 7 (nat a) (nat b) := nat_mk _
theorem shr_zero {a w : Nat} : (a >>> w = 0) ↔ a < 2 ^ w := by
  rw [Nat.shiftRight_eq_div_pow, Nat.div_eq_zero_iff_lt (Nat.two_pow_pos w)]
theorem ofB_iff {l : Nat} (hl : l ≤ 7) {x : E} (hx : rngE x) : ofB (l : Int) x = true ↔ nat x < 2 ^ 2 ^ l := by
  have hn := nat_lt hx
  obtain ⟨a, b, ⟨⟩⟩ := x
  obtain ⟨a, rfl, ha⟩ := rng_nat hx.1
  obtain ⟨b, rfl, hb⟩ := rng_nat hx.2
  have e : nat ((a : Int), (b : Int), ()) = a <<< 64 ^^^ b := rfl
  rw [e] at hn ⊢
  unfold ofB
  rw [if_neg (by omega), if_neg (by omega)]
  by_cases h7 : l = 7
  · subst h7; rw [if_pos (show ((7 : Nat) : Int) = 7 from rfl)]; exact ⟨fun _ => hn, fun _ => rfl⟩
  rw [if_neg (by omega)]
  have hz : a <<< 64 ^^^ b < 2 ^ 64 ↔ a = 0 := by
    rw [← shr_zero, Tow.hi_of hb]
  by_cases h6 : l = 6
  · subst h6; rw [if_pos (show ((6 : Nat) : Int) = 6 from rfl)]
    show ((a : Int) == 0) = true ↔ a <<< 64 ^^^ b < 2 ^ 64
    rw [hz]; simp
  rw [if_neg (by omega), shl_pow_u (by omega)]
  have h5 : 2 ^ l ≤ 32 := p2le (m := 5) (by omega)
  by_cases ha0 : a = 0
  · subst ha0
    have e1 : (0 : Nat) <<< 64 ^^^ b = b := by simp
    rw [e1, ← shr_zero]
    show (if ((0 : Nat) : Int) == 0 then (shrI .u64 (b : Int) ((2 ^ l : Nat) : Int) == 0) else false) = true ↔ _
    rw [shr_nat (by omega)]
    generalize b >>> 2 ^ l = q
    have e0 : (((0 : Nat) : Int) == 0) = true := rfl
    rw [e0, if_pos rfl, beq_iff_eq]
    exact ⟨fun h => (by omega), fun h => (by omega)⟩
  · have n1 : ¬ (a <<< 64 ^^^ b < 2 ^ 2 ^ l) := fun h => ha0 (hz.1 (lt64 (by omega) h))
    have n2 : ((a : Int) == 0) = false := by simpa using ha0
    rw [n2]
    exact ⟨fun h => (by cases h), fun h => absurd h n1⟩
theorem ofB_lv {lv : Int} {x : E} (h : ofB lv x = true) : ∃ l : Nat, lv = (l : Int) ∧ l ≤ 7 := by
  unfold ofB at h
  by_cases k1 : lv < 0
  · simp [k1] at h
  · by_cases k2 : lv > 7
    · simp [k1, k2] at h
    · exact ⟨lv.toNat, by omega, by omega⟩
theorem Mul_N {l : Nat} (hl : l ≤ 7) {a b : E} (ha : rngE a) (hb : rngE b) (oa : ofB (l : Int) a = true) (ob : ofB (l : Int) b = true) : Mv (l : Int) a b = Pr a b := by
  refine ((?_ : T (fun k => tower_Mul.f k (l : Int) a b) (fun r => r = Pr a b)).of (Mv_ev (l : Int) a b))
  have na := (ofB_iff hl ha).1 oa
  have nb := (ofB_iff hl hb).1 ob
  refine T.eq (tower_Mul.f_eq · _ a b) (T.bind (of_T _ a) fun o1 h1 => T.no (by rw [h1, oa]; rfl) (T.bind (of_T _ b) fun o2 h2 => T.no (by rw [h2, ob]; rfl) ?_))
  obtain ⟨a1, a2, ⟨⟩⟩ := a
  obtain ⟨b1, b2, ⟨⟩⟩ := b
  obtain ⟨a1, rfl, ha1⟩ := rng_nat ha.1
  obtain ⟨a2, rfl, ha2⟩ := rng_nat ha.2
  obtain ⟨b1, rfl, hb1⟩ := rng_nat hb.1
  obtain ⟨b2, rfl, hb2⟩ := rng_nat hb.2
  have ea : nat ((a1 : Int), (a2 : Int), ()) = a1 <<< 64 ^^^ a2 := rfl
  have eb : nat ((b1 : Int), (b2 : Int), ()) = b1 <<< 64 ^^^ b2 := rfl
  rw [ea] at na
  rw [eb] at nb
  refine T.ite (fun g => ?_) (fun g => ?_)
  · have hl6 : l ≤ 6 := by have := of_decide_eq_true g; omega
    have za : a1 = 0 := by have h := lt64 hl6 na; rw [← shr_zero, Tow.hi_of ha2] at h; exact h
    have zb : b1 = 0 := by have h := lt64 hl6 nb; rw [← shr_zero, Tow.hi_of hb2] at h; exact h
    subst za zb
    have e1 : ∀ x : Nat, (0 : Nat) <<< 64 ^^^ x = x := fun x => by simp
    rw [e1] at na nb
    refine T.bind (mul_N l hl6 a2 b2 na nb) fun r hr => T.pure ?_
    subst hr
    unfold Pr
    rw [ea, eb, e1, e1, Tow.mul_to7 (by omega) na nb]
    have hlt := lt64 hl6 (Tow.mul_lt l _ _ na nb)
    have := mk_cat (a := 0) (by decide) hlt
    rw [e1] at this
    exact this.symm
  · have hl7 : l = 7 := by have := of_decide_eq_false g; omega
    subst hl7
    refine T.bind (mul_N 6 (by omega) a1 b1 ha1 hb1) fun t1 e1 => T.bind (mul_N 6 (by omega) a2 b2 ha2 hb2) fun t2 e2 => ?_
    simp only [xor_nat ha1 ha2, xor_nat hb1 hb2]
    refine T.bind (mul_N 6 (by omega) _ _ (Nat.xor_lt_two_pow ha1 ha2) (Nat.xor_lt_two_pow hb1 hb2)) fun t3 e3 => ?_
    have g1 : _ < 2 ^ 64 := Tow.mul_lt 6 _ _ ha1 hb1
    have g2 : _ < 2 ^ 64 := Tow.mul_lt 6 _ _ ha2 hb2
    have g3 : _ < 2 ^ 64 := Tow.mul_lt 6 _ _ (Nat.xor_lt_two_pow ha1 ha2) (Nat.xor_lt_two_pow hb1 hb2)
    subst e1 e2 e3
    refine T.bind (mulX_N 6 (by omega) _ g1) fun t4 e4 => T.pure ?_
    have g4 : _ < 2 ^ 64 := Tow.mulX_lt 6 _ g1
    subst e4
    rw [xor_nat g3 g1, xor_nat (Nat.xor_lt_two_pow g3 g1) g2, xor_nat (Nat.xor_lt_two_pow (Nat.xor_lt_two_pow g3 g1) g2) g4, xor_nat g2 g1]
    have m := Tow.mul_eq 6 (nat ((a1 : Int), (a2 : Int), ())) (nat ((b1 : Int), (b2 : Int), ()))
    have s6 : (2 : Nat) ^ 6 = 64 := rfl
    rw [s6, ea, eb, Tow.hi_of ha2, Tow.lo_of ha2, Tow.hi_of hb2, Tow.lo_of hb2] at m
    unfold Pr
    rw [ea, eb, m, mk_cat (Nat.xor_lt_two_pow (Nat.xor_lt_two_pow (Nat.xor_lt_two_pow g3 g1) g2) g4) (Nat.xor_lt_two_pow g2 g1)]
end Go.Proofs.Ytplmejnoepkdgaa.H1
namespace Go.Proofs.Ytplmejnoepkdgaa.Tow
def chkT (j : Nat) : Bool := allB 64 fun i => Nat.beq (tw j ((2 ^ i) &&& msk j) &&& msk j) (tw j ((2 ^ i) &&& msk j))
theorem inside0 : chkT 0 = true := by decide +kernel
theorem inside1 : chkT 1 = true := by decide +kernel
theorem inside2 : chkT 2 = true := by decide +kernel
theorem inside3 : chkT 3 = true := by decide +kernel
theorem inside4 : chkT 4 = true := by decide +kernel
theorem inside5 : chkT 5 = true := by decide +kernel
theorem j6 {j : Nat} (h : j ≤ 5) : j = 0 ∨ j = 1 ∨ j = 2 ∨ j = 3 ∨ j = 4 ∨ j = 5 := by omega
theorem tw_in {j v : Nat} (hj : j ≤ 5) (hv : v < 2 ^ 64) : tw j (v &&& msk j) &&& msk j = tw j (v &&& msk j) := by
  have hc : chkT j = true := by
    rcases j6 hj with rfl | rfl | rfl | rfl | rfl | rfl
    · exact inside0
    · exact inside1
    · exact inside2
    · exact inside3
    · exact inside4
    · exact inside5
  refine by_bits (fun v => tw j (v &&& msk j) &&& msk j) (fun v => tw j (v &&& msk j)) (fun x y => ?_) (fun x y => ?_) 64 (fun i hi => ?_) v hv
  · simp only [Nat.and_xor_distrib_right, tw_xor]
  · simp only [Nat.and_xor_distrib_right, tw_xor]
  · exact Nat.eq_of_beq_eq_true (allB_spec _ _ hc i hi)
theorem msk_shl {j : Nat} (hj : j ≤ 5) : msk j <<< 2 ^ j < 2 ^ 64 ∧ (msk j <<< 2 ^ j) &&& msk j = 0 ∧ msk j < 2 ^ 64 := by
  rcases j6 hj with rfl | rfl | rfl | rfl | rfl | rfl <;> decide
theorem or_disj {A B M N : Nat} (hA : A &&& M = A) (hB : B &&& N = B) (h : M &&& N = 0) : A ||| B = A ^^^ B := by
  apply Nat.eq_of_testBit_eq
  intro i
  have h1 := congrArg (fun x => x.testBit i) hA
  have h2 := congrArg (fun x => x.testBit i) hB
  have h3 := congrArg (fun x => x.testBit i) h
  simp only [Nat.testBit_and, Nat.zero_testBit] at h1 h2 h3
  rw [Nat.testBit_or, Nat.testBit_xor]
  revert h1 h2 h3
  cases A.testBit i <;> cases B.testBit i <;> cases M.testBit i <;> cases N.testBit i <;> simp
/-- The upper part of a word's product with a generator. -/
def twX (j v : Nat) : Nat := (v &&& msk j) ^^^ tw j ((v >>> 2 ^ j) &&& msk j)
theorem shr_lt64 {v s : Nat} (hv : v < 2 ^ 64) : v >>> s < 2 ^ 64 := by
  rw [Nat.shiftRight_eq_div_pow]; exact Nat.lt_of_le_of_lt (Nat.div_le_self _ _) hv
theorem twX_in {j v : Nat} (hj : j ≤ 5) (hv : v < 2 ^ 64) : twX j v &&& msk j = twX j v := by
  unfold twX
  rw [Nat.and_xor_distrib_right, tw_in hj (shr_lt64 hv), Nat.and_assoc, Nat.and_self]
theorem twX_le {j v : Nat} (hj : j ≤ 5) (hv : v < 2 ^ 64) : twX j v ≤ msk j := by rw [← twX_in hj hv]; exact Nat.and_le_right
theorem twX_shl {j v : Nat} (hj : j ≤ 5) (hv : v < 2 ^ 64) : twX j v <<< 2 ^ j < 2 ^ 64 := by
  refine Nat.lt_of_le_of_lt ?_ (msk_shl hj).1
  rw [Nat.shiftLeft_eq, Nat.shiftLeft_eq]
  exact Nat.mul_le_mul_right _ (twX_le hj hv)
theorem and_lt64 {a b : Nat} (hb : b < 2 ^ 64) : a &&& b < 2 ^ 64 := Nat.lt_of_le_of_lt Nat.and_le_right hb
theorem tw_succ (j v : Nat) : tw (j + 1) v = twX j v <<< 2 ^ j ^^^ ((v >>> 2 ^ j) &&& msk j) := rfl
theorem tw_lt : ∀ {j v : Nat}, j ≤ 6 → v < 2 ^ 64 → tw j v < 2 ^ 64
  | 0, v, _, hv => hv
  | j + 1, v, hj, hv => by
    rw [tw_succ]
    exact Nat.xor_lt_two_pow (twX_shl (by omega) hv) (and_lt64 (msk_shl (by omega)).2.2)
theorem tw_or {j v : Nat} (hj : j ≤ 5) (hv : v < 2 ^ 64) : twX j v <<< 2 ^ j ||| ((v >>> 2 ^ j) &&& msk j) = tw (j + 1) v := by
  rw [tw_succ]
  refine or_disj (M := msk j <<< 2 ^ j) (N := msk j) ?_ (by rw [Nat.and_assoc, Nat.and_self]) (msk_shl hj).2.1
  rw [← Nat.shiftLeft_and_distrib, twX_in hj hv]
theorem times_lt {j e : Nat} (hj : j ≤ 6) (he : e < 2 ^ 2 ^ 7) : times j e < 2 ^ 2 ^ 7 := by
  have e1 : (2 : Nat) ^ 2 ^ 7 = 2 ^ (64 + 64) := by decide
  rw [e1] at he ⊢
  have hh := hi_lt he
  have hl : e &&& M64 < 2 ^ 64 := lo_lt 64 e
  unfold times
  cases hb : Nat.blt j 6 with
  | true =>
    have hj6 : j < 6 := Nat.blt_eq.mp hb
    exact cat_lt (tw_lt (by omega) hh) (tw_lt (by omega) hl)
  | false => exact cat_lt (Nat.xor_lt_two_pow hl (tw_lt (by omega) hh)) hh
theorem timesFrom_lt (n : Nat) : ∀ (f j e : Nat), j + f ≤ 7 → e < 2 ^ 2 ^ 7 → timesFrom f j n e < 2 ^ 2 ^ 7
  | 0, j, e, _, he => he
  | f + 1, j, e, hj, he => by
    rw [timesFrom]
    refine timesFrom_lt n f (j + 1) _ (by omega) ?_
    cases Nat.beq ((n >>> j) % 2) 1
    · exact he
    · exact times_lt (by omega) he
theorem prodTo_lt {a b : Nat} (ha : a < 2 ^ 2 ^ 7) : ∀ n, prodTo n a b < 2 ^ 2 ^ 7
  | 0 => Nat.two_pow_pos _
  | n + 1 => by
    rw [prodTo]
    refine Nat.xor_lt_two_pow (prodTo_lt ha n) ?_
    cases b.testBit n
    · exact Nat.two_pow_pos _
    · exact timesFrom_lt n 7 0 a (by omega) ha
end Go.Proofs.Ytplmejnoepkdgaa.Tow
namespace Go.Proofs.Ytplmejnoepkdgaa.H1
open Go Go.Proofs.Ytplmejnoepkdgaa.Rf
theorem and_2pow (x n : Nat) : x &&& 2 ^ n = (x.testBit n).toNat * 2 ^ n := by
  apply Nat.eq_of_testBit_eq
  intro i
  rw [Nat.testBit_and, Nat.testBit_two_pow]
  by_cases e : n = i
  · subst e
    cases hb : x.testBit n <;> simp
  · cases hb : x.testBit n <;> simp [e, Nat.testBit_two_pow]
theorem bit_N {n : Nat} (hn : n < 128) : T (fun k => steepleref02_Bit.f k (n : Int)) (fun r => r = mk (2 ^ n)) := by
  refine T.eq (steepleref02_Bit.f_eq · _) (T.no (by simp only [decide_eq_false_iff_not]; omega) (T.no (by simp only [decide_eq_false_iff_not]; omega) (T.ite (fun h => ?_) (fun h => ?_))))
  · have h : 63 < n := by have := of_decide_eq_true h; omega
    rw [w64_in (by omega) (by omega), wu_in (by omega) (by omega)]
    have e : (n : Int) - 64 = ((n - 64 : Nat) : Int) := by omega
    rw [e]
    refine T.no (nn _) (T.pure ?_)
    have h1 : (1 : Nat) <<< (n - 64) = 2 ^ (n - 64) := Nat.one_shiftLeft _
    have h2 : 2 ^ (n - 64) < 2 ^ 64 := Nat.pow_lt_pow_right (by decide) (by omega)
    have := shl_nat (a := 1) (s := n - 64) (by omega) (by rw [h1]; exact h2)
    rw [h1] at this
    have e2 : (2 : Nat) ^ n = 2 ^ (n - 64) <<< 64 ^^^ 0 := by
      rw [Nat.xor_zero, Nat.shiftLeft_eq, ← Nat.pow_add]; congr 1; omega
    rw [e2, mk_cat h2 (by decide)]
    exact Prod.ext this rfl
  · have h : n ≤ 63 := by have := of_decide_eq_false h; omega
    rw [wu_in (by omega) (by omega)]
    refine T.no (nn _) (T.pure ?_)
    have h1 : (1 : Nat) <<< n = 2 ^ n := Nat.one_shiftLeft _
    have h2 : 2 ^ n < 2 ^ 64 := Nat.pow_lt_pow_right (by decide) (by omega)
    have := shl_nat (a := 1) (s := n) (by omega) (by rw [h1]; exact h2)
    rw [h1] at this
    have e2 : (2 : Nat) ^ n = 0 <<< 64 ^^^ 2 ^ n := by simp
    rw [e2, mk_cat (by decide) h2]
    exact Prod.ext rfl (Prod.ext this rfl)
theorem has_N {x : E} (hx : rngE x) {n : Nat} (hn : n < 128) : T (fun k => steepleref02_Has.f k x (n : Int)) (fun b => b = (nat x).testBit n) := by
  refine T.eq (steepleref02_Has.f_eq · x _) (T.bind (bit_N hn) fun r hr => T.pure ?_)
  subst hr
  obtain ⟨a, b, ⟨⟩⟩ := x
  obtain ⟨a, rfl, ha⟩ := rng_nat hx.1
  obtain ⟨b, rfl, hb⟩ := rng_nat hx.2
  have e : nat ((a : Int), (b : Int), ()) = a <<< 64 ^^^ b := rfl
  rw [e]
  show ((orI .u64 (andI .u64 (b : Int) (mk (2 ^ n)).2.1) (andI .u64 (a : Int) (mk (2 ^ n)).1)) != 0) = _
  by_cases h : 63 < n
  · have h2 : 2 ^ (n - 64) < 2 ^ 64 := Nat.pow_lt_pow_right (by decide) (by omega)
    have e2 : (2 : Nat) ^ n = 2 ^ (n - 64) <<< 64 ^^^ 0 := by
      rw [Nat.xor_zero, Nat.shiftLeft_eq, ← Nat.pow_add]; congr 1; omega
    rw [e2, mk_cat h2 (by decide)]
    show ((orI .u64 (andI .u64 (b : Int) ((0 : Nat) : Int)) (andI .u64 (a : Int) ((2 ^ (n - 64) : Nat) : Int))) != 0) = _
    rw [and_nat hb (by decide), and_nat ha h2, Nat.and_zero, or_nat (by decide) (Tow.and_lt64 h2), Nat.zero_or, and_2pow, Nat.testBit_xor, Nat.testBit_shiftLeft, Nat.testBit_lt_two_pow (i := n) (Nat.lt_of_lt_of_le hb (Nat.pow_le_pow_right (by decide) (by omega)))]
    have : decide (64 ≤ n) = true := by simp; omega
    rw [show decide (n ≥ 64) = true from this]
    cases a.testBit (n - 64)
    · simp
    · have : 0 < 2 ^ (n - 64) := Nat.two_pow_pos _
      simp
      have h2 := Int.pow_pos (n := (2 : Int)) (m := n - 64) (show (0 : Int) < 2 by decide)
      omega
  · have h2 : 2 ^ n < 2 ^ 64 := Nat.pow_lt_pow_right (by decide) (by omega)
    have e2 : (2 : Nat) ^ n = 0 <<< 64 ^^^ 2 ^ n := by simp
    rw [e2, mk_cat (by decide) h2]
    show ((orI .u64 (andI .u64 (b : Int) ((2 ^ n : Nat) : Int)) (andI .u64 (a : Int) ((0 : Nat) : Int))) != 0) = _
    rw [and_nat hb h2, and_nat ha (by decide), Nat.and_zero, or_nat (Tow.and_lt64 h2) (by decide), Nat.or_zero, and_2pow, Nat.testBit_xor, Nat.testBit_shiftLeft]
    have : decide (n ≥ 64) = false := by simp; omega
    rw [this]
    cases b.testBit n
    · simp
    · have : 0 < 2 ^ n := Nat.two_pow_pos _
      simp
      have h2 := Int.pow_pos (n := (2 : Int)) (m := n) (show (0 : Int) < 2 by decide)
      omega
theorem mask_N {j : Nat} (hj : j ≤ 5) : T (fun k => steepleref02_mask.f k (j : Int)) (fun r => r = ((Tow.msk j : Nat) : Int)) := by
  rcases Tow.j6 hj with rfl | rfl | rfl | rfl | rfl | rfl <;> exact T.eq (steepleref02_mask.f_eq · _) (T.yes (by decide) (T.pure (by decide)))
theorem tword_N : ∀ (j : Nat), j ≤ 6 → ∀ v : Nat, v < 2 ^ 64 → T (fun k => steepleref02_timesWord.f k ((j : Int) - 1) (v : Int)) (fun r => r = ((Tow.tw j v : Nat) : Int))
  | 0, _, v, hv => T.eq (steepleref02_timesWord.f_eq · _ _) (T.yes (by decide) (T.pure rfl))
  | j + 1, hj, v, hv => by
    have e : (((j + 1 : Nat) : Int) - 1) = (j : Int) := by omega
    rw [e]
    have hp : 2 ^ j ≤ 32 := p2le (m := 5) (by omega)
    refine T.eq (steepleref02_timesWord.f_eq · _ _) (T.no (by simp only [decide_eq_false_iff_not]; omega) ?_)
    rw [wu_in (by omega) (by omega), shl_pow_u (by omega), w64_in (by omega) (by omega)]
    refine T.no (nn _) (T.no (nn _) (T.bind (mask_N (by omega)) fun m hm => T.bind (mask_N (by omega)) fun m2 hm2 => ?_))
    subst hm hm2
    have hm := (Tow.msk_shl (j := j) (by omega)).2.2
    rw [shr_nat (by omega), and_nat (Tow.shr_lt64 hv) hm]
    refine T.bind (tword_N j (by omega) _ (Tow.and_lt64 hm)) fun r hr => T.no (nn _) (T.pure ?_)
    subst hr
    have h3 := Tow.tw_lt (j := j) (v := v >>> 2 ^ j &&& Tow.msk j) (by omega) (Tow.and_lt64 hm)
    rw [and_nat hv hm, xor_nat (Tow.and_lt64 hm) h3]
    have hs := Tow.twX_shl (j := j) (by omega) hv
    show orI .u64 (shlI .u64 ((Tow.twX j v : Nat) : Int) ((2 ^ j : Nat) : Int)) _ = _
    rw [shl_nat (by omega) hs, or_nat hs (Tow.and_lt64 hm)]
    exact congrArg _ (Tow.tw_or (by omega) hv)
theorem times_N {x : E} (hx : rngE x) {j : Nat} (hj : j ≤ 6) : T (fun k => steepleref02_Times.f k (j : Int) x) (fun r => r = mk (Tow.times j (nat x))) := by
  obtain ⟨a, b, ⟨⟩⟩ := x
  obtain ⟨a, rfl, ha⟩ := rng_nat hx.1
  obtain ⟨b, rfl, hb⟩ := rng_nat hx.2
  have e : nat ((a : Int), (b : Int), ()) = a <<< 64 ^^^ b := rfl
  have e1 : (a <<< 64 ^^^ b) >>> 64 = a := Tow.hi_of hb
  have e2 : (a <<< 64 ^^^ b) &&& Tow.M64 = b := Tow.lo_of hb
  rw [e]
  refine T.eq (steepleref02_Times.f_eq · _ _) (T.ite (fun h => ?_) (fun h => ?_))
  · have h : j < 6 := by have := of_decide_eq_true h; omega
    have ej : (j : Int) = ((j + 1 : Nat) : Int) - 1 := by omega
    rw [ej]
    refine T.bind (tword_N (j + 1) (by omega) a ha) fun r1 h1 => T.bind (tword_N (j + 1) (by omega) b hb) fun r2 h2 => T.pure ?_
    subst h1 h2
    unfold Tow.times
    rw [Nat.blt_eq.mpr h, e1, e2]
    exact (mk_cat (Tow.tw_lt (by omega) ha) (Tow.tw_lt (by omega) hb)).symm
  · have h : j = 6 := by have := of_decide_eq_false h; omega
    subst h
    refine T.bind (tword_N 6 (by omega) a ha) fun r1 h1 => T.pure ?_
    subst h1
    show (xorI .u64 (b : Int) _, _) = _
    rw [xor_nat hb (Tow.tw_lt (by omega) ha)]
    have : Tow.times 6 (a <<< 64 ^^^ b) = (b ^^^ Tow.tw 6 a) <<< 64 ^^^ a := by
      show ((_ &&& Tow.M64) ^^^ Tow.tw 6 (_ >>> 64)) <<< 64 ^^^ (_ >>> 64) = _
      rw [e1, e2]
    rw [this, mk_cat (Nat.xor_lt_two_pow hb (Tow.tw_lt (by omega) ha)) ha]
theorem bitI {n j : Nat} (hn : n < 128) (hj : j < 7) : andI .i64 (shrI .i64 (n : Int) (wu64 (j : Int))) 1 = (((n >>> j) % 2 : Nat) : Int) := by
  rw [wu_in (by omega) (by omega)]
  have e1 : shrI .i64 (n : Int) (j : Int) = ((n >>> j : Nat) : Int) := by
    unfold shrI
    have e : min ((j : Int).toNat) IntKind.i64.bits = j := by rw [Int.toNat_natCast]; exact Nat.min_eq_left (show j ≤ 64 by omega)
    rw [e, Nat.shiftRight_eq_div_pow, Int.fdiv_eq_ediv_of_nonneg _ (by exact Int.le_of_lt (Int.pow_pos (by decide)))]
    simp
  rw [e1]
  have hm : n >>> j < 128 := by rw [Nat.shiftRight_eq_div_pow]; exact Nat.lt_of_le_of_lt (Nat.div_le_self _ _) hn
  generalize n >>> j = m at hm
  show IntKind.i64.wrap ((BitVec.ofInt 64 (m : Int) &&& BitVec.ofInt 64 1).toNat : Int) = _
  rw [BitVec.toNat_and, toNat_nat (by omega), show (BitVec.ofInt 64 1).toNat = 1 by decide, Nat.and_one_is_mod]
  exact w64_in (by omega) (by omega)
theorem prod_T {a b : E} (ha : rngE a) (hb : rngE b) : T (fun k => steepleref02_Product.f k a b) (fun r => r = Pr a b) := by
  refine T.eq (steepleref02_Product.f_eq · a b) (T.loop0 (f := fun k s i => steepleref02_Product.l58 k a b (0, 0, ()) s i) 128 (fun s i => s = mk (Tow.prodTo i (nat a) (nat b))) (0, 0, ()) (show (0, 0, ()) = mk 0 by decide) fun s i hi hI ih => ?_)
  subst hI
  refine T.eq (steepleref02_Product.l58_eq · a b _ _ _) (T.ite (fun hlt => ?_) (fun hge => ?_))
  · have hlt : i < 128 := by have := of_decide_eq_true hlt; omega
    refine T.bind (has_N hb hlt) fun t ht => T.ite (fun h => ?_) (fun h => ?_)
    · have h : (nat b).testBit i = false := by subst ht; simpa using h
      rw [inc (by omega)]
      refine ih _ hlt ?_
      rw [Tow.prodTo, h]; simp
    · have h : (nat b).testBit i = true := by subst ht; simpa using h
      refine T.loop0 (f := fun k s j => steepleref02_Product.l29850 k a b (0, 0, ()) (mk (Tow.prodTo i (nat a) (nat b))) (i : Int) s j) 7 (fun s j => rngE s ∧ Tow.timesFrom (7 - j) j i (nat s) = Tow.timesAll i (nat a)) a ⟨ha, rfl⟩ fun s j hj hI ih2 => ?_
      refine T.eq (steepleref02_Product.l29850_eq · a b _ _ _ _ _) (T.ite (fun hlt2 => ?_) (fun hge => ?_))
      · have hlt2 : j < 7 := by have := of_decide_eq_true hlt2; omega
        rw [inc (by omega)]
        have e7 : 7 - j = (7 - (j + 1)) + 1 := by omega
        rw [e7, Tow.timesFrom] at hI
        refine T.no (by rw [wu_in (by omega) (by omega)]; simp) (T.ite (fun hb1 => T.bind (times_N hI.1 (by omega)) fun t ht => ?_) (fun hb1 => ?_))
        · rw [bitI hlt hlt2] at hb1
          have hb1 : (i >>> j) % 2 = 1 := by
            have : (((i >>> j) % 2 : Nat) : Int) = 1 := by simpa using hb1
            omega
          subst ht
          refine ih2 _ hlt2 ⟨mk_rng (Tow.times_lt (by omega) (nat_lt hI.1)), ?_⟩
          rw [nat_mk]
          have := hI.2
          rw [hb1] at this
          exact this
        · rw [bitI hlt hlt2] at hb1
          have hb1 : (i >>> j) % 2 = 0 := by
            have : ¬ (((i >>> j) % 2 : Nat) : Int) = 1 := by simpa using hb1
            omega
          refine ih2 _ hlt2 ⟨hI.1, ?_⟩
          have := hI.2
          rw [hb1] at this
          exact this
      · have hge : j = 7 := by have := of_decide_eq_false hge; omega
        subst hge
        refine T.bind (p := fun r => r = Av (mk (Tow.prodTo i (nat a) (nat b))) s) (T.eq (steepleref02_Add.f_eq · _ _) (T.pure rfl)) fun t ht => ?_
        subst ht
        rw [inc (by omega)]
        refine ih _ hlt ?_
        have h2 : nat s = Tow.timesAll i (nat a) := hI.2
        rw [Tow.prodTo, h]
        show _ = mk (_ ^^^ Tow.timesAll i (nat a))
        rw [← h2, mk_xor (Tow.prodTo_lt (nat_lt ha) i) (nat_lt hI.1), mk_nat hI.1]
  · have hge : i = 128 := by have := of_decide_eq_false hge; omega
    subst hge
    exact T.pure (by rw [Tow.prod_mul (nat_lt ha) (nat_lt hb)]; rfl)
end Go.Proofs.Ytplmejnoepkdgaa.H1
namespace Go.Proofs.Ytplmejnoepkdgaa.H1
open Go Go.Proofs.Ytplmejnoepkdgaa.Rf
theorem wide_X (l : Int) : T (fun k => octet_Wide.f k l) (fun r => r = 0 ↔ (l < 0 ∨ l > 7)) := by
  refine T.eq (octet_Wide.f_eq · l) (T.ite (fun h1 => T.pure ?_) fun h1 => T.ite (fun h2 => T.pure ?_) fun h2 => T.ite (fun h3 => T.pure ?_) fun h3 => T.no ?_ (T.pure ?_))
  · exact ⟨fun _ => .inl (of_decide_eq_true h1), fun _ => rfl⟩
  · exact ⟨fun _ => .inr (of_decide_eq_true h2), fun _ => rfl⟩
  · have h1 := of_decide_eq_false h1
    have h2 := of_decide_eq_false h2
    exact ⟨fun h => (by cases h), fun h => (by omega)⟩
  · have h1 := of_decide_eq_false h1
    have h2 := of_decide_eq_false h2
    have h3 := of_decide_eq_false h3
    rw [w64_in (by omega) (by omega)]; simp only [decide_eq_false_iff_not]; omega
  · have h1 := of_decide_eq_false h1
    have h2 := of_decide_eq_false h2
    have h3 := of_decide_eq_false h3
    have hc : l = 4 ∨ l = 5 ∨ l = 6 ∨ l = 7 := by omega
    rcases hc with rfl | rfl | rfl | rfl <;> decide
end Go.Proofs.Ytplmejnoepkdgaa.H1
namespace Go.Proofs.Ytplmejnoepkdgaa.H1
open Go Go.Proofs.Ytplmejnoepkdgaa.Rf
theorem bit_X {x : E} (hx : rngE x) {i : Nat} (hi : i < 128) : T (fun k => steepleref01_bit.f k x (i : Int)) (fun r => r = (((nat x).testBit i).toNat : Nat)) := by
  obtain ⟨a, b, ⟨⟩⟩ := x
  obtain ⟨a, rfl, ha⟩ := rng_nat hx.1
  obtain ⟨b, rfl, hb⟩ := rng_nat hx.2
  have e : nat ((a : Int), (b : Int), ()) = a <<< 64 ^^^ b := rfl
  rw [e]
  have key : ∀ {m s : Nat}, m < 2 ^ 64 → s ≤ 64 → andI .u64 (shrI .u64 (m : Int) (s : Int)) 1 = (((m.testBit s).toNat : Nat) : Int) := fun {m s} hm hs => by
    rw [shr_nat hs]
    have := and_nat (a := m >>> s) (b := 1) (Tow.shr_lt64 hm) (by decide)
    refine Eq.trans this ?_
    rw [Nat.and_one_is_mod, Nat.toNat_testBit, Nat.shiftRight_eq_div_pow]
  refine T.eq (steepleref01_bit.f_eq · _ _) (T.ite (fun h => ?_) (fun h => ?_))
  · have h : 64 ≤ i := by have := of_decide_eq_true h; omega
    rw [w64_in (by omega) (by omega), wu_in (by omega) (by omega)]
    have e2 : (i : Int) - 64 = ((i - 64 : Nat) : Int) := by omega
    rw [e2]
    refine T.no (by simp only [decide_eq_false_iff_not]; omega) (T.pure ?_)
    show andI .u64 (shrI .u64 (a : Int) ((i - 64 : Nat) : Int)) 1 = _
    rw [key ha (by omega), Nat.testBit_xor, Nat.testBit_shiftLeft, Nat.testBit_lt_two_pow (i := i) (Nat.lt_of_lt_of_le hb (Nat.pow_le_pow_right (by decide) h))]
    have : decide (i ≥ 64) = true := by simpa using h
    rw [this]; simp
  · have h : i < 64 := by have := of_decide_eq_false h; omega
    rw [wu_in (by omega) (by omega)]
    refine T.no (by simp only [decide_eq_false_iff_not]; omega) (T.pure ?_)
    show andI .u64 (shrI .u64 (b : Int) (i : Int)) 1 = _
    rw [key hb (by omega), Nat.testBit_xor, Nat.testBit_shiftLeft]
    have : decide (i ≥ 64) = false := by simpa using h
    rw [this]; simp
theorem rof_X (lv : Int) {x : E} (hx : rngE x) : T (fun k => steepleref01_Of.f k lv x) (fun b => b = ofB lv x) := by
  refine T.eq (steepleref01_Of.f_eq · lv x) (T.ite (fun h => T.pure ?_) fun h1 => T.ite (fun h => T.pure ?_) fun h2 => ?_)
  · have h : lv < 0 := of_decide_eq_true h
    unfold ofB; rw [if_pos h]
  · have h1 : ¬ lv < 0 := of_decide_eq_false h1
    have h : lv > 7 := of_decide_eq_true h
    unfold ofB; rw [if_neg h1, if_pos h]
  · have h1 : ¬ lv < 0 := of_decide_eq_false h1
    have h2 : ¬ lv > 7 := of_decide_eq_false h2
    obtain ⟨l, rfl⟩ := Int.eq_ofNat_of_zero_le (show 0 ≤ lv by omega)
    have hl : l ≤ 7 := by omega
    refine T.yes (inB_nat (by show l < 8; omega)) ?_
    have e : ([1, 2, 4, 8, 16, 32, 64, 128] : List Int).getD ((l : Int).toNat) 0 = ((2 ^ l : Nat) : Int) := by
      rcases (show l = 0 ∨ l = 1 ∨ l = 2 ∨ l = 3 ∨ l = 4 ∨ l = 5 ∨ l = 6 ∨ l = 7 by omega) with rfl | rfl | rfl | rfl | rfl | rfl | rfl | rfl <;> rfl
    show T (fun k => steepleref01_Of.l122 k x (([1, 2, 4, 8, 16, 32, 64, 128] : List Int).getD ((l : Int).toNat) 0)) _
    rw [e]
    have hp : 2 ^ l ≤ 128 := p2le (m := 7) hl
    refine T.loop (σ := Unit) (f := fun k _ i => steepleref01_Of.l122 k x i) 128 (fun _ i => 2 ^ l ≤ i ∧ ∀ j, 2 ^ l ≤ j → j < i → (nat x).testBit j = false) (fun s i hi hI ih => ?_) (128 - 2 ^ l) () (2 ^ l) (by omega) hp ⟨Nat.le_refl _, fun j a b => by omega⟩
    obtain ⟨I1, I2⟩ := hI
    refine T.eq (steepleref01_Of.l122_eq · _ _) (T.ite (fun hlt => ?_) (fun hge => ?_))
    · have hlt : i < 128 := by have := of_decide_eq_true hlt; omega
      refine T.bind (bit_X hx hlt) fun b hb => T.ite (fun h => T.pure ?_) (fun h => ?_)
      · have hbit : (nat x).testBit i = true := by
          subst hb
          cases hc : (nat x).testBit i with
          | true => rfl
          | false => rw [hc] at h; cases h
        symm
        rw [Bool.eq_false_iff]
        intro ho
        have := (ofB_iff hl hx).1 ho
        rw [Nat.testBit_lt_two_pow (Nat.lt_of_lt_of_le this (Nat.pow_le_pow_right (by decide) I1))] at hbit
        cases hbit
      · have hbit : (nat x).testBit i = false := by
          subst hb
          cases hc : (nat x).testBit i with
          | false => rfl
          | true => rw [hc] at h; cases h
        rw [inc (by omega)]
        refine ih () hlt ⟨by omega, fun j a b => ?_⟩
        by_cases ej : j = i
        · subst ej; exact hbit
        · exact I2 j a (by omega)
    · have hge : i = 128 := by have := of_decide_eq_false hge; omega
      subst hge
      refine T.pure ?_
      symm
      rw [ofB_iff hl hx]
      refine Nat.lt_pow_two_of_testBit _ fun j hj => ?_
      by_cases h : j < 128
      · exact I2 j hj h
      · exact Nat.testBit_lt_two_pow (Nat.lt_of_lt_of_le (nat_lt hx) (Nat.pow_le_pow_right (by decide) (by show 2 ^ 7 ≤ j; omega)))
/-- Elements of words. -/
def allR (l : List E) : Prop := ∀ j, rngE (l.getD j z)
theorem all_X (lv : Int) {l : List E} (hl : l.length ≤ 100000000) (hr : allR l) : T (fun k => steepleref06_All.f k lv l) (fun b => b = true ↔ allOf lv l) := by
  refine T.eq (steepleref06_All.f_eq · lv l) (T.loop0 (σ := Unit) (f := fun k _ i => steepleref06_All.l26 k lv l i) l.length (fun _ i => ∀ j, j < i → ofB lv (l.getD j z) = true) () (fun j h => absurd h (by omega)) fun s i hi hI ih => ?_)
  refine T.eq (steepleref06_All.l26_eq · lv l _) (T.ite (fun hlt => ?_) (fun hge => ?_))
  · have hlt := lt_dec hlt
    simp only [Int.toNat_natCast]
    refine T.yes (inB_nat hlt) (T.bind (rof_X lv (hr i)) fun b hb => T.ite (fun h => T.pure ?_) (fun h => ?_))
    · have hb : b = ofB lv (l.getD i z) := hb
      have e : ofB lv (l.getD i z) = false := by rw [← hb]; simpa using h
      exact ⟨fun h => (by cases h), fun h => by rw [h i hlt] at e; cases e⟩
    · have hb : b = ofB lv (l.getD i z) := hb
      have e : ofB lv (l.getD i z) = true := by rw [← hb]; simpa using h
      rw [inc (by omega)]
      refine ih () hlt fun j hj => ?_
      by_cases ej : j = i
      · subst ej; exact e
      · exact hI j (by omega)
  · have e : i = l.length := by have := nlt_dec hge; omega
    subst e
    exact T.pure ⟨fun _ => hI, fun _ => rfl⟩
end Go.Proofs.Ytplmejnoepkdgaa.H1
namespace Go.Proofs.Ytplmejnoepkdgaa.H1
open Go Go.Proofs.Ytplmejnoepkdgaa.Rf
theorem any_getD {α : Type} (d : α) (p : α → Bool) (l : List α) : l.any p = true ↔ ∃ i, i < l.length ∧ p (l.getD i d) = true := by
  rw [List.any_eq_true]
  constructor
  · rintro ⟨x, hx, hp⟩
    obtain ⟨i, hi, rfl⟩ := List.getElem_of_mem hx
    exact ⟨i, hi, by rw [List.getD_eq_getElem?_getD, List.getElem?_eq_getElem hi]; exact hp⟩
  · rintro ⟨i, hi, hp⟩
    rw [List.getD_eq_getElem?_getD, List.getElem?_eq_getElem hi] at hp
    exact ⟨l[i], List.getElem_mem hi, hp⟩
theorem all_getD {α : Type} (d : α) (p : α → Bool) (l : List α) : l.all p = true ↔ ∀ i, i < l.length → p (l.getD i d) = true := by
  rw [List.all_eq_true]
  constructor
  · intro h i hi
    rw [List.getD_eq_getElem?_getD, List.getElem?_eq_getElem hi]; exact h _ (List.getElem_mem hi)
  · intro h x hx
    obtain ⟨i, hi, rfl⟩ := List.getElem_of_mem hx
    have := h i hi
    rw [List.getD_eq_getElem?_getD, List.getElem?_eq_getElem hi] at this
    exact this
theorem any_none {α : Type} {d : α} {p : α → Bool} {l : List α} (h : ∀ i, i < l.length → p (l.getD i d) = false) : l.any p = false := by
  rw [Bool.eq_false_iff]; intro hh
  obtain ⟨i, hi, hp⟩ := (any_getD d p l).1 hh
  rw [h i hi] at hp; cases hp
theorem all_not {α : Type} {d : α} {p : α → Bool} {l : List α} {i : Nat} (hi : i < l.length) (h : p (l.getD i d) = false) : l.all p = false := by
  rw [Bool.eq_false_iff]; intro hh
  rw [(all_getD d p l).1 hh i hi] at h; cases h
/-- A search. -/
theorem find_X {α : Type} (l : List α) (d : α) (p : α → Bool) (hl : l.length ≤ 100000000) {f : Nat → Int → Option Int} {g : Nat → α → Option Bool}
    (he : ∀ k (i : Int), f (k + 1) i = (bif (decide (i < (l.length : Int))) then (bif (inB i l.length) then ((g k (l.getD i.toNat d)).bind fun t => (bif t then (some i) else (f k (w64 (i + 1))))) else none) else (some (-1))))
    (hg : ∀ i, i < l.length → T (fun k => g k (l.getD i d)) (fun b => b = p (l.getD i d))) : T (fun k => f k 0) (fun r => decide (r ≥ 0) = l.any p) := by
  refine T.loop0 (σ := Unit) (f := fun k _ i => f k i) l.length (fun _ i => ∀ j, j < i → p (l.getD j d) = false) () (fun j h => absurd h (by omega)) fun s i hi hI ih => ?_
  refine T.eq (he · _) (T.ite (fun h => ?_) (fun h => T.pure ?_))
  · have hlt := lt_dec h
    simp only [Int.toNat_natCast]
    refine T.yes (inB_nat hlt) (T.bind (hg i hlt) fun b hb => T.ite (fun h => T.pure ?_) (fun h => ?_))
    · subst hb
      rw [(any_getD d p l).2 ⟨i, hlt, h⟩]; simp
    · subst hb
      rw [inc (by omega)]
      refine ih () hlt fun j hj => ?_
      by_cases e : j = i
      · subst e; exact h
      · exact hI j (by omega)
  · have e : i = l.length := by have := nlt_dec h; omega
    subst e
    rw [any_none hI]; rfl
/-- All of a level. -/
def allB (lv : Int) (l : List E) : Bool := l.all (ofB lv)
theorem any_not {α : Type} (p : α → Bool) (l : List α) : (l.any fun x => !p x) = !l.all p := by
  induction l with
  | nil => rfl
  | cons a l ih => simp only [List.any_cons, List.all_cons, ih, Bool.not_and]
theorem of_all_X (lv : Int) (l : List E) (hl : l.length ≤ 100000000) : T (fun k => sumcheck_of.f k lv l) (fun b => b = allB lv l) := by
  refine T.eq (sumcheck_of.f_eq · lv l) (T.bind (p := fun b => b = !allB lv l) ?_ fun b hb => T.pure (by rw [hb]; simp))
  refine T.eq (slices_ContainsFunc_sumcheck_of_1.f_eq · l lv) (T.bind (p := fun r => decide (r ≥ 0) = l.any fun x => !ofB lv x) ?_ fun r hr => T.pure (by rw [hr, any_not]; rfl))
  exact T.eq (slices_IndexFunc_sumcheck_of_1.f_eq · l lv) (find_X (f := fun k i => slices_IndexFunc_sumcheck_of_1.l26 k l lv (l.length : Int) i) (g := fun k x => sumcheck_of_1.f k x lv) l z _ hl (fun k i => slices_IndexFunc_sumcheck_of_1.l26_eq k l lv _ i) fun i hi => of1_S _ lv)
theorem allOf_iff {lv : Int} {l : List E} : allB lv l = true ↔ allOf lv l := all_getD z (ofB lv) l
theorem rAll_X (lv : Int) {l : List E} (hl : l.length ≤ 100000000) (hr : allR l) : T (fun k => steepleref06_All.f k lv l) (fun b => b = allB lv l) :=
  (all_X lv hl hr).mono fun b hb => by rw [Bool.eq_iff_iff, hb, allOf_iff]
/-! Logarithms. -/
/-! How many places there are. -/
def fitsB (lv d : Int) : Bool := decide (0 ≤ lv) && decide (lv ≤ 7) && decide (0 ≤ d) && decide (d ≤ (if lv = 0 then 1 else if lv = 1 then 3 else 8))
def plc (i : Nat) : E := (0, (i : Int), ())
theorem plc_rng {i : Nat} (h : i < 2 ^ 64) : rngE (plc i) := show rng 0 ∧ rng (i : Int) from ⟨⟨by decide, by decide⟩, nat_rng h⟩
theorem nat_plc (i : Nat) : nat (plc i) = i := by
  show (0 : Int).toNat <<< 64 ^^^ ((i : Int)).toNat = i
  simp
theorem plc_of {l i : Nat} (hl : l ≤ 7) (h : i < 2 ^ 64) : ofB (l : Int) (plc i) = true ↔ i < 2 ^ 2 ^ l := by
  rw [ofB_iff hl (plc_rng h), nat_plc]
theorem fits_X (lv d : Int) : T (fun k => line_Fits.f k lv d) (fun b => b = fitsB lv d) := by
  unfold fitsB
  refine T.eq (line_Fits.f_eq · lv d) (T.bind (wide_X lv) fun w hw => T.ite (fun h1 => T.ite (fun h2 => T.ite (fun h3 => T.bind (p := fun r => r = (0, wu64 d, ())) (T.eq (line_place.f_eq · d) (T.pure rfl)) fun r hr => T.bind (of_T lv r) fun b hb => T.pure ?_) (fun h3 => T.pure ?_)) (fun h2 => T.pure ?_)) (fun h1 => T.pure ?_))
  · have h1 : ¬ w = 0 := by simpa using h1
    rw [hw] at h1
    have h2 := of_decide_eq_true h2
    have h3 := of_decide_eq_true h3
    obtain ⟨l, rfl⟩ := Int.eq_ofNat_of_zero_le (show 0 ≤ lv by omega)
    obtain ⟨i, rfl⟩ := Int.eq_ofNat_of_zero_le (show 0 ≤ d by omega)
    subst hr hb
    rw [wu_in (by omega) (by omega)]
    show ofB (l : Int) (plc i) = _
    rw [Bool.eq_iff_iff, plc_of (by omega) (by omega)]
    simp only [Bool.and_eq_true, decide_eq_true_eq]
    rcases (show l = 0 ∨ l = 1 ∨ 2 ≤ l by omega) with rfl | rfl | h
    · constructor
      · intro h; refine ⟨by omega, ?_⟩; rw [if_pos (by omega)]; have : (2:Nat) ^ 2 ^ 0 = 2 := rfl; omega
      · rintro ⟨_, h⟩; rw [if_pos (by omega)] at h; have : (2:Nat) ^ 2 ^ 0 = 2 := rfl; omega
    · constructor
      · intro h; refine ⟨by omega, ?_⟩; rw [if_neg (by omega), if_pos (by omega)]; have : (2:Nat) ^ 2 ^ 1 = 4 := rfl; omega
      · rintro ⟨_, h⟩; rw [if_neg (by omega), if_pos (by omega)] at h; have : (2:Nat) ^ 2 ^ 1 = 4 := rfl; omega
    · rw [if_neg (by omega), if_neg (by omega)]
      have := pow_le h
      have e : (2:Nat) ^ 2 ^ 2 = 16 := rfl
      constructor
      · intro h; refine ⟨by omega, by omega⟩
      · intro h; omega
  · have h3 := of_decide_eq_false h3
    symm; simp only [Bool.and_eq_false_iff, decide_eq_false_iff_not]
    right; split
    · omega
    · split <;> omega
  · have h2 := of_decide_eq_false h2
    symm; simp only [Bool.and_eq_false_iff, decide_eq_false_iff_not]
    left; right; omega
  · have h1 : w = 0 := by simpa using h1
    rw [hw] at h1
    symm; simp only [Bool.and_eq_false_iff, decide_eq_false_iff_not]
    left; left; omega
theorem rfits_X (lv d : Int) : T (fun k => steepleref17_Fits.f k lv d) (fun b => b = fitsB lv d) := by
  unfold fitsB
  refine T.eq (steepleref17_Fits.f_eq · lv d) (T.ite (fun h => T.pure ?_) fun h1 => T.ite (fun h => T.pure ?_) fun h2 => T.ite (fun h => T.pure ?_) fun h3 => ?_)
  · have h := of_decide_eq_true h
    symm; simp only [Bool.and_eq_false_iff, decide_eq_false_iff_not]; left; left; left; omega
  · have h := of_decide_eq_true h
    symm; simp only [Bool.and_eq_false_iff, decide_eq_false_iff_not]; left; left; right; omega
  · have h := of_decide_eq_true h
    symm; simp only [Bool.and_eq_false_iff, decide_eq_false_iff_not]; left; right; omega
  · have h1 := of_decide_eq_false h1
    have h2 := of_decide_eq_false h2
    have h3 := of_decide_eq_false h3
    obtain ⟨l, rfl⟩ := Int.eq_ofNat_of_zero_le (show 0 ≤ lv by omega)
    refine T.yes (inB_nat (by show l < 8; omega)) (T.pure ?_)
    have e1 : decide ((0 : Int) ≤ (l : Int)) = true := by simp
    have e2 : decide ((l : Int) ≤ 7) = true := by simp; omega
    have e3 : decide (0 ≤ d) = true := by simp; omega
    rw [e1, e2, e3, Int.toNat_natCast]
    rcases (show l = 0 ∨ l = 1 ∨ l = 2 ∨ l = 3 ∨ l = 4 ∨ l = 5 ∨ l = 6 ∨ l = 7 by omega) with rfl | rfl | rfl | rfl | rfl | rfl | rfl | rfl <;> rfl
/-! What an expression that may be is. -/
/-! Tables and an expression of them. -/
/-- Elements of words, in tables. -/
def allRR (t : List (List E)) : Prop := ∀ i, allR (t.getD i [])
end Go.Proofs.Ytplmejnoepkdgaa.H1
namespace Go.Proofs.Ytplmejnoepkdgaa.H1
open Go Go.Proofs.Ytplmejnoepkdgaa.Rf
/-- Elements of a level. -/
def inL (lv : Int) (x : E) : Prop := rngE x ∧ ofB lv x = true
def allL (lv : Int) (l : List E) : Prop := ∀ j, inL lv (l.getD j z)
theorem inL_z {lv : Int} (h1 : 0 ≤ lv) (h2 : lv ≤ 7) : inL lv z := ⟨rngE_z, (ofB_bit h1 h2).1⟩
theorem rng_one : rngE one := ⟨⟨by decide, by decide⟩, by decide, by decide⟩
theorem inL_one {lv : Int} (h1 : 0 ≤ lv) (h2 : lv ≤ 7) : inL lv one := ⟨rng_one, (ofB_bit h1 h2).2⟩
theorem inL_iff {l : Nat} (hl : l ≤ 7) {x : E} : inL (l : Int) x ↔ rngE x ∧ nat x < 2 ^ 2 ^ l := ⟨fun h => ⟨h.1, (ofB_iff hl h.1).1 h.2⟩, fun h => ⟨h.1, (ofB_iff hl h.1).2 h.2⟩⟩
theorem inL_lv {lv : Int} {x : E} (h : inL lv x) : ∃ l : Nat, lv = (l : Int) ∧ l ≤ 7 := ofB_lv h.2
theorem inL_Av {lv : Int} {a b : E} (ha : inL lv a) (hb : inL lv b) : inL lv (Av a b) := by
  obtain ⟨l, rfl, hl⟩ := inL_lv ha
  rw [inL_iff hl] at ha hb ⊢
  exact ⟨Av_rng a b, by rw [nat_Av ha.1 hb.1]; exact Nat.xor_lt_two_pow ha.2 hb.2⟩
theorem inL_Pr {lv : Int} {a b : E} (ha : inL lv a) (hb : inL lv b) : inL lv (Pr a b) := by
  obtain ⟨l, rfl, hl⟩ := inL_lv ha
  rw [inL_iff hl] at ha hb ⊢
  exact ⟨Pr_rng ha.1 hb.1, by rw [nat_Pr, Tow.mul_to7 hl ha.2 hb.2]; exact Tow.mul_lt l _ _ ha.2 hb.2⟩
theorem Mv_P {lv : Int} {a b : E} (ha : inL lv a) (hb : inL lv b) : Mv lv a b = Pr a b := by
  obtain ⟨l, rfl, hl⟩ := inL_lv ha
  exact Mul_N hl ha.1 hb.1 ha.2 hb.2
theorem nat_one : nat one = 1 := by decide
theorem rAdd_X (a b : E) : T (fun k => steepleref02_Add.f k a b) (fun r => r = Av a b) := T.eq (steepleref02_Add.f_eq · a b) (T.pure rfl)
theorem add_X (a b : E) : T (fun k => tower_Add.f k a b) (fun r => r = Av a b) := add_T a b
theorem mul_X {lv : Int} {a b : E} (ha : inL lv a) (hb : inL lv b) : T (fun k => tower_Mul.f k lv a b) (fun r => r = Pr a b) := (Mv_T lv a b).mono fun r hr => hr.trans (Mv_P ha hb)
/-! What an expression comes to. -/
theorem getD_snoc {α : Type} {l : List α} {a d : α} {j : Nat} : (l ++ [a]).getD j d = if j < l.length then l.getD j d else if j = l.length then a else d := by
  split
  · rename_i h; exact getD_app_lt l a d h
  · split
    · rename_i h1 h2; subst h2; simp
    · rename_i h1 h2; rw [List.getD_eq_getElem?_getD, List.getElem?_eq_none (by simp; omega)]; rfl
theorem allL_of {lv : Int} {l : List E} (h0 : 0 ≤ lv) (h7 : lv ≤ 7) (hr : allR l) (ha : allB lv l = true) : allL lv l := fun j => by
  by_cases h : j < l.length
  · exact ⟨hr j, (all_getD z _ l).1 ha j h⟩
  · rw [List.getD_eq_getElem?_getD, List.getElem?_eq_none (by omega)]; exact inL_z h0 h7
/-! Sums over corners. -/
theorem allL_B {lv : Int} {l : List E} (h : allL lv l) : allB lv l = true := (all_getD z _ l).2 fun i _ => (h i).2
/-! The first error. -/
end Go.Proofs.Ytplmejnoepkdgaa.H1
namespace Go.Proofs.Ytplmejnoepkdgaa.H1
open Go Go.Proofs.Ytplmejnoepkdgaa.Rf
/-! Conditions, mixed. -/
end Go.Proofs.Ytplmejnoepkdgaa.H1
namespace Go.Proofs.Ytplmejnoepkdgaa.H1
open Go Go.Proofs.Ytplmejnoepkdgaa.Rf
/-! Copies. -/
theorem map_X {α β : Type} (l : List α) (d : α) (h : α → β) {b : Nat} (hl : l.length ≤ 100000000) (hb : l.length * b ≤ 140737488355328) {f : Nat → List β → Int → Option (List β)} {g : Nat → α → Option β}
    (he : ∀ k s (i : Int), f (k + 1) s i = (bif (decide (i < (l.length : Int))) then (bif (inB i l.length) then ((g k (l.getD i.toNat d)).bind fun t => (bif (room (s.length + ([t] : List β).length) b) then (f k (s ++ ([t])) (w64 (i + 1))) else none)) else none) else (some s)))
    (hg : ∀ i, i < l.length → T (fun k => g k (l.getD i d)) (fun r => r = h (l.getD i d))) : T (fun k => f k [] 0) (fun r => r = l.map h) := by
  refine T.loop0 (f := fun k s i => f k s i) l.length (fun s i => s = (l.take i).map h) [] rfl fun s i hi hI ih => ?_
  refine T.eq (he · _ _) (T.ite (fun hlt => ?_) (fun hge => T.pure ?_))
  · have hlt := lt_dec hlt
    simp only [Int.toNat_natCast]
    have hlen : s.length = i := by rw [hI, List.length_map, List.length_take]; omega
    have hm : (s.length + 1) * b ≤ l.length * b := Nat.mul_le_mul_right _ (by omega)
    refine T.yes (inB_nat hlt) (T.bind (hg i hlt) fun r hr => T.yes (room_ok (by simp only [List.length_singleton]; omega)) ?_)
    rw [inc (by omega)]
    refine ih _ hlt ?_
    rw [hI, take_snoc l d hlt, List.map_append, hr]; rfl
  · have e : i = l.length := by have := nlt_dec hge; omega
    subst e
    rw [hI, List.take_length]
theorem map_id' {α : Type} (l : List α) : l.map (fun x => x) = l := by simp
theorem ref01_X (l : List E) (hl : l.length ≤ 1000000) : T (fun k => steeplelaw01_Ref.f k l) (fun r => r = l) :=
  T.eq (steeplelaw01_Ref.f_eq · l) ((map_X (f := fun k s i => steeplelaw01_Ref.l58 k l s i) (g := fun _ x => some x) l z (fun x => x) (b := 16) (by omega) (by omega) (fun k s i => steeplelaw01_Ref.l58_eq k l s i) fun i hi => T.pure rfl).mono fun r hr => by rw [hr, map_id'])
theorem refs09_X (t : List (List E)) (ht : t.length ≤ 1000) (h : ∀ i, (t.getD i []).length ≤ 1000000) : T (fun k => steeplelaw09_Refs.f k t) (fun r => r = t) :=
  T.eq (steeplelaw09_Refs.f_eq · t) ((map_X (f := fun k s i => steeplelaw09_Refs.l58 k t s i) (g := fun k x => steeplelaw01_Ref.f k x) t [] (fun x => x) (b := 24) (by omega) (by omega) (fun k s i => steeplelaw09_Refs.l58_eq k t s i) fun i hi => ref01_X _ (h i)).mono fun r hr => by rw [hr, map_id'])
/-! Mix. -/
theorem getD_none {α : Type} {l : List α} {d : α} {i : Nat} (h : l.length ≤ i) : l.getD i d = d := by rw [List.getD_eq_getElem?_getD, List.getElem?_eq_none h]; rfl
/-! Weights. -/
end Go.Proofs.Ytplmejnoepkdgaa.H1
namespace Go.Proofs.Ytplmejnoepkdgaa.H1
open Go Go.Proofs.Ytplmejnoepkdgaa.Rf
/-! Conditions over tables. -/
/-! The zero sum. -/
end Go.Proofs.Ytplmejnoepkdgaa.H1
namespace Go.Proofs.Ytplmejnoepkdgaa.H1
open Go Go.Proofs.Ytplmejnoepkdgaa.Rf
abbrev TE : Ty := .pair U (.pair U .unit)
theorem wf_rng {n : Int} (h : (Lit.int .u64 n).wf = true) : rng n := by
  simp [Lit.wf, IntKind.min, IntKind.max, IntKind.signed, IntKind.bits] at h
  exact ⟨by omega, by omega⟩
theorem okE {x : E} (h : okD TE x) : rngE x := ⟨wf_rng h.1, wf_rng h.2.1⟩
theorem mem_getD {α : Type} {l : List α} {d : α} {i : Nat} (h : i < l.length) : l.getD i d ∈ l := by
  rw [List.getD_eq_getElem?_getD, List.getElem?_eq_getElem h]; exact List.getElem_mem h
theorem okEs {f : Bool} {l : List E} (h : okD (.sl f TE) l) : allR l := fun j => by
  by_cases hj : j < l.length
  · exact okE (h.2 _ (mem_getD hj))
  · rw [getD_none (by omega)]; exact rngE_z
theorem okTs {f g : Bool} {l : List (List E)} (h : okD (.sl f (.sl g TE)) l) : allRR l := fun j => by
  by_cases hj : j < l.length
  · exact okEs (h.2 _ (mem_getD hj))
  · rw [getD_none (by omega)]; exact fun j => rngE_z
theorem z_eq (x : E) : ((x.1 == x.1) && (x.2.1 == x.2.1)) = true := by simp
/-! ZeroMixes. -/
end Go.Proofs.Ytplmejnoepkdgaa.H1
namespace Go.Proofs.Ytplmejnoepkdgaa.Fld
/-- The field of the greatest level. -/
structure F where
  n : Nat
  lt : n < 2 ^ 2 ^ 7
theorem F.ext' {a b : F} (h : a.n = b.n) : a = b := by cases a; cases b; cases h; rfl
instance : DecidableEq F := fun a b => if h : a.n = b.n then .isTrue (F.ext' h) else .isFalse fun e => h (by rw [e])
instance : Add F := ⟨fun a b => ⟨a.n ^^^ b.n, Nat.xor_lt_two_pow a.lt b.lt⟩⟩
instance : Mul F := ⟨fun a b => ⟨Tow.mul 7 a.n b.n, Tow.mul_lt 7 _ _ a.lt b.lt⟩⟩
instance : OfNat F 0 := ⟨⟨0, Nat.two_pow_pos _⟩⟩
instance : OfNat F 1 := ⟨⟨1, Tow.one_lt 7⟩⟩
theorem add_comm (a b : F) : a + b = b + a := F.ext' (Nat.xor_comm _ _)
theorem add_assoc (a b c : F) : a + b + c = a + (b + c) := F.ext' (Nat.xor_assoc _ _ _)
theorem zero_add (a : F) : 0 + a = a := F.ext' (Nat.zero_xor _)
theorem add_zero (a : F) : a + 0 = a := F.ext' (Nat.xor_zero _)
theorem add_self (a : F) : a + a = 0 := F.ext' (Nat.xor_self _)
theorem mul_comm (a b : F) : a * b = b * a := F.ext' (Tow.mul_comm 7 _ _)
theorem mul_assoc (a b c : F) : a * b * c = a * (b * c) := F.ext' (Tow.mul_assoc 7 _ _ _ a.lt b.lt c.lt)
theorem one_mul (a : F) : 1 * a = a := F.ext' (Tow.one_mul a.lt)
theorem mul_one (a : F) : a * 1 = a := F.ext' (Tow.mul_one 7 _ a.lt)
theorem zero_mul (a : F) : 0 * a = 0 := F.ext' (Tow.mul0l 7 a.n)
theorem mul_zero (a : F) : a * 0 = 0 := F.ext' (Tow.mul0r 7 a.n)
theorem mul_add (a b c : F) : a * (b + c) = a * b + a * c := F.ext' (Tow.mul_xorr 7 _ _ _)
theorem add_mul (a b c : F) : (a + b) * c = a * c + b * c := F.ext' (Tow.mul_xorl 7 _ _ _)
instance : Std.Associative (α := F) (· + ·) := ⟨add_assoc⟩
instance : Std.Commutative (α := F) (· + ·) := ⟨add_comm⟩
instance : Std.Associative (α := F) (· * ·) := ⟨mul_assoc⟩
instance : Std.Commutative (α := F) (· * ·) := ⟨mul_comm⟩
theorem add_eq_zero {a b : F} : a + b = 0 ↔ a = b := ⟨fun h => by rw [← add_zero a, ← add_self b, ← add_assoc, h, zero_add], fun h => by rw [h, add_self]⟩
def inv (a : F) : F := ⟨Tow.inv 7 a.n, Tow.inv_lt 7 _ a.lt⟩
theorem ne_n {a : F} (h : a ≠ 0) : a.n ≠ 0 := fun e => h (F.ext' e)
theorem mul_inv {a : F} (h : a ≠ 0) : a * inv a = 1 := F.ext' (Tow.mul_inv 7 _ a.lt (ne_n h))
theorem mul_eq_zero {a b : F} (h : a * b = 0) : a = 0 ∨ b = 0 := by
  rcases Tow.mul_zero_or a.lt b.lt (congrArg F.n h) with k | k
  · exact .inl (F.ext' k)
  · exact .inr (F.ext' k)
theorem mul_ne {a b : F} (ha : a ≠ 0) (hb : b ≠ 0) : a * b ≠ 0 := fun h => (mul_eq_zero h).elim ha hb
theorem one_ne : (1 : F) ≠ 0 := fun h => by have := congrArg F.n h; cases this
theorem inv_of {a b : F} (h : a * b = 1) : b = inv a := F.ext' (Tow.inv_of a.lt b.lt (congrArg F.n h))
/-! Sums. -/
def sm (f : Nat → F) : Nat → F
  | 0 => 0
  | n + 1 => sm f n + f n
theorem sm_congr {f g : Nat → F} : ∀ n, (∀ i, i < n → f i = g i) → sm f n = sm g n
  | 0, _ => rfl
  | n + 1, h => by rw [sm, sm, sm_congr n fun i hi => h i (by omega), h n (by omega)]
theorem sm_zero : ∀ n, sm (fun _ => 0) n = 0
  | 0 => rfl
  | n + 1 => by rw [sm, sm_zero n, add_zero]
theorem sm_one {f : Nat → F} {n k : Nat} (hk : k < n) (h : ∀ i, i < n → i ≠ k → f i = 0) : sm f n = f k := by
  induction n with
  | zero => omega
  | succ n ih =>
    rw [sm]
    by_cases e : k = n
    · subst e
      rw [sm_congr _ (fun i hi => h i (by omega) (by omega)), sm_zero, zero_add]
    · rw [ih (by omega) (fun i hi => h i (by omega)), h n (by omega) (fun e' => e e'.symm), add_zero]
/-! Polynomials. -/
def ev : List F → F → F
  | [], _ => 0
  | a :: c, x => a + x * ev c x
/-- A function that is a polynomial of degree at most d. -/
def PolyD (d : Nat) (f : F → F) : Prop := ∃ c : List F, c.length ≤ d + 1 ∧ ∀ x, f x = ev c x
theorem PolyD.mono {d e : Nat} {f : F → F} (h : PolyD d f) (k : d ≤ e) : PolyD e f := let ⟨c, h1, h2⟩ := h; ⟨c, by omega, h2⟩
theorem PolyD.congr {d : Nat} {f g : F → F} (h : PolyD d f) (k : ∀ x, g x = f x) : PolyD d g := let ⟨c, h1, h2⟩ := h; ⟨c, h1, fun x => (k x).trans (h2 x)⟩
theorem PolyD.const (a : F) : PolyD 0 fun _ => a := ⟨[a], by simp, fun x => by simp only [ev, mul_zero, add_zero]⟩
theorem PolyD.id : PolyD 1 fun x => x := ⟨[0, 1], by simp, fun x => by simp only [ev, mul_zero, add_zero, mul_one, zero_add]⟩
def addL : List F → List F → List F
  | [], d => d
  | c, [] => c
  | a :: c, b :: d => (a + b) :: addL c d
theorem addL_len : ∀ c d, (addL c d).length = max c.length d.length
  | [], d => by simp [addL]
  | a :: c, [] => by simp [addL]
  | a :: c, b :: d => by simp only [addL, List.length_cons, addL_len c d]; omega
theorem addL_ev (x : F) : ∀ c d, ev (addL c d) x = ev c x + ev d x
  | [], d => by rw [addL, ev, zero_add]
  | a :: c, [] => by simp only [addL, ev, add_zero]
  | a :: c, b :: d => by simp only [addL, ev, addL_ev x c d, mul_add]; ac_rfl
theorem PolyD.add {d : Nat} {f g : F → F} (hf : PolyD d f) (hg : PolyD d g) : PolyD d fun x => f x + g x := by
  obtain ⟨c, c1, c2⟩ := hf; obtain ⟨e, e1, e2⟩ := hg
  exact ⟨addL c e, by rw [addL_len]; omega, fun x => by show f x + g x = _; rw [addL_ev, c2, e2]⟩
theorem map_ev (a x : F) : ∀ c : List F, ev (c.map (a * ·)) x = a * ev c x
  | [] => (mul_zero a).symm
  | b :: c => by simp only [List.map_cons, ev, map_ev a x c, mul_add]; ac_rfl
def mulL : List F → List F → List F
  | [], _ => []
  | a :: c, d => addL (d.map (a * ·)) (0 :: mulL c d)
theorem mulL_ev (x : F) (d : List F) : ∀ c, ev (mulL c d) x = ev c x * ev d x
  | [] => (zero_mul _).symm
  | a :: c => by simp only [mulL, addL_ev, map_ev, ev, mulL_ev x d c, zero_add, add_mul]; ac_rfl
theorem mulL_len {m : Nat} {d : List F} (hd : d.length ≤ m + 1) : ∀ c, (mulL c d).length ≤ c.length + m
  | [] => by simp [mulL]
  | [a] => by simp only [mulL, addL_len, List.length_map, List.length_cons, List.length_nil]; omega
  | a :: b :: c => by have := mulL_len hd (b :: c); rw [mulL, addL_len, List.length_map]; simp only [List.length_cons] at this ⊢; omega
theorem PolyD.mul {d e : Nat} {f g : F → F} (hf : PolyD d f) (hg : PolyD e g) : PolyD (d + e) fun x => f x * g x := by
  obtain ⟨c, c1, c2⟩ := hf; obtain ⟨q, e1, e2⟩ := hg
  exact ⟨mulL c q, by have := mulL_len e1 c; omega, fun x => by show f x * g x = _; rw [mulL_ev, c2, e2]⟩
theorem PolyD.smul {d : Nat} {f : F → F} (a : F) (hf : PolyD d f) : PolyD d fun x => a * f x := by
  have := (PolyD.const a).mul hf
  rwa [Nat.zero_add] at this
theorem PolyD.sm {d : Nat} {f : Nat → F → F} : ∀ n, (∀ i, i < n → PolyD d (f i)) → PolyD d fun x => sm (fun i => f i x) n
  | 0, _ => (PolyD.const 0).mono (Nat.zero_le d)
  | n + 1, h => (PolyD.sm n fun i hi => h i (by omega)).add (h n (by omega))
/-- A polynomial, divided by x + x0. -/
def quo (x0 : F) : List F → List F
  | [] => []
  | [_] => []
  | _ :: b :: c => ev (b :: c) x0 :: quo x0 (b :: c)
theorem quo_len (x0 : F) : ∀ c, (quo x0 c).length = c.length - 1
  | [] => rfl
  | [_] => rfl
  | _ :: b :: c => by rw [quo, List.length_cons, quo_len x0 (b :: c)]; simp
theorem quo_ev (x0 x : F) : ∀ c, ev c x = (x + x0) * ev (quo x0 c) x + ev c x0
  | [] => by simp only [quo, ev, mul_zero, add_zero]
  | [a] => by simp only [quo, ev, mul_zero, add_zero, zero_add]
  | a :: b :: c => by
    have ih := quo_ev x0 x (b :: c)
    obtain ⟨r, hr⟩ : ∃ r, r = ev (b :: c) x0 := ⟨_, rfl⟩
    obtain ⟨q, hq⟩ : ∃ q, q = ev (quo x0 (b :: c)) x := ⟨_, rfl⟩
    have e1 : ev (a :: b :: c) x = a + x * ev (b :: c) x := rfl
    have e2 : ev (quo x0 (a :: b :: c)) x = r + x * q := by rw [hr, hq]; rfl
    have e3 : ev (a :: b :: c) x0 = a + x0 * r := by rw [hr]; rfl
    rw [← hr, ← hq] at ih
    rw [e1, e2, e3, ih]
    simp only [mul_add, add_mul]
    rw [show x * r + x0 * r + (x * (x * q) + x0 * (x * q)) + (a + x0 * r) = (x0 * r + x0 * r) + (a + (x * (x * q) + x * (x0 * q) + x * r)) by ac_rfl, add_self, zero_add]
theorem roots_zero : ∀ (xs c : List F), xs.Nodup → c.length ≤ xs.length → (∀ x, x ∈ xs → ev c x = 0) → ∀ x, ev c x = 0
  | [], c, _, hl, _, x => by
    have : c = [] := List.eq_nil_of_length_eq_zero (by simpa using hl)
    rw [this, ev]
  | x0 :: xs, c, hn, hl, h, x => by
    have h0 := h x0 List.mem_cons_self
    have hq : ∀ y, ev c y = (y + x0) * ev (quo x0 c) y := fun y => by rw [quo_ev x0 y c, h0, add_zero]
    rw [List.nodup_cons] at hn
    have := roots_zero xs (quo x0 c) hn.2 (by rw [quo_len]; simp only [List.length_cons] at hl; omega) (fun y hy => by
      have h1 := h y (List.mem_cons_of_mem _ hy)
      rw [hq] at h1
      rcases mul_eq_zero h1 with k | k
      · rw [add_eq_zero] at k; subst k; exact absurd hy hn.1
      · exact k)
    rw [hq, this, mul_zero]
theorem PolyD.zero {d : Nat} {f : F → F} (hf : PolyD d f) {xs : List F} (hn : xs.Nodup) (hl : d < xs.length) (h : ∀ x, x ∈ xs → f x = 0) (x : F) : f x = 0 := by
  obtain ⟨c, c1, c2⟩ := hf
  rw [c2]; exact roots_zero xs c hn (by omega) (fun y hy => by rw [← c2]; exact h y hy) x
theorem PolyD.eq {d : Nat} {f g : F → F} (hf : PolyD d f) (hg : PolyD d g) {xs : List F} (hn : xs.Nodup) (hl : d < xs.length) (h : ∀ x, x ∈ xs → f x = g x) (x : F) : f x = g x :=
  add_eq_zero.1 ((hf.add hg).zero hn hl (fun y hy => add_eq_zero.2 (h y hy)) x)
/-! Places. -/
def pl (i : Nat) : F := ⟨i % 2 ^ 2 ^ 7, Nat.mod_lt _ (Nat.two_pow_pos _)⟩
theorem pl_n {i : Nat} (h : i < 2 ^ 64) : (pl i).n = i := Nat.mod_eq_of_lt (Nat.lt_of_lt_of_le h (Nat.pow_le_pow_right (Nat.le_succ 1) (show 64 ≤ 2 ^ 7 by decide)))
theorem pl_inj {i j : Nat} (hi : i < 2 ^ 64) (hj : j < 2 ^ 64) (h : pl i = pl j) : i = j := by
  have := congrArg F.n h
  rwa [pl_n hi, pl_n hj] at this
theorem places_nodup {n : Nat} (h : n ≤ 2 ^ 64) : ((List.range n).map pl).Nodup := by
  rw [List.nodup_iff_pairwise_ne, List.pairwise_map]
  refine List.Pairwise.imp_of_mem (R := fun a b => a ≠ b) (fun {a b} ha hb hne e => hne ?_) List.nodup_range
  rw [List.mem_range] at ha hb
  exact pl_inj (by omega) (by omega) e
/-- A product over all other places. -/
def prd (g : Nat → F) (i : Nat) : Nat → F
  | 0 => 1
  | n + 1 => if n = i then prd g i n else prd g i n * g n
theorem prd_ne {g : Nat → F} {i : Nat} : ∀ n, (∀ j, j < n → j ≠ i → g j ≠ 0) → prd g i n ≠ 0
  | 0, _ => one_ne
  | n + 1, h => by
    rw [prd]; split
    · exact prd_ne n fun j hj => h j (by omega)
    · rename_i e; exact mul_ne (prd_ne n fun j hj => h j (by omega)) (h n (by omega) e)
theorem prd_zero {g : Nat → F} {i k : Nat} (hk : k ≠ i) (h0 : g k = 0) : ∀ n, k < n → prd g i n = 0
  | 0, h => by omega
  | n + 1, h => by
    rw [prd]; split
    · rename_i e; exact prd_zero hk h0 n (by omega)
    · by_cases e : k = n
      · subst e; rw [h0, mul_zero]
      · rw [prd_zero hk h0 n (by omega), zero_mul]
theorem prd_poly {g : Nat → F → F} (hg : ∀ j, PolyD 1 (g j)) (i : Nat) : ∀ n, PolyD (if i < n then n - 1 else n) fun x => prd (fun j => g j x) i n
  | 0 => PolyD.const 1
  | n + 1 => by
    have ih := prd_poly hg i n
    by_cases e : n = i
    · subst e
      rw [if_pos (by omega)]
      rw [if_neg (by omega)] at ih
      exact (ih.mono (by omega)).congr fun x => by rw [prd, if_pos rfl]
    · have h2 : PolyD (if i < n + 1 then n + 1 - 1 else n + 1) fun x => prd (fun j => g j x) i n * g n x := by
        refine (ih.mul (hg n)).mono ?_
        split <;> split <;> omega
      exact h2.congr fun x => by rw [prd, if_neg e]
/-- What a value at a place is taken by. -/
def lag (n i : Nat) (x : F) : F := prd (fun j => x + pl j) i n * inv (prd (fun j => pl i + pl j) i n)
theorem lag_poly {n i : Nat} (h : i < n) : PolyD (n - 1) (lag n i) := by
  have := prd_poly (g := fun j x => x + pl j) (fun j => PolyD.id.add ((PolyD.const (pl j)).mono (by omega))) i n
  rw [if_pos h] at this
  exact ((this.smul (inv (prd (fun j => pl i + pl j) i n)))).congr fun x => mul_comm _ _
theorem lag_at {n i k : Nat} (hn : n ≤ 2 ^ 64) (hi : i < n) (hk : k < n) : lag n i (pl k) = if k = i then 1 else 0 := by
  unfold lag
  split
  · rename_i e; subst e
    exact mul_inv (prd_ne n fun j hj hne h => hne (pl_inj (by omega) (by omega) (add_eq_zero.1 h)).symm)
  · rename_i e
    rw [prd_zero (k := k) e (add_self _) n hk, zero_mul]
/-- The polynomial that has these values. -/
def itp (n : Nat) (v : Nat → F) (x : F) : F := sm (fun i => v i * lag n i x) n
theorem itp_poly (n : Nat) (v : Nat → F) : PolyD (n - 1) (itp n v) := PolyD.sm n fun i hi => (lag_poly hi).smul (v i)
theorem itp_at {n k : Nat} {v : Nat → F} (hn : n ≤ 2 ^ 64) (hk : k < n) : itp n v (pl k) = v k := by
  unfold itp
  rw [sm_one hk fun i hi hne => by rw [lag_at hn hi hk, if_neg (fun e => hne e.symm), mul_zero], lag_at hn hk hk, if_pos rfl, mul_one]
theorem itp_eq {n : Nat} {f : F → F} {v : Nat → F} (h0 : 0 < n) (hn : n ≤ 2 ^ 64) (hf : PolyD (n - 1) f) (hv : ∀ i, i < n → f (pl i) = v i) (x : F) : f x = itp n v x := by
  refine PolyD.eq hf (itp_poly n v) (places_nodup hn) (by rw [List.length_map, List.length_range]; omega) (fun y hy => ?_) x
  obtain ⟨k, hk, rfl⟩ := List.mem_map.1 hy
  rw [List.mem_range] at hk
  rw [itp_at hn hk, hv k hk]
end Go.Proofs.Ytplmejnoepkdgaa.Fld
namespace Go.Proofs.Ytplmejnoepkdgaa.H1
open Go Go.Proofs.Ytplmejnoepkdgaa.Rf
/-! Elements, as a field has them. -/
def toF (x : E) : Fld.F := ⟨nat x % 2 ^ 2 ^ 7, Nat.mod_lt _ (Nat.two_pow_pos _)⟩
def ofF (a : Fld.F) : E := mk a.n
theorem toF_n {x : E} (h : rngE x) : (toF x).n = nat x := Nat.mod_eq_of_lt (nat_lt h)
theorem ofF_toF {x : E} (h : rngE x) : ofF (toF x) = x := by unfold ofF; rw [toF_n h, mk_nat h]
theorem ofF_rng (a : Fld.F) : rngE (ofF a) := mk_rng a.lt
theorem nat_ofF (a : Fld.F) : nat (ofF a) = a.n := nat_mk _
theorem toF_ofF (a : Fld.F) : toF (ofF a) = a := Fld.F.ext' (by rw [toF_n (ofF_rng a), nat_ofF])
theorem ofF_add (a b : Fld.F) : ofF (a + b) = Av (ofF a) (ofF b) := mk_xor a.lt b.lt
theorem ofF_mul (a b : Fld.F) : ofF (a * b) = Pr (ofF a) (ofF b) := by unfold Pr; rw [nat_ofF, nat_ofF]; rfl
theorem ofF_zero : ofF 0 = z := by decide
theorem ofF_one : ofF 1 = one := by decide
theorem ofF_pl {i : Nat} (h : i < 2 ^ 64) : ofF (Fld.pl i) = plc i := by
  have := mk_nat (plc_rng h)
  rw [nat_plc] at this
  rw [← this]; unfold ofF; rw [Fld.pl_n h]
/-- An inverse. -/
def Iv (x : E) : E := ofF (Fld.inv (toF x))
theorem inL_Iv {lv : Int} {x : E} (h : inL lv x) : inL lv (Iv x) := by
  obtain ⟨l, rfl, hl⟩ := inL_lv h
  rw [inL_iff hl] at h ⊢
  refine ⟨ofF_rng _, ?_⟩
  unfold Iv
  rw [nat_ofF]
  show Tow.inv 7 (toF x).n < _
  rw [toF_n h.1, Tow.inv_up hl h.2]
  exact Tow.inv_lt l _ h.2
theorem square_N : ∀ (l : Nat), l ≤ 6 → ∀ a : Nat, a < 2 ^ 2 ^ l → T (fun k => tower_square.f k (l : Int) (a : Int)) (fun r => r = ((Tow.mul l a a : Nat) : Int))
  | 0, h, a, ha => T.eq (tower_square.f_eq · _ _) (T.yes (by simp) (T.pure (by
      have : a = 0 ∨ a = 1 := by have : (2:Nat) ^ 2 ^ 0 = 2 := rfl; omega
      rcases this with rfl | rfl <;> rfl)))
  | l + 1, h, a, ha => by
    refine T.eq (tower_square.f_eq · _ _) (T.no (by simp; omega) (T.bind (halves_N (by omega) (lt64 h ha)) fun r hr => ?_))
    subst hr
    have ha' := ha
    rw [Tow.two_two] at ha
    have h1 := Tow.hi_lt ha
    have h2 := Tow.lo_lt (2 ^ l) a
    have L : ∀ {x}, x < 2 ^ 2 ^ l → x < 2 ^ 64 := lt64 (by omega)
    rw [lev (by omega)]
    have g1 := Tow.mul_lt l _ _ h1 h1
    have g2 := Tow.mul_lt l _ _ h2 h2
    refine T.bind (square_N l (by omega) _ h1) fun s hs => ?_
    subst hs
    refine T.bind (mulX_N l (by omega) _ g1) fun t ht => T.bind (square_N l (by omega) _ h2) fun u hu => ?_
    subst ht hu
    rw [xor_nat (L g2) (L g1)]
    refine T.bind (join_N (by omega) (Tow.mulX_lt l _ g1) (Nat.xor_lt_two_pow g2 g1)) fun q hq => T.pure ?_
    rw [hq]
    conv => rhs; rw [Tow.halves (2 ^ l) a, Tow.sq_cat h2]
theorem inv_N : ∀ (l : Nat), l ≤ 6 → ∀ a : Nat, a < 2 ^ 2 ^ l → T (fun k => tower_inv.f k (l : Int) (a : Int)) (fun r => r = ((Tow.inv l a : Nat) : Int))
  | 0, h, a, ha => T.eq (tower_inv.f_eq · _ _) (T.yes (by simp) (T.pure rfl))
  | l + 1, h, a, ha => by
    refine T.eq (tower_inv.f_eq · _ _) (T.no (by simp; omega) (T.bind (halves_N (by omega) (lt64 h ha)) fun r hr => ?_))
    subst hr
    rw [Tow.two_two] at ha
    have h1 := Tow.hi_lt ha
    have h2 := Tow.lo_lt (2 ^ l) a
    have L : ∀ {x}, x < 2 ^ 2 ^ l → x < 2 ^ 64 := lt64 (by omega)
    rw [lev (by omega)]
    have M := Tow.mul_lt l
    refine T.bind (mulX_N l (by omega) _ h1) fun x hx => ?_
    subst hx
    have h3 := Tow.mulX_lt l _ h1
    have h4 := Nat.xor_lt_two_pow h2 h3
    rw [xor_nat (L h2) (L h3)]
    refine T.bind (mul_N l (by omega) _ _ h2 h4) fun p hp => T.bind (square_N l (by omega) _ h1) fun s hs => ?_
    subst hp hs
    have h5 := Nat.xor_lt_two_pow (M _ _ h2 h4) (M _ _ h1 h1)
    rw [xor_nat (L (M _ _ h2 h4)) (L (M _ _ h1 h1))]
    refine T.bind (inv_N l (by omega) _ h5) fun n hn => ?_
    subst hn
    have h6 := Tow.inv_lt l _ h5
    refine T.bind (mul_N l (by omega) _ _ h1 h6) fun u hu => T.bind (mul_N l (by omega) _ _ h4 h6) fun v hv => ?_
    subst hu hv
    exact T.bind (join_N (by omega) (M _ _ h1 h6) (M _ _ h4 h6)) fun q hq => T.pure hq
theorem mk_low {n : Nat} (h : n < 2 ^ 64) : mk n = (0, (n : Int), ()) := by
  have := mk_cat (a := 0) (b := n) (by decide) h
  simpa using this
theorem Inv_X {lv : Int} {x : E} (hx : inL lv x) : T (fun k => tower_Inv.f k lv x) (fun r => r = Iv x) := by
  obtain ⟨l, rfl, hl⟩ := inL_lv hx
  have hx2 := (inL_iff hl).1 hx
  have e7 : Iv x = mk (Tow.inv l (nat x)) := by
    unfold Iv ofF
    show mk (Tow.inv 7 (toF x).n) = _
    rw [toF_n hx.1, Tow.inv_up hl hx2.2]
  rw [e7]
  refine T.eq (tower_Inv.f_eq · _ x) (T.bind (of_T _ x) fun b hb => T.no (by rw [hb, hx.2]; rfl) ?_)
  obtain ⟨x1, x2, ⟨⟩⟩ := x
  obtain ⟨x1, rfl, h1⟩ := rng_nat hx.1.1
  obtain ⟨x2, rfl, h2⟩ := rng_nat hx.1.2
  have ex : nat ((x1 : Int), (x2 : Int), ()) = x1 <<< 64 ^^^ x2 := rfl
  rw [ex] at hx2 ⊢
  refine T.ite (fun g => ?_) (fun g => ?_)
  · have hl6 : l ≤ 6 := by have := of_decide_eq_true g; omega
    have za : x1 = 0 := by have h := lt64 hl6 hx2.2; rw [← shr_zero, Tow.hi_of h2] at h; exact h
    subst za
    have e1 : (0 : Nat) <<< 64 ^^^ x2 = x2 := by simp
    rw [e1] at hx2 ⊢
    refine T.bind (inv_N l hl6 x2 hx2.2) fun r hr => T.pure ?_
    subst hr
    exact (mk_low (lt64 hl6 (Tow.inv_lt l _ hx2.2))).symm
  · have e : l = 7 := by have := of_decide_eq_false g; omega
    subst e
    have M := Tow.mul_lt 6
    have h1' : x1 < 2 ^ 2 ^ 6 := h1
    have h2' : x2 < 2 ^ 2 ^ 6 := h2
    refine T.bind (mulX_N 6 (by omega) x1 h1') fun r hr => ?_
    subst hr
    have h3 := Tow.mulX_lt 6 _ h1'
    have h4 := Nat.xor_lt_two_pow h2' h3
    show T (fun k => (tower_mul.f k 6 (x2 : Int) (xorI .u64 (x2 : Int) ((Tow.mulX 6 x1 : Nat) : Int))).bind _) _
    rw [xor_nat h2 h3]
    refine T.bind (mul_N 6 (by omega) x2 _ h2' h4) fun p hp => T.bind (square_N 6 (by omega) x1 h1') fun s hs => ?_
    subst hp hs
    have h5 := Nat.xor_lt_two_pow (M _ _ h2' h4) (M _ _ h1' h1')
    rw [xor_nat (M _ _ h2' h4) (M _ _ h1' h1')]
    refine T.bind (inv_N 6 (by omega) _ h5) fun n hn => ?_
    subst hn
    have h6 := Tow.inv_lt 6 _ h5
    refine T.bind (mul_N 6 (by omega) _ _ h1' h6) fun u hu => T.bind (mul_N 6 (by omega) _ _ h4 h6) fun v hv => T.pure ?_
    subst hu hv
    have := Tow.inv_cat (l := 6) (a1 := x1) h2'
    rw [this]
    exact (mk_cat (M _ _ h1' h6) (M _ _ h4 h6)).symm
theorem Div_X {lv : Int} {a b : E} (ha : inL lv a) (hb : inL lv b) : T (fun k => tower_Div.f k lv a b) (fun r => r = Pr a (Iv b)) :=
  T.eq (tower_Div.f_eq · lv a b) (T.bind (Inv_X hb) fun i hi => by subst hi; exact T.bind (mul_X ha (inL_Iv hb)) fun r hr => T.pure hr)
theorem nat_Pr_l {l : Nat} (hl : l ≤ 7) {a b : E} (ha : nat a < 2 ^ 2 ^ l) (hb : nat b < 2 ^ 2 ^ l) : nat (Pr a b) = Tow.mul l (nat a) (nat b) := by rw [nat_Pr, Tow.mul_to7 hl ha hb]
theorem rInv_X {lv : Int} {x : E} (hx : inL lv x) : T (fun k => steepleref02_Inv.f k lv x) (fun r => r = Iv x) := by
  obtain ⟨l, rfl, hl⟩ := inL_lv hx
  have hx2 := (inL_iff hl).1 hx
  have e7 : Iv x = mk (Tow.inv l (nat x)) := by
    unfold Iv ofF
    show mk (Tow.inv 7 (toF x).n) = _
    rw [toF_n hx.1, Tow.inv_up hl hx2.2]
  rw [e7]
  refine T.eq (steepleref02_Inv.f_eq · _ x) (T.bind (rof_X _ hx.1) fun b hb => T.no (by rw [hb, hx.2]; rfl) (T.ite (fun h => T.pure ?_) (fun h => ?_)))
  · have h : l = 0 := by have : (l : Int) = 0 := by simpa using h
                         omega
    subst h
    exact (mk_nat hx.1).symm
  · have h1 : 1 ≤ l := by have : ¬ (l : Int) = 0 := by simpa using h
                          omega
    have hp : 2 ^ l ≤ 128 := p2le (m := 7) hl
    have hp1 : 1 < 2 ^ l := Nat.one_lt_two_pow (by omega)
    have e : ([1, 2, 4, 8, 16, 32, 64, 128] : List Int).getD ((l : Int).toNat) 0 = ((2 ^ l : Nat) : Int) := by
      rcases (show l = 0 ∨ l = 1 ∨ l = 2 ∨ l = 3 ∨ l = 4 ∨ l = 5 ∨ l = 6 ∨ l = 7 by omega) with rfl | rfl | rfl | rfl | rfl | rfl | rfl | rfl <;> rfl
    refine T.loop (σ := E × E) (f := fun k s i => steepleref02_Inv.l1018 k (l : Int) (0, 0, ()) [1, 2, 4, 8, 16, 32, 64, 128] s.1 s.2 i) (2 ^ l) (fun s i => rngE s.1 ∧ rngE s.2 ∧ nat s.1 < 2 ^ 2 ^ l ∧ nat s.2 < 2 ^ 2 ^ l ∧ Tow.pinv l (2 ^ l - i) (nat s.2) (nat s.1) = Tow.inv l (nat x)) (fun s i hi hI ih => ?_) (2 ^ l - 1) (one, x) 1 rfl (by omega) ⟨rng_one, hx.1, by rw [nat_one]; exact Tow.one_lt l, hx2.2, by rw [nat_one]; exact Tow.pinv_inv hl h1 hx2.2⟩
    obtain ⟨r1, r2, n1, n2, I⟩ := hI
    refine T.eq (steepleref02_Inv.l1018_eq · _ _ _ _ _ _) (T.yes (inB_nat (by show l < 8; omega)) ?_)
    rw [e]
    refine T.ite (fun hlt => T.bind (prod_T r2 r2) fun s hs => T.bind (p := fun r => r = Pr _ s) (by subst hs; exact prod_T r1 (Pr_rng r2 r2)) fun o ho => ?_) (fun hge => T.pure ?_)
    · have hlt := lt_dec hlt
      subst hs ho
      have n3 := nat_Pr_l hl n2 n2
      have g3 := Tow.mul_lt l _ _ n2 n2
      have n4 := nat_Pr_l hl n1 (b := Pr _ _) (by rw [n3]; exact g3)
      rw [inc (by omega)]
      refine ih (Pr s.1 (Pr s.2 s.2), Pr s.2 s.2) hlt ⟨Pr_rng r1 (Pr_rng r2 r2), Pr_rng r2 r2, ?_, ?_, ?_⟩
      · show nat (Pr s.1 (Pr s.2 s.2)) < _
        rw [n4, n3]; exact Tow.mul_lt l _ _ n1 g3
      · show nat (Pr s.2 s.2) < _
        rw [n3]; exact g3
      · show Tow.pinv l (2 ^ l - (i + 1)) (nat (Pr s.2 s.2)) (nat (Pr s.1 (Pr s.2 s.2))) = _
        rw [n4, n3]
        rw [show 2 ^ l - i = (2 ^ l - (i + 1)) + 1 by omega, Tow.pinv] at I
        exact I
    · have e : i = 2 ^ l := Nat.le_antisymm hi (nlt_dec hge)
      subst e
      rw [Nat.sub_self, Tow.pinv] at I
      rw [← I, mk_nat r1]
/-! Lines. -/
theorem place_X {i : Nat} (h : i < 2 ^ 63) : T (fun k => line_place.f k (i : Int)) (fun r => r = plc i) :=
  T.eq (line_place.f_eq · _) (T.pure (by rw [wu_in (by omega) (by omega)]; rfl))
theorem fits_ok {lv d : Int} (h : fitsB lv d = true) : 0 ≤ lv ∧ lv ≤ 7 ∧ 0 ≤ d ∧ d ≤ 8 := by
  unfold fitsB at h
  simp only [Bool.and_eq_true, decide_eq_true_eq] at h
  obtain ⟨⟨⟨h1, h2⟩, h3⟩, h4⟩ := h
  refine ⟨h1, h2, h3, ?_⟩
  split at h4
  · omega
  · split at h4 <;> omega
theorem fits_plc {lv d : Int} (h : fitsB lv d = true) {j : Nat} (hj : (j : Int) ≤ d) : inL lv (plc j) := by
  obtain ⟨h1, h2, h3, h8⟩ := fits_ok h
  unfold fitsB at h
  simp only [Bool.and_eq_true, decide_eq_true_eq] at h
  obtain ⟨_, h4⟩ := h
  obtain ⟨l, rfl⟩ := Int.eq_ofNat_of_zero_le h1
  refine ⟨plc_rng (by omega), (plc_of (by omega) (by omega)).2 ?_⟩
  split at h4
  · have : l = 0 := by omega
    subst this
    have : (2:Nat) ^ 2 ^ 0 = 2 := rfl
    omega
  · split at h4
    · have : l = 1 := by omega
      subst this
      have : (2:Nat) ^ 2 ^ 1 = 4 := rfl
      omega
    · have h2l : 2 ≤ l := by omega
      have := pow_le h2l
      have e : (2:Nat) ^ 2 ^ 2 = 16 := rfl
      omega
theorem weights9_X {lv : Int} {n : Nat} {x : E} (hn : 0 < n) (hf : fitsB lv ((n : Int) - 1) = true) (hx : inL lv x) : T (fun k => line_weights.f k lv ((n : Int) - 1) x) (fun w => w.length = 9 ∧ ∀ i, i < n → w.getD i z = ofF (Fld.lag n i (toF x)) ∧ inL lv (w.getD i z)) := by
  obtain ⟨h1, h2, h3, h8⟩ := fits_ok hf
  have pl : ∀ {j : Nat}, j < n → inL lv (plc j) := fun hj => fits_plc hf (by omega)
  have hw : w64 ((n : Int) - 1 + 1) = (n : Int) := by rw [w64_in (by omega) (by omega)]; omega
  refine T.eq (line_weights.f_eq · lv _ x) ?_
  rw [hw]
  refine T.loop0 (f := fun k s i => line_weights.l58 k lv ((n : Int) - 1) x (List.replicate 9 (0, 0, ())) s (n : Int) i) n (fun s i => s.length = 9 ∧ ∀ j, j < i → s.getD j z = ofF (Fld.lag n j (toF x)) ∧ inL lv (s.getD j z)) _ ⟨by simp, fun j h => absurd h (by omega)⟩ fun s i hi hI ih => ?_
  refine T.eq (line_weights.l58_eq · lv _ x _ s _ _) (T.ite (fun h => ?_) (fun h => ?_))
  · have hlt := lt_dec h
    rw [hw]
    refine T.bind (p := fun o => o = one) (T.eq tower_One.f_eq (T.pure rfl)) fun o1 e1 => T.bind (p := fun o => o = one) (T.eq tower_One.f_eq (T.pure rfl)) fun o2 e2 => ?_
    subst e1 e2
    refine T.loop0 (σ := E × E) (f := fun k q j => line_weights.l59802 k lv ((n : Int) - 1) x (List.replicate 9 (0, 0, ())) s (i : Int) q.1 q.2 (n : Int) (i : Int) (n : Int) j) n
      (fun q j => q.1 = ofF (Fld.prd (fun j => toF x + Fld.pl j) i j) ∧ q.2 = ofF (Fld.prd (fun j => Fld.pl i + Fld.pl j) i j) ∧ inL lv q.1 ∧ inL lv q.2) (one, one) ⟨ofF_one.symm, ofF_one.symm, inL_one h1 h2, inL_one h1 h2⟩ fun q j hj hq ih2 => ?_
    obtain ⟨q1, q2⟩ := q
    obtain ⟨a1, a2, a3, a4⟩ := hq
    dsimp only at a1 a2 a3 a4 ⊢
    refine T.eq (line_weights.l59802_eq · lv _ x _ s _ _ _ _ _ _ _) (T.ite (fun h => ?_) (fun h => ?_))
    · have hlt2 := lt_dec h
      refine T.ite (fun hne => ?_) (fun heq => ?_)
      · have hne : j ≠ i := by have : ¬ (j : Int) = (i : Int) := by simpa using hne
                               omega
        refine T.bind (place_X (by omega)) fun p1 e1 => T.bind (add_X _ _) fun s1 e2 => ?_
        subst e1 e2
        have g1 := inL_Av hx (pl hlt2)
        refine T.bind (mul_X a3 g1) fun m1 e3 => T.bind (place_X (by omega)) fun p2 e4 => T.bind (place_X (by omega)) fun p3 e5 => T.bind (add_X _ _) fun s2 e6 => ?_
        subst e4 e5 e6 e3
        have g2 := inL_Av (pl hlt) (pl hlt2)
        refine T.bind (mul_X a4 g2) fun m2 e7 => ?_
        subst e7
        rw [inc (by omega)]
        refine ih2 (Pr q1 (Av x (plc j)), Pr q2 (Av (plc i) (plc j))) hlt2 ⟨?_, ?_, inL_Pr a3 g1, inL_Pr a4 g2⟩
        · dsimp only
          rw [Fld.prd, if_neg hne, ofF_mul, ofF_add, ofF_toF hx.1, ofF_pl (by omega), a1]
        · dsimp only
          rw [Fld.prd, if_neg hne, ofF_mul, ofF_add, ofF_pl (by omega), ofF_pl (by omega), a2]
      · have heq : j = i := by have : (j : Int) = (i : Int) := by simpa using heq
                               omega
        rw [inc (by omega)]
        refine ih2 (q1, q2) hlt2 ⟨?_, ?_, a3, a4⟩
        · dsimp only; rw [Fld.prd, if_pos heq, a1]
        · dsimp only; rw [Fld.prd, if_pos heq, a2]
    · have e : j = n := Nat.le_antisymm hj (nlt_dec h)
      subst e
      refine T.bind (Div_X a3 a4) fun w hw => T.yes (inB_nat (by omega)) ?_
      subst hw
      rw [inc (by omega)]
      refine ih _ hlt ⟨by simp [hI.1], fun m hm => ?_⟩
      simp only [Int.toNat_natCast]
      rw [set_get _ _ _ _ _ (by rw [hI.1]; omega)]
      by_cases e : m = i
      · subst e
        rw [if_pos rfl]
        refine ⟨?_, inL_Pr a3 (inL_Iv a4)⟩
        unfold Iv Fld.lag
        rw [ofF_mul, a1, a2, toF_ofF]
      · rw [if_neg e]; exact hI.2 m (by omega)
  · have e : i = n := Nat.le_antisymm hi (nlt_dec h)
    subst e
    exact T.pure hI
/-- What a line's values come to at an element. -/
def itpE (v : List E) (x : E) : E := ofF (Fld.itp v.length (fun i => toF (v.getD i z)) (toF x))
theorem dot_X {lv : Int} {a b : List E} (hl : a.length = b.length) (h9 : a.length ≤ 100000) (ha : ∀ i, i < a.length → inL lv (a.getD i z)) (hb : ∀ i, i < a.length → inL lv (b.getD i z)) (h0 : 0 ≤ lv) (h7 : lv ≤ 7) : T (fun k => tower_Dot.f k lv a b) (fun r => r = ofF (Fld.sm (fun i => toF (a.getD i z) * toF (b.getD i z)) a.length) ∧ inL lv r) := by
  refine T.eq (tower_Dot.f_eq · lv a b) (T.no (by rw [hl]; simp) ?_)
  refine T.loop0 (f := fun k s i => tower_Dot.l122 k lv a b (0, 0, ()) s (a.length : Int) i) a.length (fun s i => s = ofF (Fld.sm (fun i => toF (a.getD i z) * toF (b.getD i z)) i) ∧ inL lv s) _ ⟨ofF_zero.symm, inL_z h0 h7⟩ fun s i hi hI ih => ?_
  refine T.eq (tower_Dot.l122_eq · lv a b _ s _ _) (T.ite (fun h => ?_) (fun h => ?_))
  · have hlt := lt_dec h
    simp only [Int.toNat_natCast]
    have ia := ha i hlt
    have ib := hb i hlt
    have za : a.getD i (0, 0, ()) = a.getD i z := rfl
    have zb : b.getD i (0, 0, ()) = b.getD i z := rfl
    rw [za, zb]
    refine T.yes (inB_nat hlt) (T.bind (of_T _ _) fun o1 e1 => T.no (by rw [e1, ia.2]; rfl) (T.yes (inB_nat (by omega)) (T.bind (of_T _ _) fun o2 e2 => T.no (by rw [e2, ib.2]; rfl) (T.yes (inB_nat hlt) (T.yes (inB_nat (by omega)) (T.bind (mul_X ia ib) fun m hm => T.bind (add_X _ _) fun q hq => ?_))))))
    subst hm hq
    rw [inc (by omega)]
    refine ih _ hlt ⟨?_, inL_Av hI.2 (inL_Pr ia ib)⟩
    rw [Fld.sm, ofF_add, ofF_mul, ofF_toF ia.1, ofF_toF ib.1, hI.1]
  · have e : i = a.length := Nat.le_antisymm hi (nlt_dec h)
    subst e
    exact T.pure hI
theorem line_of_X (lv : Int) (l : List E) (hl : l.length ≤ 100000000) : T (fun k => line_of.f k lv l) (fun b => b = allB lv l) := by
  refine T.eq (line_of.f_eq · lv l) (T.bind (p := fun b => b = !allB lv l) ?_ fun b hb => T.pure (by rw [hb]; simp))
  refine T.eq (slices_ContainsFunc_line_of_1.f_eq · l lv) (T.bind (p := fun r => decide (r ≥ 0) = l.any fun x => !ofB lv x) ?_ fun r hr => T.pure (by rw [hr, any_not]; rfl))
  exact T.eq (slices_IndexFunc_line_of_1.f_eq · l lv) (find_X (f := fun k i => slices_IndexFunc_line_of_1.l26 k l lv (l.length : Int) i) (g := fun k x => line_of_1.f k x lv) l z _ hl (fun k i => slices_IndexFunc_line_of_1.l26_eq k l lv _ i) fun i hi => T.eq (line_of_1.f_eq · _ lv) (T.bind (of_T _ _) fun b hb => T.pure (by rw [hb])))
theorem line_At_X {lv : Int} {v : List E} {x : E} (hp : 0 < v.length) (hf : fitsB lv ((v.length : Int) - 1) = true) (hv : allL lv v) (hx : inL lv x) : T (fun k => line_At.f k lv v x) (fun r => r = (itpE v x, 0) ∧ inL lv (itpE v x)) := by
  obtain ⟨h1, h2, h3, h8⟩ := fits_ok hf
  have hw : w64 ((v.length : Int) - 1) = (v.length : Int) - 1 := w64_in (by omega) (by omega)
  have hw2 : w64 ((v.length : Int) - 1 + 1) = (v.length : Int) := by rw [w64_in (by omega) (by omega)]; omega
  refine T.eq (line_At.f_eq · lv v x) ?_
  rw [hw]
  refine T.bind (p := fun e => e = 0) ?_ fun e he => ?_
  · refine T.eq (line_ask.f_eq · lv _ v) (T.bind (wide_X lv) fun w hw' => T.no (by
      have : ¬ w = 0 := by rw [hw']; omega
      simpa using this) (T.no (by simp; intro h; subst h; simp at hp) ?_))
    rw [hw2]
    refine T.no (by simp) (T.bind (fits_X lv _) fun b hb => T.no (by rw [hb, hf]; rfl) (T.bind (line_of_X lv v (by omega)) fun c hc => T.no (by rw [hc, allL_B hv]; rfl) (T.pure rfl)))
  · subst he
    refine T.no (by rfl) (T.bind (of_T _ _) fun b hb => T.no (by rw [hb, hx.2]; rfl) (T.bind (weights9_X hp hf hx) fun w hw => T.yes ?_ ?_))
    · simp only [inS, Bool.and_eq_true, decide_eq_true_eq]; omega
    · have hc : cutl w 0 (v.length : Int) = w.take v.length := by
        show (w.take ((v.length : Int)).toNat).drop (0 : Int).toNat = _
        simp
      rw [hc]
      have gt : ∀ i, i < v.length → (w.take v.length).getD i z = w.getD i z := fun i hi => by
        rw [List.getD_eq_getElem?_getD, List.getElem?_take, if_pos hi, ← List.getD_eq_getElem?_getD]
      refine T.bind (dot_X (a := v) (b := w.take v.length) (by rw [List.length_take, hw.1]; omega) (by omega) (fun i _ => hv i) (fun i hi => by rw [gt i hi]; exact (hw.2 i hi).2) h1 h2) fun r hr => T.pure ?_
      have e : r = itpE v x := by
        rw [hr.1]
        unfold itpE Fld.itp
        rw [Fld.sm_congr v.length fun i hi => by rw [gt i hi, (hw.2 i hi).1, toF_ofF]]
      rw [← e]
      exact ⟨rfl, hr.2⟩
end Go.Proofs.Ytplmejnoepkdgaa.H1
namespace Go.Proofs.Ytplmejnoepkdgaa.Fld
/-- Lines between lines. -/
def nev (v : Nat → F) : Nat → Nat → F → F
  | 0, i, _ => v i
  | m + 1, i, x => ((x + pl (i + (m + 1))) * nev v m i x + (x + pl i) * nev v m (i + 1) x) * inv (pl i + pl (i + (m + 1)))
theorem nev_poly (v : Nat → F) : ∀ m i, PolyD m (nev v m i)
  | 0, i => PolyD.const (v i)
  | m + 1, i => by
    have l : ∀ a, PolyD 1 fun x => x + a := fun a => PolyD.id.add ((PolyD.const a).mono (by omega))
    have h1 := (l (pl (i + (m + 1)))).mul (nev_poly v m i)
    have h2 := (l (pl i)).mul (nev_poly v m (i + 1))
    exact (((h1.add h2).smul (inv (pl i + pl (i + (m + 1))))).mono (by omega)).congr fun x => by rw [nev, mul_comm]
theorem nev_at (v : Nat → F) : ∀ m i k, i + m ≤ 1000 → i ≤ k → k ≤ i + m → nev v m i (pl k) = v k
  | 0, i, k, _, h1, h2 => by rw [nev, show k = i by omega]
  | m + 1, i, k, hb, h1, h2 => by
    have hne : pl i + pl (i + (m + 1)) ≠ 0 := fun e => by
      have := pl_inj (by omega) (by omega) (add_eq_zero.1 e); omega
    rw [nev]
    by_cases e1 : k = i
    · subst e1
      rw [add_self, zero_mul, add_zero, nev_at v m k k (by omega) (by omega) (by omega), mul_comm _ (v k), mul_assoc, mul_inv hne, mul_one]
    · by_cases e2 : k = i + (m + 1)
      · subst e2
        rw [add_self, zero_mul, zero_add, nev_at v m (i + 1) _ (by omega) (by omega) (by omega), mul_comm _ (v _), mul_assoc, add_comm (pl (i + (m + 1))), mul_inv hne, mul_one]
      · rw [nev_at v m i k (by omega) (by omega) (by omega), nev_at v m (i + 1) k (by omega) (by omega) (by omega), ← add_mul]
        rw [show pl k + pl (i + (m + 1)) + (pl k + pl i) = (pl k + pl k) + (pl i + pl (i + (m + 1))) by ac_rfl, add_self, zero_add, mul_comm _ (v k), mul_assoc, mul_inv hne, mul_one]
theorem nev_itp {v : Nat → F} {n : Nat} (hn : 0 < n) (h : n ≤ 1000) (x : F) : nev v (n - 1) 0 x = itp n v x :=
  itp_eq hn (by omega) (nev_poly v (n - 1) 0) (fun i hi => nev_at v (n - 1) 0 i (by omega) (by omega) (by omega)) x
end Go.Proofs.Ytplmejnoepkdgaa.Fld
namespace Go.Proofs.Ytplmejnoepkdgaa.H1
open Go Go.Proofs.Ytplmejnoepkdgaa.Rf
theorem rAt_X {lv : Int} {v : List E} {x : E} (hp : 0 < v.length) (hf : fitsB lv ((v.length : Int) - 1) = true) (hv : allR v) (hx : rngE x) : T (fun k => steepleref17_At.f k lv v x) (fun r => r = itpE v x) := by
  obtain ⟨h1, h2, h3, h8⟩ := fits_ok hf
  have pl : ∀ {j : Nat}, j < v.length → inL lv (plc j) := fun hj => fits_plc hf (by omega)
  unfold itpE
  rw [← Fld.nev_itp hp (by omega)]
  refine T.eq (steepleref17_At.f_eq · lv v x) (T.loop (f := fun k s n => steepleref17_At.l58 k lv v x (0, 0, ()) s n) v.length (fun s n => 0 < n ∧ s.length + n = v.length + 1 ∧ ∀ i, i < s.length → s.getD i z = ofF (Fld.nev (fun i => toF (v.getD i z)) (n - 1) i (toF x))) (fun s n hn hI ih => ?_) (v.length - 1) v 1 rfl (by omega) ⟨by omega, by omega, fun i hi => (ofF_toF (hv i)).symm⟩)
  obtain ⟨n0, I1, I2⟩ := hI
  refine T.eq (steepleref17_At.l58_eq · lv v x _ s _) (T.ite (fun h => ?_) (fun h => ?_))
  · have hlt := lt_dec h
    refine T.loop0 (f := fun k q i => steepleref17_At.l14922 k lv v x (0, 0, ()) s (n : Int) q i) (s.length - 1) (fun q i => q.length = i ∧ ∀ j, j < i → q.getD j z = ofF (Fld.nev (fun i => toF (v.getD i z)) n j (toF x))) [] ⟨rfl, fun j h => absurd h (by omega)⟩ fun q i hi hq ih2 => ?_
    have e1 : w64 ((i : Int) + 1) = ((i + 1 : Nat) : Int) := by rw [w64_in (by omega) (by omega)]; omega
    have e2 : wu64 (w64 ((i : Int) + (n : Int))) = ((i + n : Nat) : Int) := by rw [w64_in (by omega) (by omega), wu_in (by omega) (by omega)]; omega
    have e3 : wu64 (i : Int) = (i : Int) := wu_in (by omega) (by omega)
    refine T.eq (steepleref17_At.l14922_eq · lv v x _ s _ q _) ?_
    rw [e1, e2, e3]
    refine T.ite (fun h => ?_) (fun h => ?_)
    · have hlt2 := lt_dec h
      simp only [Int.toNat_natCast]
      have rp : ∀ {j : Nat}, j < 2 ^ 64 → rngE ((0 : Int), (j : Int), ()) := fun h => plc_rng h
      have s1 := I2 i (by omega)
      have s2 := I2 (i + 1) (by omega)
      have r1 : rngE (s.getD i z) := by rw [s1]; exact ofF_rng _
      have r2 : rngE (s.getD (i + 1) z) := by rw [s2]; exact ofF_rng _
      refine T.bind (rAdd_X _ _) fun t1 g1 => T.yes (inB_nat (by omega)) (T.bind (p := fun r => r = Pr t1 (s.getD i z)) (by subst g1; exact prod_T (Av_rng _ _) r1) fun t2 g2 => T.bind (rAdd_X _ _) fun t3 g3 => T.yes (inB_nat (by omega)) (T.bind (p := fun r => r = Pr t3 (s.getD (i + 1) z)) (by subst g3; exact prod_T (Av_rng _ _) r2) fun t4 g4 => T.bind (rAdd_X _ _) fun t5 g5 => T.bind (rAdd_X _ _) fun t6 g6 => ?_))
      have hL : inL lv t6 := by rw [g6]; exact inL_Av (pl (j := i) (by omega)) (pl (j := i + n) (by omega))
      have r5 : rngE t5 := by rw [g5]; exact Av_rng _ _
      refine T.bind (rInv_X hL) fun t7 g7 => T.bind (p := fun r => r = Pr t5 t7) (by subst g7; exact prod_T r5 (inL_Iv hL).1) fun t8 g8 => T.yes (room_ok (by simp only [List.length_singleton]; omega)) ?_
      rw [show ((i + 1 : Nat) : Int) = (i : Int) + 1 by omega]
      refine ih2 _ (by omega) ⟨by simp [hq.1], fun j hj => ?_⟩
      rw [getD_snoc, hq.1]
      by_cases ej : j = i
      · subst ej
        rw [if_neg (by omega), if_pos rfl]
        obtain ⟨n', rfl⟩ : ∃ n', n = n' + 1 := ⟨n - 1, by omega⟩
        rw [Nat.add_sub_cancel] at s1 s2
        have p1 : ((0 : Int), ((j + (n' + 1) : Nat) : Int), ()) = ofF (Fld.pl (j + (n' + 1))) := (ofF_pl (by omega)).symm
        have p2 : ((0 : Int), ((j : Nat) : Int), ()) = ofF (Fld.pl j) := (ofF_pl (by omega)).symm
        rw [Fld.nev, ofF_mul, ofF_add, ofF_mul, ofF_mul, ofF_add, ofF_add, ofF_toF hx, ← s1, ← s2, g8, g7, g5, g4, g2, g1, g3, g6, Iv, p1, p2, ← ofF_add, toF_ofF]
      · rw [if_pos (by omega)]; exact hq.2 j (by omega)
    · have hge := nlt_dec h
      rw [inc (by omega)]
      refine ih q hlt ⟨by omega, by omega, fun j hj => ?_⟩
      rw [Nat.add_sub_cancel]; exact hq.2 j (by omega)
  · have e : n = v.length := Nat.le_antisymm hn (nlt_dec h)
    subst e
    refine T.yes (inB_nat (i := 0) (by omega)) (T.pure ?_)
    exact I2 0 (by omega)
end Go.Proofs.Ytplmejnoepkdgaa.H1
namespace Go.Proofs.Ytplmejnoepkdgaa.H1
open Go Go.Proofs.Ytplmejnoepkdgaa.Rf
theorem awake20_ev (k : Nat) : steeplelaw20_awake.f (k + 100) = some true := by kernel_rfl
theorem awake20_T : T (fun k => steeplelaw20_awake.f k) (fun b => b = true) := ⟨true, rfl, 100, fun k hk => by obtain ⟨j, rfl⟩ := Nat.exists_eq_add_of_le hk; rw [Nat.add_comm]; exact awake20_ev j⟩
end Go.Proofs.Ytplmejnoepkdgaa.H1
namespace Go.Proofs.Ytplmejnoepkdgaa.H1
open Go Go.Proofs.Ytplmejnoepkdgaa.Rf
theorem few9_X (t : List (List E)) {a b : Int} (ha : 0 ≤ a) (ha2 : a ≤ 1000) (hb : 0 ≤ b) : T (fun k => steeplelaw09_Few.f k t a b) (fun r => r = true → (t.length : Int) ≤ a ∧ ∀ i, ((t.getD i []).length : Int) ≤ b) := by
  refine T.eq (steeplelaw09_Few.f_eq · t a b) (T.ite (fun _ => T.pure (by simp)) fun h5 => ?_)
  have h5 : (t.length : Int) ≤ a := by have := of_decide_eq_false h5; omega
  refine T.loop0 (σ := Unit) (f := fun k _ i => steeplelaw09_Few.l58 k t b i) t.length (fun _ i => ∀ j, j < i → ((t.getD j []).length : Int) ≤ b) () (fun j h => absurd h (by omega)) fun s i hi hI ih => ?_
  refine T.eq (steeplelaw09_Few.l58_eq · t b _) (T.ite (fun h => ?_) (fun h => ?_))
  · have hlt := lt_dec h
    simp only [Int.toNat_natCast]
    refine T.yes (inB_nat hlt) (T.ite (fun _ => T.pure (by simp)) fun h16 => ?_)
    rw [inc (by omega)]
    refine ih () hlt fun j hj => ?_
    by_cases e : j = i
    · subst e
      have := of_decide_eq_false h16
      omega
    · exact hI j (by omega)
  · have e : i = t.length := by have := nlt_dec h; omega
    subst e
    refine T.pure fun _ => ⟨h5, fun i => ?_⟩
    by_cases hi : i < t.length
    · exact hI i hi
    · rw [getD_none (by omega)]; simpa using hb
/-! What hinders verifying. -/
def mayV (lv d : Int) (claim : E) (rounds : List (List E)) (r : List E) : Int :=
  if lv < 0 ∨ lv > 7 ∨ d < 1 ∨ fitsB lv d = false then 1
  else if rounds.length ≠ r.length ∨ (rounds.all fun v => decide ((v.length : Int) = d + 1)) = false then 6
  else if ofB lv claim = false ∨ allB lv r = false ∨ rounds.all (allB lv) = false then 5 else 0
theorem grow_X {n : Int} (h0 : 0 ≤ n) (h : n ≤ 1000000) : T (fun k => slices_Grow_Elem_v107.f k () n) (fun r => r = []) := by
  refine T.eq (slices_Grow_Elem_v107.f_eq · () n) (T.no (by simp only [decide_eq_false_iff_not]; omega) (T.eq (slices_Grow_Elem_v107.l7_eq · () n) ?_))
  have e0 : w64 (0 - 0) = 0 := by decide
  have e1 : w64 (n - 0) = n := by rw [w64_in (by omega) (by omega)]; omega
  rw [e0, e1]
  refine T.ite (fun h => T.yes ?_ (T.yes ?_ (T.pure rfl))) (fun _ => T.pure rfl)
  · simp only [zerosOk, Bool.and_eq_true, decide_eq_true_eq]
    exact ⟨h0, room_ok (by omega)⟩
  · simp [inS]; omega
theorem concat_X (t : List (List E)) (ht : t.length ≤ 1000) (h : ∀ i, (t.getD i []).length ≤ 1000) : T (fun k => slices_Concat_Elem.f k t) (fun r => r = t.flatten) := by
  have fl : ∀ i, i < t.length → (t.take (i + 1)).flatten = (t.take i).flatten ++ t.getD i [] := fun i hi => by
    rw [take_snoc t [] hi, List.flatten_append]; simp
  refine T.eq (slices_Concat_Elem.f_eq · t) (T.loop0 (f := fun k s i => slices_Concat_Elem.l58 k t s t (t.length : Int) i) t.length (fun s i => 0 ≤ s ∧ s ≤ 1000 * i) 0 ⟨by omega, by omega⟩ fun s i hi hI ih => ?_)
  refine T.eq (slices_Concat_Elem.l58_eq · t s t _ _) (T.ite (fun hlt => ?_) (fun hge => ?_))
  · have hlt := lt_dec hlt
    simp only [Int.toNat_natCast]
    have hl := h i
    have ew := w64_in (n := s + ((t.getD i []).length : Int)) (by omega) (by omega)
    refine T.yes (inB_nat hlt) (T.no (by rw [decide_eq_false_iff_not, ew]; omega) ?_)
    rw [inc (by omega), ew]
    exact ih _ hlt ⟨by omega, by omega⟩
  · refine T.bind (grow_X hI.1 (by omega)) fun r hr => ?_
    subst hr
    refine T.loop0 (f := fun k s i => slices_Concat_Elem.l250 k s t (t.length : Int) i) t.length (fun s i => s = (t.take i).flatten ∧ s.length ≤ 1000 * i) [] ⟨by simp, by simp⟩ fun s i hi hI ih => ?_
    refine T.eq (slices_Concat_Elem.l250_eq · s t _ _) (T.ite (fun hlt => ?_) (fun hge => T.pure ?_))
    · have hlt := lt_dec hlt
      simp only [Int.toNat_natCast]
      have hl := h i
      refine T.yes (inB_nat hlt) (T.yes (room_ok (by omega)) ?_)
      rw [inc (by omega)]
      exact ih _ hlt ⟨by rw [fl i hlt, hI.1], by rw [List.length_append]; omega⟩
    · have e : i = t.length := by have := nlt_dec hge; omega
      subst e
      rw [hI.1, List.take_length]
theorem allB_flatten (lv : Int) (t : List (List E)) : allB lv t.flatten = t.all (allB lv) := by
  induction t with
  | nil => rfl
  | cons a t ih =>
    show (a ++ t.flatten).all (ofB lv) = _
    rw [List.all_append]
    show (a.all (ofB lv) && allB lv t.flatten) = _
    rw [ih]; rfl
theorem may_X (lv d : Int) (claim : E) (rounds : List (List E)) (r : List E) (h1 : rounds.length ≤ 1000) (h2 : ∀ i, (rounds.getD i []).length ≤ 1000) (h3 : r.length ≤ 1000) : T (fun k => sumcheck_may.f k lv d claim rounds r) (fun e => e = mayV lv d claim rounds r) := by
  unfold mayV
  refine T.eq (sumcheck_may.f_eq · lv d claim rounds r) (T.bind (wide_X lv) fun w hw => T.ite (fun h => T.pure ?_) fun g1 => T.ite (fun h => T.pure ?_) fun g2 => T.bind (fits_X lv d) fun b hb => ?_)
  · have h : w = 0 := by simpa using h
    rw [if_pos (by have := hw.1 h; omega)]
  · rw [if_pos (by have := of_decide_eq_true h; omega)]
  subst hb
  have g1 : ¬ (lv < 0 ∨ lv > 7) := fun h => (by simpa using g1 : ¬ w = 0) (hw.2 h)
  have g2 := of_decide_eq_false g2
  refine T.ite (fun h => T.pure ?_) fun g3 => ?_
  · have h : fitsB lv d = false := by simpa using h
    rw [if_pos (.inr (.inr (.inr h)))]
  have g3 : fitsB lv d = true := by simpa using g3
  have h8 := fits_ok g3
  rw [if_neg (by rw [g3]; simp; omega)]
  refine T.ite (fun h => T.pure ?_) fun g4 => ?_
  · rw [if_pos (.inl (by intro e; rw [e] at h; simp at h))]
  have g4 : rounds.length = r.length := by have : (rounds.length : Int) = (r.length : Int) := by simpa using g4
                                           omega
  have hw1 : w64 (d + 1) = d + 1 := w64_in (by omega) (by omega)
  refine T.bind (p := fun b => b = !(rounds.all fun v => decide ((v.length : Int) = d + 1))) ?_ fun b hb => ?_
  · refine T.eq (slices_ContainsFunc_sumcheck_may_1.f_eq · rounds d) (T.bind (p := fun r => decide (r ≥ 0) = rounds.any fun v => !decide ((v.length : Int) = d + 1)) ?_ fun r hr => T.pure (by rw [hr, any_not]))
    refine T.eq (slices_IndexFunc_sumcheck_may_1.f_eq · rounds d) (find_X (f := fun k i => slices_IndexFunc_sumcheck_may_1.l26 k rounds d (rounds.length : Int) i) (g := fun k x => sumcheck_may_1.f k x d) rounds [] _ (by omega) (fun k i => slices_IndexFunc_sumcheck_may_1.l26_eq k rounds d _ i) fun i hi => T.eq (sumcheck_may_1.f_eq · _ d) (T.pure ?_))
    rw [hw1]
    by_cases e : ((rounds.getD i []).length : Int) = d + 1
    · rw [e]; simp
    · have : (((rounds.getD i []).length : Int) != d + 1) = true := by simpa using e
      rw [this]; simp only [e, decide_false, Bool.not_false]
  subst hb
  refine T.ite (fun h => T.pure ?_) fun g5 => ?_
  · rw [if_pos (.inr (by simpa only [Bool.not_eq_true'] using h))]
  have g5 : (rounds.all fun v => decide ((v.length : Int) = d + 1)) = true := by simpa only [Bool.not_eq_false'] using g5
  rw [if_neg (by rw [g5, g4]; simp)]
  refine T.bind (of_T lv claim) fun b hb => ?_
  subst hb
  refine T.ite (fun h => T.pure ?_) fun g6 => T.bind (of_all_X lv r (by omega)) fun b hb => ?_
  · rw [if_pos (.inl (by simpa only [Bool.not_eq_true'] using h))]
  subst hb
  refine T.ite (fun h => T.pure ?_) fun g7 => T.bind (concat_X rounds h1 h2) fun fl hfl => ?_
  · rw [if_pos (.inr (.inl (by simpa only [Bool.not_eq_true'] using h)))]
  subst hfl
  have hfl : rounds.flatten.length ≤ 100000000 := by
    have : ∀ t : List (List E), (∀ i, (t.getD i []).length ≤ 1000) → t.flatten.length ≤ 1000 * t.length := by
      intro t
      induction t with
      | nil => intro _; simp
      | cons a t ih =>
        intro h
        have h0 := h 0
        have := ih fun i => h (i + 1)
        simp only [List.flatten_cons, List.length_append, List.length_cons]
        have : ((a :: t).getD 0 []).length = a.length := rfl
        omega
    have := this rounds h2
    omega
  refine T.bind (of_all_X lv _ hfl) fun b hb => ?_
  subst hb
  rw [allB_flatten]
  refine T.ite (fun h => T.pure ?_) fun g8 => T.pure ?_
  · rw [if_pos (.inr (.inr (by simpa only [Bool.not_eq_true'] using h)))]
  · rw [if_neg]
    simp only [Bool.not_eq_false'] at g6 g7 g8
    rw [g6, g7, g8]; simp
structure MOk (lv d : Int) (claim : E) (rounds : List (List E)) (r : List E) : Prop where
  lv0 : 0 ≤ lv
  lv7 : lv ≤ 7
  d1 : 1 ≤ d
  fit : fitsB lv d = true
  len : rounds.length = r.length
  lens : ∀ i, i < rounds.length → ((rounds.getD i []).length : Int) = d + 1
  cl : ofB lv claim = true
  rs : allB lv r = true
  all : ∀ i, i < rounds.length → allB lv (rounds.getD i []) = true
theorem mayV_ok {lv d : Int} {claim : E} {rounds : List (List E)} {r : List E} (h : mayV lv d claim rounds r = 0) : MOk lv d claim rounds r := by
  unfold mayV at h
  split at h
  · cases h
  split at h
  · cases h
  split at h
  · cases h
  rename_i c1 c2 c3
  have c1' : ¬ lv < 0 ∧ ¬ lv > 7 ∧ ¬ d < 1 ∧ ¬ fitsB lv d = false := ⟨fun h => c1 (.inl h), fun h => c1 (.inr (.inl h)), fun h => c1 (.inr (.inr (.inl h))), fun h => c1 (.inr (.inr (.inr h)))⟩
  refine ⟨by omega, by omega, by omega, eq_true_of_ne_false c1'.2.2.2, Decidable.byContradiction fun e => c2 (.inl e), fun i hi => ?_, eq_true_of_ne_false fun e => c3 (.inl e), eq_true_of_ne_false fun e => c3 (.inr (.inl e)), fun i hi => ?_⟩
  · exact of_decide_eq_true ((all_getD [] _ rounds).1 (eq_true_of_ne_false fun e => c2 (.inr e)) i hi)
  · exact (all_getD [] _ rounds).1 (eq_true_of_ne_false fun e => c3 (.inr (.inr e))) i hi
/-- The claim behind so many rounds. -/
noncomputable def verS (rounds : List (List E)) (r : List E) : Nat → Nat → E → E × Int
  | 0, _, c => (c, 0)
  | m + 1, i, c => if Av ((rounds.getD i []).getD 0 z) ((rounds.getD i []).getD 1 z) = c then verS rounds r m (i + 1) (itpE (rounds.getD i []) (r.getD i z)) else (z, 8)
noncomputable def verV (lv d : Int) (claim : E) (rounds : List (List E)) (r : List E) : E × Int :=
  if mayV lv d claim rounds r = 0 then verS rounds r rounds.length 0 claim else (z, mayV lv d claim rounds r)
theorem tsum_X (l : List E) (hl : l.length ≤ 1000) : T (fun k => tower_Sum.f k l) (fun r => r = fold (fun i => l.getD i z) l.length) := by
  refine T.eq (tower_Sum.f_eq · l) (T.loop0 (f := fun k s i => tower_Sum.l58 k (0, 0, ()) s l (l.length : Int) i) l.length (fun s i => s = fold (fun i => l.getD i z) i) (0, 0, ()) rfl fun s i hi hI ih => ?_)
  refine T.eq (tower_Sum.l58_eq · _ s l _ _) (T.ite (fun hlt => ?_) (fun hge => ?_))
  · have hlt := lt_dec hlt
    simp only [Int.toNat_natCast]
    refine T.yes (inB_nat hlt) (T.bind (add_X _ _) fun t ht => ?_)
    rw [inc (by omega)]
    exact ih _ hlt (by rw [ht, hI]; rfl)
  · have e : i = l.length := by have := nlt_dec hge; omega
    subst e
    exact T.pure hI
theorem ends_X {v : List E} (h2 : 2 ≤ v.length) (h : v.length ≤ 1000) (hr : allR v) : T (fun k => line_Ends.f k v) (fun r => r = Av (v.getD 0 z) (v.getD 1 z)) := by
  refine T.eq (line_Ends.f_eq · v) ?_
  have e : (if (2 : Int) < (v.length : Int) then (2 : Int) else (v.length : Int)) = 2 := by split <;> omega
  rw [e]
  have hc : cutl v 0 2 = v.take 2 := by
    show (v.take (2 : Int).toNat).drop (0 : Int).toNat = _
    simp
  rw [hc]
  refine T.yes (by simp only [inS, Bool.and_eq_true, decide_eq_true_eq]; omega) (T.bind (tsum_X _ (by rw [List.length_take]; omega)) fun r hr' => T.pure ?_)
  have gt : ∀ i, i < 2 → (v.take 2).getD i z = v.getD i z := fun i hi => by
    rw [List.getD_eq_getElem?_getD, List.getElem?_take, if_pos hi, ← List.getD_eq_getElem?_getD]
  rw [hr', List.length_take, Nat.min_eq_left h2, fold, fold, fold, gt 0 (by omega), gt 1 (by omega), Av_zl (hr 0)]
theorem eqE (a b : E) : ((a.1 == b.1) && (a.2.1 == b.2.1)) = decide (a = b) := by
  rw [Bool.eq_iff_iff]
  simp only [Bool.and_eq_true, beq_iff_eq, decide_eq_true_eq]
  exact ⟨fun h => Prod.ext h.1 (Prod.ext h.2 rfl), fun h => by rw [h]; exact ⟨rfl, rfl⟩⟩
theorem verS_L {lv d : Int} {claim : E} {rounds : List (List E)} {r : List E} (h : MOk lv d claim rounds r) (hrr : allRR rounds) (hr : allR r) : (∀ i, i < rounds.length → allL lv (rounds.getD i [])) ∧ allL lv r :=
  ⟨fun i hi => allL_of h.lv0 h.lv7 (hrr i) (h.all i hi), allL_of h.lv0 h.lv7 hr h.rs⟩
theorem Verify_X (lv d : Int) (claim : E) (rounds : List (List E)) (r : List E) (h1 : rounds.length ≤ 1000) (h2 : ∀ i, (rounds.getD i []).length ≤ 1000) (h3 : r.length ≤ 1000) (hrr : allRR rounds) (hr : allR r) : T (fun k => sumcheck_Verify.f k lv d claim rounds r) (fun q => q = verV lv d claim rounds r) := by
  unfold verV
  refine T.eq (sumcheck_Verify.f_eq · lv d claim rounds r) (T.bind (may_X lv d claim rounds r h1 h2 h3) fun e he => T.ite (fun h => T.pure ?_) fun h => ?_)
  · subst he; rw [if_neg (by simpa using h)]; rfl
  subst he
  have h0 : mayV lv d claim rounds r = 0 := by simpa using h
  rw [if_pos h0]
  have M := mayV_ok h0
  obtain ⟨L1, L2⟩ := verS_L M hrr hr
  refine T.loop0 (f := fun k s i => sumcheck_Verify.l58 k lv rounds r s (0, 0, ()) (rounds.length : Int) i) rounds.length (fun s i => verS rounds r (rounds.length - i) i s = verS rounds r rounds.length 0 claim) claim rfl fun s i hi hI ih => ?_
  refine T.eq (sumcheck_Verify.l58_eq · lv rounds r s _ _ _) (T.ite (fun hlt => ?_) (fun hge => ?_))
  · have hlt := lt_dec hlt
    simp only [Int.toNat_natCast]
    have hl := M.lens i hlt
    have hd := M.d1
    have hli := h2 i
    have zr : r.getD i (0, 0, ()) = r.getD i z := rfl
    rw [zr]
    rw [show rounds.length - i = (rounds.length - (i + 1)) + 1 by omega, verS] at hI
    refine T.yes (inB_nat hlt) (T.bind (ends_X (by omega) hli (hrr i)) fun q hq => ?_)
    subst hq
    rw [eqE]
    refine T.ite (fun h => T.pure ?_) (fun h => T.yes (inB_nat hlt) (T.yes (inB_nat (by rw [← M.len]; exact hlt)) (T.bind (line_At_X (by omega) (by rw [show ((rounds.getD i []).length : Int) - 1 = d by omega]; exact M.fit) (L1 i hlt) (L2 i)) fun q hq => ?_)))
    · have h : ¬ Av ((rounds.getD i []).getD 0 z) ((rounds.getD i []).getD 1 z) = s := by simpa using h
      rw [if_neg h] at hI
      exact hI
    · have h : Av ((rounds.getD i []).getD 0 z) ((rounds.getD i []).getD 1 z) = s := by simpa using h
      rw [if_pos h] at hI
      rw [inc (by omega), hq.1]
      exact ih _ hlt hI
  · have e : i = rounds.length := Nat.le_antisymm hi (nlt_dec hge)
    subst e
    rw [Nat.sub_self, verS] at hI
    exact T.pure hI
theorem rVerify_X (lv d : Int) (claim : E) (rounds : List (List E)) (r : List E) (h1 : rounds.length ≤ 1000) (h2 : ∀ i, (rounds.getD i []).length ≤ 1000) (h3 : r.length ≤ 1000) (hcl : rngE claim) (hrr : allRR rounds) (hr : allR r) : T (fun k => steepleref20_Verify.f k lv d claim rounds r) (fun q => (q.1, q.2.1) = verV lv d claim rounds r) := by
  unfold verV
  refine T.eq (steepleref20_Verify.f_eq · lv d claim rounds r) (T.ite (fun h => T.pure ?_) fun g1 => T.ite (fun h => T.pure ?_) fun g2 => T.ite (fun h => T.pure ?_) fun g3 => T.bind (rfits_X lv d) fun b hb => ?_)
  · have h := of_decide_eq_true h
    have : mayV lv d claim rounds r = 1 := by unfold mayV; rw [if_pos (.inl h)]
    rw [this]; rfl
  · have h := of_decide_eq_true h
    have : mayV lv d claim rounds r = 1 := by unfold mayV; rw [if_pos (.inr (.inl h))]
    rw [this]; rfl
  · have h := of_decide_eq_true h
    have : mayV lv d claim rounds r = 1 := by unfold mayV; rw [if_pos (.inr (.inr (.inl h)))]
    rw [this]; rfl
  subst hb
  have g1 := of_decide_eq_false g1
  have g2 := of_decide_eq_false g2
  have g3 := of_decide_eq_false g3
  refine T.ite (fun h => T.pure ?_) fun g4 => ?_
  · have h : fitsB lv d = false := by simpa using h
    have : mayV lv d claim rounds r = 1 := by unfold mayV; rw [if_pos (.inr (.inr (.inr h)))]
    rw [this]; rfl
  have g4 : fitsB lv d = true := by simpa using g4
  have h8 := fits_ok g4
  have G : ¬ (lv < 0 ∨ lv > 7 ∨ d < 1 ∨ fitsB lv d = false) := by rw [g4]; simp; omega
  refine T.ite (fun h => T.pure ?_) fun g5 => ?_
  · have : mayV lv d claim rounds r = 6 := by unfold mayV; rw [if_neg G, if_pos (.inl (by intro e; rw [e] at h; simp at h))]
    rw [this]; rfl
  have g5 : rounds.length = r.length := by have : (rounds.length : Int) = (r.length : Int) := by simpa using g5
                                           omega
  have hw1 : w64 (d + 1) = d + 1 := w64_in (by omega) (by omega)
  refine T.loop0 (σ := Unit) (f := fun k _ i => steepleref20_Verify.l122 k lv d rounds r claim ((0, 0, ()), 0, ()) i) rounds.length (fun _ i => ∀ j, j < i → ((rounds.getD j []).length : Int) = d + 1) () (fun j h => absurd h (by omega)) fun s i hi hI ih => ?_
  refine T.eq (steepleref20_Verify.l122_eq · lv d rounds r claim _ _) (T.ite (fun hlt => ?_) (fun hge => ?_))
  · have hlt := lt_dec hlt
    simp only [Int.toNat_natCast]
    rw [hw1]
    refine T.yes (inB_nat hlt) (T.ite (fun h => T.pure ?_) (fun h => ?_))
    · have : mayV lv d claim rounds r = 6 := by
        unfold mayV; rw [if_neg G, if_pos (.inr (all_not (d := []) hlt (by simpa using h)))]
      rw [this]; rfl
    · rw [inc (by omega)]
      refine ih () hlt fun j hj => ?_
      by_cases e : j = i
      · subst e; simpa using h
      · exact hI j (by omega)
  have e : i = rounds.length := Nat.le_antisymm hi (nlt_dec hge)
  subst e
  have g6 : (rounds.all fun v => decide ((v.length : Int) = d + 1)) = true := (all_getD [] _ rounds).2 fun i hi => by simpa using hI i hi
  have G2 : ¬ (rounds.length ≠ r.length ∨ (rounds.all fun v => decide ((v.length : Int) = d + 1)) = false) := by rw [g6, g5]; simp
  refine T.bind (rof_X lv hcl) fun b hb => ?_
  subst hb
  refine T.ite (fun h => T.pure ?_) fun g7 => T.bind (rAll_X lv (by omega) hr) fun b hb => ?_
  · have : mayV lv d claim rounds r = 5 := by unfold mayV; rw [if_neg G, if_neg G2, if_pos (.inl (by simpa using h))]
    rw [this]; rfl
  subst hb
  refine T.ite (fun h => T.pure ?_) fun g8 => ?_
  · have : mayV lv d claim rounds r = 5 := by unfold mayV; rw [if_neg G, if_neg G2, if_pos (.inr (.inl (by simpa using h)))]
    rw [this]; rfl
  refine T.loop0 (σ := Unit) (f := fun k _ i => steepleref20_Verify.l506 k lv rounds r claim ((0, 0, ()), 0, ()) i) rounds.length (fun _ i => ∀ j, j < i → allB lv (rounds.getD j []) = true) () (fun j h => absurd h (by omega)) fun s i hi hI2 ih => ?_
  refine T.eq (steepleref20_Verify.l506_eq · lv rounds r claim _ _) (T.ite (fun hlt => ?_) (fun hge => ?_))
  · have hlt := lt_dec hlt
    simp only [Int.toNat_natCast]
    refine T.yes (inB_nat hlt) (T.bind (rAll_X lv (by have := h2 i; omega) (hrr i)) fun b hb => ?_)
    have hb : b = allB lv (rounds.getD i []) := hb
    refine T.ite (fun h => T.pure ?_) (fun h => ?_)
    · have : mayV lv d claim rounds r = 5 := by
        unfold mayV; rw [if_neg G, if_neg G2, if_pos (.inr (.inr (all_not (d := []) hlt (by rw [← hb]; simpa using h))))]
      rw [this]; rfl
    · rw [inc (by omega)]
      refine ih () hlt fun j hj => ?_
      by_cases e : j = i
      · subst e; rw [← hb]; simpa using h
      · exact hI2 j (by omega)
  have e : i = rounds.length := Nat.le_antisymm hi (nlt_dec hge)
  subst e
  have h0 : mayV lv d claim rounds r = 0 := by
    unfold mayV; rw [if_neg G, if_neg G2, if_neg]
    rw [(all_getD [] _ rounds).2 hI2]
    simp only [Bool.not_eq_false'] at g7 g8
    rw [g7, g8]; simp
  rw [if_pos h0]
  have M := mayV_ok h0
  obtain ⟨L1, L2⟩ := verS_L M hrr hr
  refine T.loop0 (f := fun k s i => steepleref20_Verify.l2042 k lv rounds r ((0, 0, ()), 0, ()) s i) rounds.length (fun s i => verS rounds r (rounds.length - i) i s = verS rounds r rounds.length 0 claim) claim rfl fun s i hi hI ih => ?_
  refine T.eq (steepleref20_Verify.l2042_eq · lv rounds r _ s _) (T.ite (fun hlt => ?_) (fun hge => ?_))
  · have hlt := lt_dec hlt
    simp only [Int.toNat_natCast]
    have hl := M.lens i hlt
    have hd := M.d1
    have hli := h2 i
    have zr : r.getD i (0, 0, ()) = r.getD i z := rfl
    rw [zr]
    rw [show rounds.length - i = (rounds.length - (i + 1)) + 1 by omega, verS] at hI
    refine T.yes (inB_nat hlt) (T.yes (inB_nat (i := 0) (by omega)) (T.yes (inB_nat hlt) (T.yes (inB_nat (i := 1) (by omega)) (T.bind (rAdd_X _ _) fun q hq => ?_))))
    subst hq
    rw [eqE]
    refine T.ite (fun h => T.pure ?_) (fun h => T.yes (inB_nat hlt) (T.yes (inB_nat (by rw [← M.len]; exact hlt)) (T.bind (rAt_X (by omega) (by rw [show ((rounds.getD i []).length : Int) - 1 = d by omega]; exact M.fit) (hrr i) (hr i)) fun q hq => ?_)))
    · have h : ¬ Av ((rounds.getD i []).getD 0 z) ((rounds.getD i []).getD 1 z) = s := of_decide_eq_false (by rw [Bool.not_eq_true'] at h; exact h)
      rw [if_neg h] at hI
      exact hI
    · have h : Av ((rounds.getD i []).getD 0 z) ((rounds.getD i []).getD 1 z) = s := of_decide_eq_true (by rw [Bool.not_eq_false'] at h; exact h)
      rw [if_pos h] at hI
      rw [inc (by omega), hq]
      exact ih _ hlt hI
  · have e : i = rounds.length := Nat.le_antisymm hi (nlt_dec hge)
    subst e
    rw [Nat.sub_self, verS] at hI
    exact T.pure hI
abbrev TRounds20 : Ty := .pair TE (.pair (.sl false (.sl false TE)) (.pair (.sl false TE) .unit))
theorem verifies_T (lv d : Int) (x : E × List (List E) × List E × Unit) (hx : okD TRounds20 x) : T (fun k => steeplelaw20_SumcheckVerifies.f k lv d x) (fun b => b = true) := by
  have hcl : rngE x.1 := okE hx.1
  have hrr : allRR x.2.1 := okTs hx.2.1
  have hr : allR x.2.2.1 := okEs hx.2.2.1
  refine T.eq (steeplelaw20_SumcheckVerifies.f_eq · lv d x) (T.bind (few9_X x.2.1 (by decide) (by decide) (by decide)) fun b hb => T.ite (fun _ => T.bind awake20_T fun a ha => T.pure ha) fun h1 => T.ite (fun _ => T.bind awake20_T fun a ha => T.pure ha) fun h6 => ?_)
  obtain ⟨h8, h10⟩ := hb (by simpa using h1)
  have h6 := of_decide_eq_false h6
  have hi : ∀ i, (x.2.1.getD i []).length ≤ 1000 := fun i => by have := h10 i; omega
  refine T.bind (Verify_X lv d x.1 x.2.1 x.2.2.1 (by omega) hi (by omega) hrr hr) fun q hq => T.bind (refs09_X x.2.1 (by omega) fun i => by have := hi i; omega) fun t ht => T.bind (ref01_X x.2.2.1 (by omega)) fun p hp => ?_
  subst ht hp
  refine T.bind (rVerify_X lv d x.1 x.2.1 x.2.2.1 (by omega) hi (by omega) hcl hrr hr) fun w hw => T.bind awake20_T fun a ha => T.yes ha ?_
  subst hq
  rw [← hw]
  exact T.yes (by simp) (T.pure (z_eq _))
end Go.Proofs.Ytplmejnoepkdgaa.H1
