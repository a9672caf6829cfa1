/- A walk by reckoning: what a Go function comes to, reckoned out of its operations, and why that is so. -/
import Derived.Test.YtlmcalffemklnaaWitnessWiresH
import Derived.Test.YtlmcalffemklnaaRf5
import Derived.IntWalk
set_option linter.unusedVariables false
set_option linter.unusedSimpArgs false
-- Pa
namespace Go.Proofs.Ytlmcalffemklnaa.H1
open Go Go.Proofs.Ytlmcalffemklnaa.Rf
/-- What a function comes to, from some fuel on. -/
def Ev {α : Type} (g : Nat → Option α) (r : α) : Prop := ∃ K, ∀ k, K ≤ k → g k = some r
def T {α : Type} (g : Nat → Option α) (p : α → Prop) : Prop := ∃ r, p r ∧ Ev g r
theorem T.pure {α : Type} {p : α → Prop} {r : α} (h : p r) : T (fun _ => some r) p := ⟨r, h, 0, fun _ _ => rfl⟩
theorem T.mono {α : Type} {g : Nat → Option α} {p q : α → Prop} (h : T g p) (k : ∀ a, p a → q a) : T g q := let ⟨r, h1, h2⟩ := h; ⟨r, k r h1, h2⟩
theorem T.eq {α : Type} {f g : Nat → Option α} {p : α → Prop} (he : ∀ k, f (k + 1) = g k) (h : T g p) : T f p := by
  obtain ⟨r, h1, K, h2⟩ := h
  exact ⟨r, h1, K + 1, fun k hk => by obtain ⟨j, rfl⟩ := Nat.exists_eq_add_of_le hk; rw [show K + 1 + j = (K + j) + 1 by omega, he]; exact h2 _ (Nat.le_add_right _ _)⟩
theorem T.bind {α β : Type} {g : Nat → Option α} {h : Nat → α → Option β} {p : α → Prop} {q : β → Prop} (h1 : T g p) (h2 : ∀ a, p a → T (fun k => h k a) q) : T (fun k => (g k).bind (h k)) q := by
  obtain ⟨a, ha, K, hK⟩ := h1
  obtain ⟨b, hb, L, hL⟩ := h2 a ha
  exact ⟨b, hb, K + L, fun k hk => by show (g k).bind (h k) = _; rw [hK k (by omega)]; exact hL k (by omega)⟩
theorem T.ite {α : Type} {g h : Nat → Option α} {b : Bool} {p : α → Prop} (h1 : b = true → T g p) (h2 : b = false → T h p) : T (fun k => bif b then g k else h k) p := by
  cases b
  · exact h2 rfl
  · exact h1 rfl
theorem T.yes {α : Type} {g h : Nat → Option α} {b : Bool} {p : α → Prop} (hb : b = true) (h1 : T g p) : T (fun k => bif b then g k else h k) p := T.ite (fun _ => h1) (fun h => by rw [hb] at h; cases h)
theorem T.no {α : Type} {g h : Nat → Option α} {b : Bool} {p : α → Prop} (hb : b = false) (h1 : T h p) : T (fun k => bif b then g k else h k) p := T.ite (fun h => by rw [hb] at h; cases h) (fun _ => h1)
/-- A count from one number up to another. -/
theorem T.loop {α σ : Type} {f : Nat → σ → Int → Option α} {p : α → Prop} (n : Nat) (I : σ → Nat → Prop) (body : ∀ s i, i ≤ n → I s i → (∀ s', i < n → I s' (i + 1) → T (fun k => f k s' ((i : Int) + 1)) p) → T (fun k => f k s (i : Int)) p) :
    ∀ (m : Nat) (s : σ) (i : Nat), n - i = m → i ≤ n → I s i → T (fun k => f k s (i : Int)) p := by
  intro m
  induction m with
  | zero => intro s i hm hi hI; exact body s i hi hI (fun s' hlt _ => absurd hlt (by omega))
  | succ m ih => intro s i hm hi hI; exact body s i hi hI (fun s' hlt hI' => by have := ih s' (i + 1) (by omega) (by omega) hI'; simpa using this)
theorem T.loop0 {α σ : Type} {f : Nat → σ → Int → Option α} {p : α → Prop} (n : Nat) (I : σ → Nat → Prop) (s : σ) (h0 : I s 0) (body : ∀ s i, i ≤ n → I s i → (∀ s', i < n → I s' (i + 1) → T (fun k => f k s' ((i : Int) + 1)) p) → T (fun k => f k s (i : Int)) p) :
    T (fun k => f k s 0) p := by
  have := T.loop n I body n s 0 (by omega) (by omega) h0
  simpa using this
theorem w64_in {n : Int} (h1 : -9223372036854775808 ≤ n) (h2 : n ≤ 9223372036854775807) : w64 n = n := Go.IntWalk.i64_in n ⟨h1, h2⟩
theorem inB_nat {i n : Nat} (h : i < n) : inB (i : Int) n = true := by simp [inB]; omega
theorem inB_int {i : Int} {n : Nat} (h1 : 0 ≤ i) (h2 : i < n) : inB i n = true := by simp [inB]; omega
theorem room_ok {n b : Nat} (h : n * b ≤ 140737488355328) : room n b = true := Nat.ble_eq_true_of_le h
abbrev E := Int × Int × Unit
abbrev O := Int × Int × Int × E × Unit
def z : E := (0, 0, ())
end Go.Proofs.Ytlmcalffemklnaa.H1
-- Pb
namespace Go.Proofs.Ytlmcalffemklnaa.H1
open Go Go.Proofs.Ytlmcalffemklnaa.Rf
def zo : O := (0, 0, 0, (0, 0, ()), ())
theorem lt_dec {i n : Nat} : decide ((i : Int) < (n : Int)) = true → i < n := fun h => by simpa using h
theorem nlt_dec {i n : Nat} : decide ((i : Int) < (n : Int)) = false → n ≤ i := fun h => by simpa using h
theorem inc {i : Nat} (h : i ≤ 100000000) : w64 ((i : Int) + 1) = (i : Int) + 1 := w64_in (by omega) (by omega)
end Go.Proofs.Ytlmcalffemklnaa.H1
-- Pc
namespace Go.Proofs.Ytlmcalffemklnaa.H1
open Go Go.Proofs.Ytlmcalffemklnaa.Rf
theorem take_snoc {α : Type} (l : List α) (d : α) {i : Nat} (h : i < l.length) : l.take (i + 1) = l.take i ++ [l.getD i d] := by
  rw [List.take_add_one, List.getElem?_eq_getElem h, List.getD_eq_getElem?_getD, List.getElem?_eq_getElem h]; rfl
end Go.Proofs.Ytlmcalffemklnaa.H1
-- Pd
namespace Go.Proofs.Ytlmcalffemklnaa.H1
open Go Go.Proofs.Ytlmcalffemklnaa.Rf
/-- One corner's values. -/
def col (t : List (List E)) (i : Nat) : List E := t.map fun x => x.getD i z
theorem set_get {α : Type} (l : List α) (i j : Nat) (a d : α) (hi : i < l.length) : (l.set i a).getD j d = if j = i then a else l.getD j d := by
  by_cases h : j = i
  · subst h; simp [List.getD_eq_getElem?_getD, hi]
  · simp [List.getD_eq_getElem?_getD, h, List.getElem?_set_ne (Ne.symm h)]
theorem list_eq {α : Type} {l m : List α} (d : α) (hl : l.length = m.length) (h : ∀ j, j < m.length → l.getD j d = m.getD j d) : l = m := by
  apply List.ext_getElem hl
  intro j h1 h2
  have := h j h2
  simpa [List.getD_eq_getElem?_getD, h1, h2] using this
end Go.Proofs.Ytlmcalffemklnaa.H1
-- Pe
namespace Go.Proofs.Ytlmcalffemklnaa.H1
open Go Go.Proofs.Ytlmcalffemklnaa.Rf
end Go.Proofs.Ytlmcalffemklnaa.H1
-- Pg
namespace Go.Proofs.Ytlmcalffemklnaa.H1
open Go Go.Proofs.Ytlmcalffemklnaa.Rf
def rng (n : Int) : Prop := 0 ≤ n ∧ n < 18446744073709551616
theorem wrap_in {n : Int} (h : rng n) : IntKind.u64.wrap n = n := by
  have : IntKind.u64.wrap n = n % 18446744073709551616 := by unfold IntKind.wrap; simp [IntKind.signed, IntKind.bits]
  rw [this]; exact Int.emod_eq_of_lt h.1 h.2
theorem ofInt_nat {n : Int} (h : rng n) : ((BitVec.ofInt 64 n).toNat : Int) = n := by
  rw [BitVec.toNat_ofInt]
  obtain ⟨h1, h2⟩ := h
  have : n % ((2 ^ 64 : Nat) : Int) = n := Int.emod_eq_of_lt h1 (by simpa using h2)
  rw [this]; omega
end Go.Proofs.Ytlmcalffemklnaa.H1
-- Pl
namespace Go.Proofs.Ytlmcalffemklnaa.H1
open Go Go.Proofs.Ytlmcalffemklnaa.Rf
theorem Ev.T {α : Type} {g : Nat → Option α} {a : α} (h : Ev g a) : T g (fun r => r = a) := ⟨a, rfl, h⟩
theorem shl_pow {m : Nat} (h : m ≤ 6) : shlI .i64 1 (m : Int) = ((2 ^ m : Nat) : Int) := by
  have hl : m = 0 ∨ m = 1 ∨ m = 2 ∨ m = 3 ∨ m = 4 ∨ m = 5 ∨ m = 6 := by omega
  rcases hl with rfl | rfl | rfl | rfl | rfl | rfl | rfl <;> decide
theorem wu_in {n : Int} (h1 : 0 ≤ n) (h2 : n < 18446744073709551616) : wu64 n = n := wrap_in ⟨h1, h2⟩
end Go.Proofs.Ytlmcalffemklnaa.H1
-- Qa
namespace Go.Proofs.Ytlmcalffemklnaa.Tow
/-- Words of a level, times the level's generator. -/
def mulX : Nat → Nat → Nat
  | 0, a => a
  | l + 1, a => (((a &&& (2 ^ 2 ^ l - 1)) ^^^ mulX l (a >>> 2 ^ l)) <<< 2 ^ l) ^^^ (a >>> 2 ^ l)
/-- The product of words of a level. -/
def mul : Nat → Nat → Nat → Nat
  | 0, a, b => a &&& b &&& 1
  | l + 1, a, b =>
    match Nat.beq a 0 || Nat.beq b 0 with
    | true => 0
    | false =>
      ((mul l ((a >>> 2 ^ l) ^^^ (a &&& (2 ^ 2 ^ l - 1))) ((b >>> 2 ^ l) ^^^ (b &&& (2 ^ 2 ^ l - 1))) ^^^ mul l (a >>> 2 ^ l) (b >>> 2 ^ l) ^^^ mul l (a &&& (2 ^ 2 ^ l - 1)) (b &&& (2 ^ 2 ^ l - 1)) ^^^ mulX l (mul l (a >>> 2 ^ l) (b >>> 2 ^ l))) <<< 2 ^ l)
        ^^^ (mul l (a &&& (2 ^ 2 ^ l - 1)) (b &&& (2 ^ 2 ^ l - 1)) ^^^ mul l (a >>> 2 ^ l) (b >>> 2 ^ l))
theorem mulX0 : ∀ l, mulX l 0 = 0
  | 0 => rfl
  | l + 1 => by simp [mulX, mulX0 l]
theorem mul0l : ∀ l b, mul l 0 b = 0
  | 0, b => by simp [mul]
  | l + 1, b => rfl
theorem mul0r : ∀ l a, mul l a 0 = 0
  | 0, a => by simp [mul]
  | l + 1, a => by
    unfold mul
    have : (Nat.beq a 0 || Nat.beq 0 0) = true := by simp
    rw [this]
theorem mul_eq (l a b : Nat) : mul (l + 1) a b =
      ((mul l ((a >>> 2 ^ l) ^^^ (a &&& (2 ^ 2 ^ l - 1))) ((b >>> 2 ^ l) ^^^ (b &&& (2 ^ 2 ^ l - 1))) ^^^ mul l (a >>> 2 ^ l) (b >>> 2 ^ l) ^^^ mul l (a &&& (2 ^ 2 ^ l - 1)) (b &&& (2 ^ 2 ^ l - 1)) ^^^ mulX l (mul l (a >>> 2 ^ l) (b >>> 2 ^ l))) <<< 2 ^ l)
        ^^^ (mul l (a &&& (2 ^ 2 ^ l - 1)) (b &&& (2 ^ 2 ^ l - 1)) ^^^ mul l (a >>> 2 ^ l) (b >>> 2 ^ l)) := by
  by_cases ha : a = 0
  · subst ha
    simp [mul0l, mulX0]
  · by_cases hb : b = 0
    · subst hb
      simp [mul0r, mulX0]
    · cases a with
      | zero => exact absurd rfl ha
      | succ a =>
        cases b with
        | zero => exact absurd rfl hb
        | succ b => rfl
theorem xor_shl {w x y : Nat} (h : y < 2 ^ w) : x <<< w + y = x <<< w ^^^ y := by
  rw [Nat.shiftLeft_eq, Nat.mul_comm, Nat.two_pow_add_eq_or_of_lt h x]
  apply Nat.eq_of_testBit_eq
  intro i
  rw [Nat.testBit_or, Nat.testBit_xor]
  by_cases e : i < w
  · have : (2 ^ w * x).testBit i = false := by
      rw [Nat.mul_comm, ← Nat.shiftLeft_eq, Nat.testBit_shiftLeft]; simp; omega
    rw [this]; simp
  · have : y.testBit i = false := Nat.testBit_lt_two_pow (Nat.lt_of_lt_of_le h (Nat.pow_le_pow_right (by decide) (by omega)))
    rw [this]; simp
/-- A word's halves. -/
theorem halves (w a : Nat) : a = (a >>> w) <<< w ^^^ (a &&& (2 ^ w - 1)) := by
  have hlt : a &&& (2 ^ w - 1) < 2 ^ w := by rw [Nat.and_two_pow_sub_one_eq_mod]; exact Nat.mod_lt _ (Nat.two_pow_pos w)
  rw [← xor_shl hlt, Nat.and_two_pow_sub_one_eq_mod, Nat.shiftLeft_eq, Nat.shiftRight_eq_div_pow]
  rw [Nat.mul_comm]; exact (Nat.div_add_mod a (2 ^ w)).symm
theorem lo_lt (w a : Nat) : a &&& (2 ^ w - 1) < 2 ^ w := by rw [Nat.and_two_pow_sub_one_eq_mod]; exact Nat.mod_lt _ (Nat.two_pow_pos w)
theorem hi_lt {w a : Nat} (h : a < 2 ^ (w + w)) : a >>> w < 2 ^ w := by
  rw [Nat.shiftRight_eq_div_pow, Nat.div_lt_iff_lt_mul (Nat.two_pow_pos w), ← Nat.pow_add]; exact h
theorem two_two (l : Nat) : 2 ^ 2 ^ (l + 1) = 2 ^ (2 ^ l + 2 ^ l) := by rw [Nat.pow_succ, Nat.mul_two]
end Go.Proofs.Ytlmcalffemklnaa.Tow
-- Fa
namespace Go.Proofs.Ytlmcalffemklnaa.Tow
/-! The tower's fields. -/
theorem mul_comm : ∀ l a b, mul l a b = mul l b a
  | 0, a, b => by simp only [mul, Nat.and_comm a b]
  | l + 1, a, b => by
    rw [mul_eq l a b, mul_eq l b a, mul_comm l (b >>> 2 ^ l ^^^ (b &&& (2 ^ 2 ^ l - 1))) _, mul_comm l (b >>> 2 ^ l) _, mul_comm l (b &&& (2 ^ 2 ^ l - 1)) _]
theorem split {l a : Nat} (h : a < 2 ^ 2 ^ (l + 1)) : ∃ a1 a0, a1 < 2 ^ 2 ^ l ∧ a0 < 2 ^ 2 ^ l ∧ a = a1 <<< 2 ^ l ^^^ a0 := by
  rw [two_two] at h
  exact ⟨_, _, hi_lt h, lo_lt (2 ^ l) a, halves _ _⟩
/-! Frobenius. -/
end Go.Proofs.Ytlmcalffemklnaa.Tow
-- Ua
namespace Go.Proofs.Ytlmcalffemklnaa.H1
open Go Go.Proofs.Ytlmcalffemklnaa.Rf
theorem rng_nat {n : Int} (h : rng n) : ∃ m : Nat, n = (m : Int) ∧ m < 2 ^ 64 := ⟨n.toNat, by have := h.1; omega, by have := h.2; have := h.1; omega⟩
theorem nat_rng {m : Nat} (h : m < 2 ^ 64) : rng (m : Int) := ⟨by omega, by have : (2:Nat)^64 = 18446744073709551616 := rfl; omega⟩
theorem toNat_nat {m : Nat} (h : m < 2 ^ 64) : (BitVec.ofInt 64 (m : Int)).toNat = m := by
  have := ofInt_nat (nat_rng h); omega
theorem and_nat {a b : Nat} (ha : a < 2 ^ 64) (hb : b < 2 ^ 64) : andI .u64 (a : Int) (b : Int) = ((a &&& b : Nat) : Int) := by
  show IntKind.u64.wrap ((BitVec.ofInt 64 (a : Int) &&& BitVec.ofInt 64 (b : Int)).toNat : Int) = _
  rw [BitVec.toNat_and, toNat_nat ha, toNat_nat hb]
  exact wrap_in (nat_rng (Nat.lt_of_le_of_lt Nat.and_le_left ha))
theorem or_nat {a b : Nat} (ha : a < 2 ^ 64) (hb : b < 2 ^ 64) : orI .u64 (a : Int) (b : Int) = ((a ||| b : Nat) : Int) := by
  show IntKind.u64.wrap ((BitVec.ofInt 64 (a : Int) ||| BitVec.ofInt 64 (b : Int)).toNat : Int) = _
  rw [BitVec.toNat_or, toNat_nat ha, toNat_nat hb]
  exact wrap_in (nat_rng (Nat.or_lt_two_pow ha hb))
theorem shr_nat {a s : Nat} (hs : s ≤ 64) : shrI .u64 (a : Int) (s : Int) = ((a >>> s : Nat) : Int) := by
  unfold shrI
  have e : min ((s : Int).toNat) IntKind.u64.bits = s := by rw [Int.toNat_natCast]; exact Nat.min_eq_left hs
  rw [e, Nat.shiftRight_eq_div_pow, Int.fdiv_eq_ediv_of_nonneg _ (by exact Int.le_of_lt (Int.pow_pos (by decide)))]
  simp
theorem shl_nat {a s : Nat} (hs : s ≤ 64) (h : a <<< s < 2 ^ 64) : shlI .u64 (a : Int) (s : Int) = ((a <<< s : Nat) : Int) := by
  unfold shlI
  have e : min ((s : Int).toNat) IntKind.u64.bits = s := by rw [Int.toNat_natCast]; exact Nat.min_eq_left hs
  rw [e, show (a : Int) * 2 ^ s = ((a <<< s : Nat) : Int) by rw [Nat.shiftLeft_eq]; simp]
  exact wrap_in (nat_rng h)
end Go.Proofs.Ytlmcalffemklnaa.H1
namespace Go.Proofs.Ytlmcalffemklnaa.H1
open Go Go.Proofs.Ytlmcalffemklnaa.Rf
abbrev Gt := Int × Int × Int × Int × Int × Unit
abbrev Sy := Int × Int × Int × Int × Int × List Gt × Unit
def g0 : Gt := (0, 0, 0, 0, 0, ())
theorem two_T (n : Nat) (hn : n ≤ 62) : T (fun k => steepleref15_Two.f k (n : Int)) (fun r => r = ((2 ^ n : Nat) : Int)) := by
  refine T.eq (steepleref15_Two.f_eq · _) ?_
  refine T.loop0 (σ := Int) (f := fun k s i => steepleref15_Two.l58 k n s i) n (fun s i => s = ((2 ^ i : Nat) : Int)) 1 rfl fun s i hi hI ih => ?_
  refine T.eq (steepleref15_Two.l58_eq · _ _ _) (T.ite (fun h => ?_) (fun h => ?_))
  · have hlt := lt_dec h
    have hp : 2 ^ i ≤ 2 ^ 61 := Nat.pow_le_pow_right (by decide) (by omega)
    have h61 : (2 : Nat) ^ 61 = 2305843009213693952 := rfl
    have e : w64 (2 * s) = ((2 ^ (i + 1) : Nat) : Int) := by
      rw [hI, Nat.pow_succ]
      generalize 2 ^ i = q at hp
      rw [w64_in (by omega) (by omega)]; omega
    rw [e, inc (by omega)]
    exact ih _ hlt rfl
  · have := nlt_dec h
    exact T.pure (by rw [hI, show i = n by omega])
def pw (n : Int) : Int := ((2 ^ n.toNat : Nat) : Int)
theorem two_int {n : Int} (h0 : 0 ≤ n) (h1 : n ≤ 62) : T (fun k => steepleref15_Two.f k n) (fun r => r = pw n) := by
  obtain ⟨m, rfl⟩ := Int.eq_ofNat_of_zero_le h0
  exact two_T m (by omega)
theorem shl_pw {n : Int} (h0 : 0 ≤ n) (h1 : n ≤ 6) : shlI .i64 1 n = pw n := by
  obtain ⟨m, rfl⟩ := Int.eq_ofNat_of_zero_le h0
  exact shl_pow (by omega)
theorem pw_rng {n : Int} (h0 : 0 ≤ n) (h1 : n ≤ 6) : 1 ≤ pw n ∧ pw n ≤ 64 := by
  obtain ⟨m, rfl⟩ := Int.eq_ofNat_of_zero_le h0
  have hm : m ≤ 6 := by omega
  have h1 : 2 ^ m ≤ 2 ^ 6 := Nat.pow_le_pow_right (by decide) hm
  have h2 := Nat.two_pow_pos m
  unfold pw
  simp only [Int.toNat_natCast]
  have : (2 : Nat) ^ 6 = 64 := rfl
  omega
/-- Whether words turn so. -/
def fitB (k w s : Int) : Bool := decide (0 ≤ k) && decide (k ≤ 3) && decide (0 ≤ w) && decide (w ≤ 6) && decide (0 ≤ s) && decide (s < pw w) && (k != 0 || s == 0)
theorem tfits_T (k w s : Int) : T (fun f => turn_Fits.f f k w s) (fun b => b = fitB k w s) := by
  refine T.eq (turn_Fits.f_eq · k w s) ?_
  by_cases c : 0 ≤ w ∧ w ≤ 6
  · rw [shl_pw c.1 c.2]
    repeat' (first | refine T.pure ?_ | refine T.no (b := decide (w < 0)) (by simpa using c.1) ?_ | refine T.ite (fun h => ?_) (fun h => ?_))
    all_goals (simp_all [fitB] <;> (intros; omega))
  · refine T.ite (fun h1 => T.ite (fun h2 => T.ite (fun h3 => T.ite (fun h4 => absurd ⟨of_decide_eq_true h3, of_decide_eq_true h4⟩ c) (fun h4 => T.pure ?_)) (fun h3 => T.pure ?_)) (fun h2 => T.pure ?_)) (fun h1 => T.pure ?_)
    all_goals (clear c; simp_all [fitB] <;> (intros; omega))
theorem rfits_T (k w s : Int) : T (fun f => steepleref18_Fits.f f k w s) (fun b => b = fitB k w s) := by
  refine T.eq (steepleref18_Fits.f_eq · k w s) ?_
  by_cases c : 0 ≤ w ∧ w ≤ 6
  · refine T.ite (fun h => T.pure ?_) (fun h1 => T.ite (fun h => T.pure ?_) (fun h2 => T.ite (fun h => T.pure ?_) (fun h3 => T.ite (fun h => T.pure ?_) (fun h4 => T.ite (fun h => T.pure ?_) (fun h5 => T.bind (two_int c.1 (by omega)) fun r hr => T.ite (fun h => T.pure ?_) (fun h6 => T.ite (fun h => T.pure ?_) (fun h7 => T.pure ?_)))))))
    all_goals (simp_all [fitB] <;> (intros; omega))
  · refine T.ite (fun h => T.pure ?_) (fun h1 => T.ite (fun h => T.pure ?_) (fun h2 => T.ite (fun h => T.pure ?_) (fun h3 => T.ite (fun h => T.pure ?_) (fun h4 => absurd ⟨by simpa using h3, by simpa using h4⟩ c))))
    all_goals (clear c; simp_all [fitB] <;> (intros; omega))
def twoB (k : Int) : Bool := k == 1 || k == 2 || k == 7 || k == 8
def shB (k : Int) : Bool := decide (4 ≤ k) && decide (k ≤ 6)
theorem rtwo_T (k : Int) : T (fun f => steepleref25_two.f f k) (fun b => b = twoB k) := by
  refine T.eq (steepleref25_two.f_eq · k) ?_
  repeat' (first | refine T.pure ?_ | refine T.ite (fun h => ?_) (fun h => ?_))
  all_goals simp_all [twoB]
theorem rsh_T (k : Int) : T (fun f => steepleref25_shifts.f f k) (fun b => b = shB k) := by
  refine T.eq (steepleref25_shifts.f_eq · k) ?_
  repeat' (first | refine T.pure ?_ | refine T.ite (fun h => ?_) (fun h => ?_))
  all_goals (simp_all [shB] <;> (intros; omega))
def mkN (k : Int) : Int := if k = 8 then 0 else if k = 7 then 2 else 1
theorem rmakes_T (g : Gt) : T (fun f => steepleref25_Makes.f f g) (fun b => b = mkN g.1) := by
  refine T.eq (steepleref25_Makes.f_eq · g) ?_
  repeat' (first | refine T.pure ?_ | refine T.ite (fun h => ?_) (fun h => ?_))
  all_goals simp_all [mkN]
theorem turned_T (k : Int) : T (fun f => circuit_turned.f f k) (fun r => r = if shB k then k - 3 else 0) := by
  refine T.eq (circuit_turned.f_eq · k) ?_
  repeat' (first | refine T.pure ?_ | refine T.ite (fun h => ?_) (fun h => ?_))
  all_goals (simp_all [shB] <;> (intros; omega))
def inK (k : Int) : Bool := decide (1 ≤ k) && decide (k ≤ 8)
theorem needs_T (k : Int) : T (fun f => circuit_needs.f f k) (fun r => r = (twoB k, inK k && k != 8, shB k || k == 7)) := by
  refine T.eq (circuit_needs.f_eq · k) ?_
  repeat' (first | refine T.pure ?_ | refine T.ite (fun h => ?_) (fun h => ?_))
  all_goals (simp_all [twoB, inK, shB] <;> (intros; omega))
end Go.Proofs.Ytlmcalffemklnaa.H1
namespace Go.Proofs.Ytlmcalffemklnaa.H1
open Go Go.Proofs.Ytlmcalffemklnaa.Rf
/-- What is wrong with a gate behind so many columns, but for its kind and what it leaves out. -/
def gE1 (x : Sy) (g : Gt) (n : Int) : Int :=
  if g.2.2.1 < 0 ∨ n ≤ g.2.2.1 ∨ (twoB g.1 = true ∧ (g.2.2.2.1 < 0 ∨ n ≤ g.2.2.2.1)) then 4
  else if shB g.1 = true ∧ fitB (g.1 - 3) x.1 g.2.2.2.2.1 = false then 1
  else if (g.1 ≠ 8 ∧ g.2.1 ≠ n) ∨ (g.1 = 7 ∧ g.2.2.2.2.1 ≠ n + 1) then 3
  else if pw x.2.2.1 < n + mkN g.1 then 2 else 0
def gBad (g : Gt) : Prop := g.1 < 1 ∨ 8 < g.1 ∨ (twoB g.1 = false ∧ g.2.2.2.1 ≠ 0) ∨ (g.1 = 8 ∧ g.2.1 ≠ 0) ∨ (shB g.1 = false ∧ g.1 ≠ 7 ∧ g.2.2.2.2.1 ≠ 0)
open Classical in
noncomputable def gE (x : Sy) (g : Gt) (n : Int) : Int := if gBad g then 3 else gE1 x g n
/-- What a system must be for its gates to be looked at. -/
structure Sz (x : Sy) : Prop where
  w0 : 0 ≤ x.1
  w1 : x.1 ≤ 5
  r0 : 0 ≤ x.2.1
  r1 : x.2.1 ≤ 4
  c0 : 0 ≤ x.2.2.1
  c1 : x.2.2.1 ≤ 6
theorem mkN_rng (k : Int) : 0 ≤ mkN k ∧ mkN k ≤ 2 := by unfold mkN; split <;> (try split) <;> omega
theorem rl63_T (x : Sy) (g : Gt) (n : Int) (hx : Sz x) (h0 : 0 ≤ n) (h1 : n ≤ 100) : T (fun k => steepleref25_System_Gate.l63 k n x g) (fun r => r = if (g.1 ≠ 8 ∧ g.2.1 ≠ n) ∨ (g.1 = 7 ∧ g.2.2.2.2.1 ≠ n + 1) then 3 else if pw x.2.2.1 < n + mkN g.1 then 2 else 0) := by
  have hm := mkN_rng g.1
  have e1 : w64 (n + 1) = n + 1 := w64_in (by omega) (by omega)
  have e2 : w64 (n + mkN g.1) = n + mkN g.1 := w64_in (by omega) (by omega)
  refine T.eq (steepleref25_System_Gate.l63_eq · _ _ _) ?_
  rw [e1]
  repeat' (first | refine T.pure ?_ | (refine T.bind (rmakes_T _) fun t ht => ?_; subst ht; rw [e2]) | (refine T.bind (two_int hx.c0 (by have := hx.c1; omega)) fun t ht => ?_; subst ht) | refine T.ite (fun h => ?_) (fun h => ?_))
  all_goals (clear e1 e2; simp_all <;> (intros; omega))
theorem rl31_T (x : Sy) (g : Gt) (n : Int) (hx : Sz x) (h0 : 0 ≤ n) (h1 : n ≤ 100) (hk : 1 ≤ g.1 ∧ g.1 ≤ 8) : T (fun k => steepleref25_System_Gate.l31 k n x g) (fun r => r = if shB g.1 = true ∧ fitB (g.1 - 3) x.1 g.2.2.2.2.1 = false then 1 else if (g.1 ≠ 8 ∧ g.2.1 ≠ n) ∨ (g.1 = 7 ∧ g.2.2.2.2.1 ≠ n + 1) then 3 else if pw x.2.2.1 < n + mkN g.1 then 2 else 0) := by
  have e1 : w64 (g.1 - 3) = g.1 - 3 := w64_in (by omega) (by omega)
  refine T.eq (steepleref25_System_Gate.l31_eq · _ _ _) (T.bind (rsh_T _) fun t ht => ?_)
  subst ht
  rw [e1]
  refine T.ite (fun h => T.bind (rfits_T _ _ _) fun b hb => T.ite (fun h2 => T.pure ?_) (fun h2 => (rl63_T x g n hx h0 h1).mono fun r hr => ?_)) (fun h => (rl63_T x g n hx h0 h1).mono fun r hr => ?_)
  · subst hb; rw [if_pos ⟨h, by simpa using h2⟩]
  · subst hb; rw [if_neg (by simp_all)]; exact hr
  · rw [if_neg (by simp_all)]; exact hr
theorem rl15_T (x : Sy) (g : Gt) (n : Int) (hx : Sz x) (h0 : 0 ≤ n) (h1 : n ≤ 100) (hk : 1 ≤ g.1 ∧ g.1 ≤ 8) : T (fun k => steepleref25_System_Gate.l15 k n x g) (fun r => r = gE1 x g n) := by
  refine T.eq (steepleref25_System_Gate.l15_eq · _ _ _) ?_
  have key := rl31_T x g n hx h0 h1 hk
  unfold gE1
  refine T.ite (fun h => T.pure ?_) (fun ha => T.ite (fun h => T.pure ?_) (fun hb => T.bind (rtwo_T _) fun t ht => T.ite (fun hc => T.ite (fun h => T.pure ?_) (fun hd => T.ite (fun h => T.pure ?_) (fun he => key.mono fun r hr => ?_))) (fun hc => key.mono fun r hr => ?_)))
  · rw [if_pos (by simp_all)]
  · rw [if_pos (by simp_all)]
  · rw [if_pos (by simp_all)]
  · rw [if_pos (by simp_all)]
  · rw [if_neg (by simp_all <;> omega)]; exact hr
  · rw [if_neg (by simp_all <;> omega)]; exact hr
theorem rgate_T (x : Sy) (g : Gt) (n : Int) (hx : Sz x) (h0 : 0 ≤ n) (h1 : n ≤ 100) : T (fun k => steepleref25_System_Gate.f k x g n) (fun r => r = gE x g n) := by
  refine T.eq (steepleref25_System_Gate.f_eq · _ _ _) ?_
  have bad : gBad g → (3 : Int) = gE x g n := fun h => by unfold gE; rw [if_pos h]
  refine T.ite (fun h => T.pure (bad (.inl (by simpa using h)))) (fun ha => T.ite (fun h => T.pure (bad (.inr (.inl (by simpa using h))))) (fun hb => ?_))
  have hk : 1 ≤ g.1 ∧ g.1 ≤ 8 := by simp_all
  have key := fun (h : ¬ gBad g) => (rl15_T x g n hx h0 h1 hk).mono (q := fun r => r = gE x g n) fun r hr => by unfold gE; rw [if_neg h]; exact hr
  have hk1 : ¬ g.1 < 1 := by omega
  have hk2 : ¬ 8 < g.1 := by omega
  clear hk
  repeat' (first | refine T.pure (bad ?_) | (refine T.bind (rtwo_T _) fun t ht => ?_; subst ht) | (refine T.bind (rsh_T _) fun t ht => ?_; subst ht) | refine key ?_ | refine T.ite (fun h => ?_) (fun h => ?_))
  all_goals (clear key bad; simp_all [gBad])
/-- The same columns behind a gate, by the program. -/
theorem cl63_T (x : Sy) (g : Gt) (n : Int) (hx : Sz x) (h0 : 0 ≤ n) (h1 : n ≤ 100) : T (fun k => circuit_gate.l63 k n x g) (fun r => r = if pw x.2.2.1 < (if g.1 = 7 then n + 1 else n) then (0, 2) else ((if g.1 = 7 then n + 1 else n), 0)) := by
  have e1 : w64 (n + 1) = n + 1 := w64_in (by omega) (by omega)
  refine T.eq (circuit_gate.l63_eq · _ _ _) ?_
  rw [e1, shl_pw hx.c0 hx.c1]
  have hc : decide (x.2.2.1 < 0) = false := by have := hx.c0; simpa using this
  refine T.ite (fun h => T.no hc (T.ite (fun h2 => T.pure ?_) (fun h2 => T.pure ?_))) (fun h => T.no hc (T.ite (fun h2 => T.pure ?_) (fun h2 => T.pure ?_)))
  all_goals (clear e1; simp_all <;> (intros; omega))
theorem cl121_T (x : Sy) (g : Gt) (n : Int) (b d : Bool) (kind : Int) (fl : Bool) (hx : Sz x) (h0 : 0 ≤ n) (h1 : n ≤ 98) : T (fun k => circuit_gate.l121 k n x g b d kind fl) (fun r => r =
    if fl = true then (0, 3) else if g.2.2.1 < 0 ∨ n ≤ g.2.2.1 ∨ g.2.2.2.1 < 0 ∨ (b = true ∧ n ≤ g.2.2.2.1) then (0, 4) else if kind ≠ 0 ∧ fitB kind x.1 g.2.2.2.2.1 = false then (0, 1)
    else if (d = true ∧ g.2.1 ≠ n) ∨ (g.1 = 7 ∧ g.2.2.2.2.1 ≠ n + 1) then (0, 3) else if pw x.2.2.1 < (if g.1 = 7 then (if d = true then n + 1 else n) + 1 else (if d = true then n + 1 else n)) then (0, 2) else ((if g.1 = 7 then (if d = true then n + 1 else n) + 1 else (if d = true then n + 1 else n)), 0)) := by
  have e1 : w64 (n + 1) = n + 1 := w64_in (by omega) (by omega)
  refine T.eq (circuit_gate.l121_eq · _ _ _ _ _ _ _) ?_
  rw [e1]
  have k0 := cl63_T x g n hx h0 (by omega)
  have k1 := cl63_T x g (n + 1) hx (by omega) (by omega)
  clear e1
  repeat' (first | refine T.pure ?_ | (refine T.bind (tfits_T _ _ _) fun t ht => ?_; subst ht) | refine k0.mono fun r hr => ?_ | refine k1.mono fun r hr => ?_ | refine T.ite (fun h => ?_) (fun h => ?_))
  all_goals (clear k0 k1; try subst hr)
  all_goals (simp_all <;> (try (intros; omega)))
theorem cgate_T (x : Sy) (g : Gt) (n : Int) (hx : Sz x) (h0 : 0 ≤ n) (h1 : n ≤ 98) : T (fun k => circuit_gate.f k x g n) (fun r => r = (if gE x g n = 0 then n + mkN g.1 else 0, gE x g n)) := by
  refine T.eq (circuit_gate.f_eq · _ _ _) (T.bind (needs_T _) fun t ht => T.bind (turned_T _) fun u hu => ?_)
  subst ht; subst hu
  have key : ∀ fl : Bool, (fl = true ↔ gBad g) → T (fun k => circuit_gate.l121 k n x g (twoB g.1) (inK g.1 && g.1 != 8) (if shB g.1 then g.1 - 3 else 0) fl) (fun r => r = (if gE x g n = 0 then n + mkN g.1 else 0, gE x g n)) := fun fl hfl => by
    refine (cl121_T x g n _ _ _ fl hx h0 h1).mono fun r hr => ?_
    rw [hr]
    unfold gE
    by_cases hb : gBad g
    · rw [if_pos (hfl.2 hb), if_pos hb]; rfl
    · rw [if_neg (fun h => hb (hfl.1 h)), if_neg hb]
      have hb' := hb
      unfold gBad at hb
      have hin : inK g.1 = true := by unfold inK; simp; omega
      have htw : g.2.2.2.1 < 0 → twoB g.1 = true := fun h => by
        cases ht : twoB g.1 with
        | true => rfl
        | false => exact absurd (.inr (.inr (.inl ⟨ht, by omega⟩))) hb
      unfold gE1
      have e1 : (g.2.2.1 < 0 ∨ n ≤ g.2.2.1 ∨ g.2.2.2.1 < 0 ∨ (twoB g.1 = true ∧ n ≤ g.2.2.2.1)) ↔ (g.2.2.1 < 0 ∨ n ≤ g.2.2.1 ∨ (twoB g.1 = true ∧ (g.2.2.2.1 < 0 ∨ n ≤ g.2.2.2.1))) := by
        constructor
        · rintro (h | h | h | h)
          · exact .inl h
          · exact .inr (.inl h)
          · exact .inr (.inr ⟨htw h, .inl h⟩)
          · exact .inr (.inr ⟨h.1, .inr h.2⟩)
        · rintro (h | h | ⟨h, k | k⟩)
          · exact .inl h
          · exact .inr (.inl h)
          · exact .inr (.inr (.inl k))
          · exact .inr (.inr (.inr ⟨h, k⟩))
      have e2 : ((if shB g.1 = true then g.1 - 3 else 0) ≠ 0 ∧ fitB (if shB g.1 = true then g.1 - 3 else 0) x.1 g.2.2.2.2.1 = false) ↔ (shB g.1 = true ∧ fitB (g.1 - 3) x.1 g.2.2.2.2.1 = false) := by
        cases hs : shB g.1 with
        | false => simp
        | true =>
          have : 4 ≤ g.1 := by unfold shB at hs; simp at hs; omega
          simp; intro _; omega
      have e3 : ((inK g.1 && g.1 != 8) = true ∧ g.2.1 ≠ n) ↔ (g.1 ≠ 8 ∧ g.2.1 ≠ n) := by rw [hin]; simp
      have e4 : (if g.1 = 7 then (if (inK g.1 && g.1 != 8) = true then n + 1 else n) + 1 else (if (inK g.1 && g.1 != 8) = true then n + 1 else n)) = n + mkN g.1 := by
        rw [hin]; unfold mkN
        by_cases h8 : g.1 = 8
        · simp [h8]
        · by_cases h7 : g.1 = 7
          · simp [h7]; try omega
          · simp [h7, h8]
      rw [e4]
      by_cases c1 : (g.2.2.1 < 0 ∨ n ≤ g.2.2.1 ∨ (twoB g.1 = true ∧ (g.2.2.2.1 < 0 ∨ n ≤ g.2.2.2.1)))
      · rw [if_pos (e1.2 c1), if_pos c1]; rfl
      · rw [if_neg (fun h => c1 (e1.1 h)), if_neg c1]
        by_cases c2 : (shB g.1 = true ∧ fitB (g.1 - 3) x.1 g.2.2.2.2.1 = false)
        · rw [if_pos (e2.2 c2), if_pos c2]; rfl
        · rw [if_neg (fun h => c2 (e2.1 h)), if_neg c2]
          by_cases c3 : (g.1 ≠ 8 ∧ g.2.1 ≠ n) ∨ (g.1 = 7 ∧ g.2.2.2.2.1 ≠ n + 1)
          · rw [if_pos (c3.imp e3.2 id), if_pos c3]; rfl
          · rw [if_neg (fun h => c3 (h.imp e3.1 id)), if_neg c3]
            by_cases c4 : pw x.2.2.1 < n + mkN g.1
            · rw [if_pos c4, if_pos c4]; rfl
            · rw [if_neg c4, if_neg c4]; rfl
  have b1 : (true = true ↔ gBad g) ↔ gBad g := by simp
  repeat' (first | refine key _ ?_ | refine T.ite (fun h => ?_) (fun h => ?_))
  all_goals (clear key b1; simp only [gBad])
  all_goals (simp_all [inK] <;> first | omega | (intros; simp_all; done))
end Go.Proofs.Ytlmcalffemklnaa.H1
namespace Go.Proofs.Ytlmcalffemklnaa.H1
open Go Go.Proofs.Ytlmcalffemklnaa.Rf
abbrev gts (x : Sy) : List Gt := x.2.2.2.2.2.1
def sBad (x : Sy) : Prop := x.1 < 0 ∨ 5 < x.1 ∨ x.2.1 < 0 ∨ 4 < x.2.1 ∨ x.2.2.1 < 0 ∨ 6 < x.2.2.1 ∨ x.2.2.2.1 < 0 ∨ x.2.2.2.2.1 < 0 ∨ pw x.2.2.1 < x.2.2.2.1 + x.2.2.2.2.1
open Classical in
noncomputable def gW (x : Sy) : List Gt → Int → Int × Int
  | [], n => (n, 0)
  | g :: l, n => if gE x g n = 0 then gW x l (n + mkN g.1) else (0, gE x g n)
open Classical in
/-- What is wrong with a system, and how many columns there are. -/
noncomputable def chk (x : Sy) : Int × Int := if sBad x then (0, 1) else if 30 < (gts x).length then (0, 2) else gW x (gts x) (x.2.2.2.1 + x.2.2.2.2.1)
theorem drop_getD {α : Type} (l : List α) (d : α) {i : Nat} (h : i < l.length) : l.drop i = l.getD i d :: l.drop (i + 1) := by
  rw [List.drop_eq_getElem_cons h, List.getD_eq_getElem?_getD, List.getElem?_eq_getElem h]; rfl
theorem gE_zero {x : Sy} {g : Gt} {n : Int} (h : gE x g n = 0) : ¬ gBad g ∧ gE1 x g n = 0 := by
  unfold gE at h
  split at h
  · omega
  · rename_i hb; exact ⟨hb, h⟩
theorem gE1_zero {x : Sy} {g : Gt} {n : Int} (h : gE1 x g n = 0) : ¬ (g.2.2.1 < 0 ∨ n ≤ g.2.2.1 ∨ (twoB g.1 = true ∧ (g.2.2.2.1 < 0 ∨ n ≤ g.2.2.2.1))) ∧ ¬ (shB g.1 = true ∧ fitB (g.1 - 3) x.1 g.2.2.2.2.1 = false) ∧ ¬ ((g.1 ≠ 8 ∧ g.2.1 ≠ n) ∨ (g.1 = 7 ∧ g.2.2.2.2.1 ≠ n + 1)) ∧ ¬ pw x.2.2.1 < n + mkN g.1 := by
  unfold gE1 at h
  split at h
  · omega
  rename_i h1
  split at h
  · omega
  rename_i h2
  split at h
  · omega
  rename_i h3
  split at h
  · omega
  rename_i h4
  exact ⟨h1, h2, h3, h4⟩
theorem step_rng {x : Sy} {g : Gt} {n : Int} (hx : Sz x) (h0 : 0 ≤ n) (h : gE x g n = 0) : 0 ≤ n + mkN g.1 ∧ n + mkN g.1 ≤ 64 := by
  have := (gE1_zero (gE_zero h).2).2.2.2
  have := pw_rng hx.c0 hx.c1
  have := mkN_rng g.1
  omega
theorem sz_of {x : Sy} (h : ¬ sBad x) : Sz x ∧ 0 ≤ x.2.2.2.1 ∧ 0 ≤ x.2.2.2.2.1 ∧ x.2.2.2.1 + x.2.2.2.2.1 ≤ 64 ∧ x.2.2.2.1 + x.2.2.2.2.1 ≤ pw x.2.2.1 := by
  unfold sBad at h
  have hx : Sz x := ⟨by omega, by omega, by omega, by omega, by omega, by omega⟩
  have := pw_rng hx.c0 hx.c1
  refine ⟨hx, by omega, by omega, by omega, by omega⟩
theorem rcheck_T (x : Sy) (hl : (gts x).length ≤ 1000) : T (fun k => steepleref25_Check.f k x) (fun r => r = (chk x).2) := by
  refine T.eq (steepleref25_Check.f_eq · x) ?_
  have bad : sBad x → (1 : Int) = (chk x).2 := fun h => by unfold chk; rw [if_pos h]
  refine T.ite (fun h => T.pure (bad (.inl (by simpa using h)))) (fun a1 => T.ite (fun h => T.pure (bad (.inr (.inl (by simpa using h))))) (fun a2 => T.ite (fun h => T.pure (bad (.inr (.inr (.inl (by simpa using h)))))) (fun a3 => T.ite (fun h => T.pure (bad (.inr (.inr (.inr (.inl (by simpa using h))))))) (fun a4 =>
    T.ite (fun h => T.pure (bad (.inr (.inr (.inr (.inr (.inl (by simpa using h)))))))) (fun a5 => T.ite (fun h => T.pure (bad (.inr (.inr (.inr (.inr (.inr (.inl (by simpa using h))))))))) (fun a6 => T.ite (fun h => T.pure (bad (.inr (.inr (.inr (.inr (.inr (.inr (.inl (by simpa using h)))))))))) (fun a7 => T.ite (fun h => T.pure (bad (.inr (.inr (.inr (.inr (.inr (.inr (.inr (.inl (by simpa using h))))))))))) (fun a8 => ?_))))))))
  simp only [decide_eq_false_iff_not] at a1 a2 a3 a4 a5 a6 a7 a8
  have hp := pw_rng (n := x.2.2.1) (by omega) (by omega)
  refine T.ite (fun h => T.pure (bad ?_)) (fun a9 => T.ite (fun h => T.pure (bad ?_)) (fun a10 => T.bind (two_int (n := x.2.2.1) (by omega) (by omega)) fun t ht => ?_))
  · simp only [decide_eq_true_eq] at h; unfold sBad; omega
  · simp only [decide_eq_true_eq] at h; unfold sBad; omega
  subst ht
  simp only [decide_eq_false_iff_not] at a9 a10
  rw [w64_in (n := x.2.2.2.1 + x.2.2.2.2.1) (by omega) (by omega)]
  refine T.ite (fun h => T.pure (bad ?_)) (fun a11 => ?_)
  · simp only [decide_eq_true_eq] at h; unfold sBad; omega
  simp only [decide_eq_false_iff_not] at a11
  have hnb : ¬ sBad x := by unfold sBad; omega
  have hx := (sz_of hnb).1
  refine T.ite (fun h => T.pure ?_) (fun a12 => ?_)
  · simp only [decide_eq_true_eq] at h; unfold chk; rw [if_neg hnb, if_pos (by show 30 < x.2.2.2.2.2.1.length; omega)]
  simp only [decide_eq_false_iff_not] at a12
  have hc : chk x = gW x (gts x) (x.2.2.2.1 + x.2.2.2.2.1) := by unfold chk; rw [if_neg hnb, if_neg (by show ¬ 30 < x.2.2.2.2.2.1.length; omega)]
  rw [hc]
  refine T.loop0 (σ := Int) (f := fun k s i => steepleref25_Check.l506 k x s i) (gts x).length (fun s i => (0 ≤ s ∧ s ≤ 64) ∧ gW x (gts x) (x.2.2.2.1 + x.2.2.2.2.1) = gW x ((gts x).drop i) s) _ ⟨⟨by omega, by omega⟩, rfl⟩ fun s i hi hI ih => ?_
  obtain ⟨hs, hI⟩ := hI
  refine T.eq (steepleref25_Check.l506_eq · x s i) (T.ite (fun h => ?_) (fun h => ?_))
  · have hlt := lt_dec h
    refine T.yes (inB_nat hlt) (T.bind (rgate_T x ((gts x).getD i g0) s hx hs.1 (by omega)) fun t ht => ?_)
    have hd := drop_getD (gts x) g0 hlt
    rw [hd] at hI
    refine T.ite (fun hne => T.pure ?_) (fun he => T.yes (inB_nat hlt) (T.bind (rmakes_T ((gts x).getD i g0)) fun m hm => ?_))
    · have : gE x ((gts x).getD i g0) s ≠ 0 := by rw [← ht]; simpa using hne
      rw [hI]; show t = _; simp only [gW]; rw [if_neg this]; exact ht
    · have h0 : gE x ((gts x).getD i g0) s = 0 := by rw [← ht]; simpa using he
      subst hm
      have hr := step_rng hx hs.1 h0
      have e : w64 (s + mkN ((gts x).getD i g0).1) = s + mkN ((gts x).getD i g0).1 := w64_in (by omega) (by omega)
      have := ih (s + mkN ((gts x).getD i g0).1) hlt ⟨hr, by rw [hI]; simp only [gW]; rw [if_pos h0]⟩
      rw [inc (by omega)]
      rw [e]
      exact this
  · have := nlt_dec h
    exact T.pure (by rw [hI, List.drop_eq_nil_of_le (by omega)]; rfl)
theorem look_T (x : Sy) (hl : (gts x).length ≤ 1000) : T (fun k => circuit_look.f k x) (fun r => r = chk x) := by
  refine T.eq (circuit_look.f_eq · x) ?_
  have bad : sBad x → ((0, 1) : Int × Int) = chk x := fun h => by unfold chk; rw [if_pos h]
  refine T.ite (fun h => T.pure (bad (.inl (by simpa using h)))) (fun a1 => T.ite (fun h => T.pure (bad (.inr (.inl (by simpa using h))))) (fun a2 => T.ite (fun h => T.pure (bad (.inr (.inr (.inl (by simpa using h)))))) (fun a3 => T.ite (fun h => T.pure (bad (.inr (.inr (.inr (.inl (by simpa using h))))))) (fun a4 =>
    T.ite (fun h => T.pure (bad (.inr (.inr (.inr (.inr (.inl (by simpa using h)))))))) (fun a5 => T.ite (fun h => T.pure (bad (.inr (.inr (.inr (.inr (.inr (.inl (by simpa using h))))))))) (fun a6 => T.ite (fun h => T.pure (bad (.inr (.inr (.inr (.inr (.inr (.inr (.inl (by simpa using h)))))))))) (fun a7 => T.ite (fun h => T.pure (bad (.inr (.inr (.inr (.inr (.inr (.inr (.inr (.inl (by simpa using h))))))))))) (fun a8 => ?_))))))))
  simp only [decide_eq_false_iff_not] at a1 a2 a3 a4 a5 a6 a7 a8
  have hp := pw_rng (n := x.2.2.1) (by omega) (by omega)
  have hc0 : decide (x.2.2.1 < 0) = false := by simpa using a5
  rw [shl_pw (n := x.2.2.1) (by omega) (by omega)]
  refine T.no hc0 (T.ite (fun h => T.pure (bad ?_)) (fun a9 => T.no hc0 ?_))
  · simp only [decide_eq_true_eq] at h; unfold sBad; omega
  simp only [decide_eq_false_iff_not] at a9
  rw [w64_in (n := pw x.2.2.1 - x.2.2.2.1) (by omega) (by omega)]
  refine T.ite (fun h => T.pure (bad ?_)) (fun a10 => ?_)
  · simp only [decide_eq_true_eq] at h; unfold sBad; omega
  simp only [decide_eq_false_iff_not] at a10
  have hnb : ¬ sBad x := by unfold sBad; omega
  have hx := (sz_of hnb).1
  refine T.ite (fun h => T.pure ?_) (fun a12 => ?_)
  · simp only [decide_eq_true_eq] at h; unfold chk; rw [if_neg hnb, if_pos (by show 30 < x.2.2.2.2.2.1.length; omega)]
  simp only [decide_eq_false_iff_not] at a12
  have hc : chk x = gW x (gts x) (x.2.2.2.1 + x.2.2.2.2.1) := by unfold chk; rw [if_neg hnb, if_neg (by show ¬ 30 < x.2.2.2.2.2.1.length; omega)]
  rw [hc, w64_in (n := x.2.2.2.1 + x.2.2.2.2.1) (by omega) (by omega)]
  refine T.loop0 (σ := Int) (f := fun k s i => circuit_look.l122 k x s (gts x) ((gts x).length : Int) i) (gts x).length (fun s i => (0 ≤ s ∧ s ≤ 64) ∧ gW x (gts x) (x.2.2.2.1 + x.2.2.2.2.1) = gW x ((gts x).drop i) s) _ ⟨⟨by omega, by omega⟩, rfl⟩ fun s i hi hI ih => ?_
  obtain ⟨hs, hI⟩ := hI
  refine T.eq (circuit_look.l122_eq · x s _ _ i) (T.ite (fun h => ?_) (fun h => ?_))
  · have hlt := lt_dec h
    refine T.yes (inB_nat hlt) (T.bind (cgate_T x ((gts x).getD i g0) s hx hs.1 (by omega)) fun t ht => ?_)
    have hd := drop_getD (gts x) g0 hlt
    rw [hd] at hI
    have et : t.2 = gE x ((gts x).getD i g0) s := by rw [ht]
    refine T.ite (fun hne => T.pure ?_) (fun he => ?_)
    · have : gE x ((gts x).getD i g0) s ≠ 0 := by rw [← et]; simpa using hne
      rw [hI]; simp only [gW]; rw [if_neg this]; exact congrArg (Prod.mk 0) et
    · have h0 : gE x ((gts x).getD i g0) s = 0 := by rw [← et]; simpa using he
      have hr := step_rng hx hs.1 h0
      have e1 : t.1 = s + mkN ((gts x).getD i g0).1 := by
        rw [ht]
        show (if gE x ((gts x).getD i g0) s = 0 then s + mkN ((gts x).getD i g0).1 else 0) = _
        rw [if_pos h0]
      have := ih (s + mkN ((gts x).getD i g0).1) hlt ⟨hr, by rw [hI]; simp only [gW]; rw [if_pos h0]⟩
      rw [inc (by omega), e1]
      exact this
  · have := nlt_dec h
    exact T.pure (by rw [hI, List.drop_eq_nil_of_le (by omega)]; rfl)
theorem ccheck_T (x : Sy) (hl : (gts x).length ≤ 1000) : T (fun k => circuit_Check.f k x) (fun r => r = (chk x).2) :=
  T.eq (circuit_Check.f_eq · x) (T.bind (look_T x hl) fun t ht => T.pure (by rw [ht]))
theorem ref_T (x : Sy) (hl : (gts x).length ≤ 1000) : T (fun k => steeplelaw25_Ref.f k x) (fun r => r = x) := by
  refine T.eq (steeplelaw25_Ref.f_eq · x) ?_
  refine T.loop0 (σ := Sy) (f := fun k s i => steeplelaw25_Ref.l58 k x (0, 0, 0, 0, 0, (), ()) s i) (gts x).length (fun s i => s = (x.1, x.2.1, x.2.2.1, x.2.2.2.1, x.2.2.2.2.1, (gts x).take i, ())) _ rfl fun s i hi hI ih => ?_
  refine T.eq (steeplelaw25_Ref.l58_eq · x _ s i) (T.ite (fun h => ?_) (fun h => ?_))
  · have hlt := lt_dec h
    subst hI
    refine T.yes (inB_nat hlt) (T.yes (room_ok (by simp only [List.length_take, List.length_cons, List.length_nil]; omega)) ?_)
    rw [inc (by omega)]
    refine ih _ hlt ?_
    rw [take_snoc _ g0 hlt]; rfl
  · have := nlt_dec h
    exact T.pure (by rw [hI, List.take_of_length_le (by omega)])
/-- No more than statements go through. -/
theorem few_T (x : Sy) : T (fun k => steeplelaw27_Few.f k x) (fun b => b = true → (gts x).length ≤ 40 ∧ ((chk x).2 = 0 → (gts x).length ≤ 12 ∧ x.2.1 ≤ 2 ∧ x.2.2.1 ≤ 5)) := by
  refine T.eq (steeplelaw27_Few.f_eq · x) (T.ite (fun h1 => T.ite (fun h2 => T.pure fun h => ?_) (fun h2 => T.pure fun h => by cases h)) (fun h1 => ?_))
  · simp only [decide_eq_true_eq] at h1 h2 h
    refine ⟨by show x.2.2.2.2.2.1.length ≤ 40; omega, fun hc => ?_⟩
    unfold chk at hc
    split at hc
    · cases hc
    · rw [if_pos (by show 30 < x.2.2.2.2.2.1.length; omega)] at hc; cases hc
  · simp only [decide_eq_false_iff_not] at h1
    have hl : (gts x).length ≤ 12 := by show x.2.2.2.2.2.1.length ≤ 12; omega
    refine T.bind (ref_T x (by omega)) fun y hy => ?_
    subst hy
    refine T.bind (rcheck_T y (by omega)) fun e he => T.ite (fun h => T.pure fun _ => ⟨by omega, fun hc => ?_⟩) (fun h => T.ite (fun h2 => T.pure fun h3 => ⟨by omega, fun _ => ⟨hl, by simpa using h2, by simpa using h3⟩⟩) (fun h2 => T.pure fun h3 => by cases h3))
    rw [he, hc] at h; cases h
end Go.Proofs.Ytlmcalffemklnaa.H1
namespace Go.Proofs.Ytlmcalffemklnaa.H1
open Go Go.Proofs.Ytlmcalffemklnaa.Rf
/-- A wire that is a column turned. -/
def okW (x : Sy) (w : O) : Prop := 0 ≤ w.1 ∧ w.1 < pw x.2.2.1 ∧ fitB w.2.1 x.1 w.2.2.1 = true
structure BOk (x : Sy) (ws : List O) (cs : List (List O)) (l : List O) (m : Nat) : Prop where
  ok : ∀ y ∈ ws, okW x y
  w : ws.length ≤ m
  c : cs.length ≤ m
  l : l.length ≤ m
theorem index_T (l : List O) (w : O) (hl : l.length ≤ 100000) : T (fun k => slices_Index_Claim.f k l w) (fun r => (∃ i : Nat, r = (i : Int) ∧ i < l.length ∧ l.getD i zo = w) ∨ (r = -1 ∧ w ∉ l)) := by
  refine T.eq (slices_Index_Claim.f_eq · l w) ?_
  refine T.loop0 (σ := Unit) (f := fun k _ i => slices_Index_Claim.l26 k l w (l.length : Int) i) l.length (fun _ i => ∀ j, j < i → l.getD j zo ≠ w) () (fun j h => absurd h (by omega)) fun s i hi hI ih => ?_
  refine T.eq (slices_Index_Claim.l26_eq · l w _ _) (T.ite (fun h => ?_) (fun h => ?_))
  · have hlt := lt_dec h
    refine T.yes (inB_nat hlt) (T.ite (fun he => T.pure (.inl ⟨i, rfl, hlt, ?_⟩)) (fun he => ?_))
    · simp only [Int.toNat_natCast, Bool.and_eq_true, beq_iff_eq] at he
      obtain ⟨a, b, c, d, e⟩ := he
      exact Prod.ext a.symm (Prod.ext b.symm (Prod.ext c.symm (Prod.ext (Prod.ext d.symm (Prod.ext e.symm rfl)) rfl)))
    · rw [inc (by omega)]
      refine ih () hlt fun j hj => ?_
      by_cases hji : j = i
      · subst hji
        intro e
        rw [Int.toNat_natCast] at he
        have e' : l.getD j (0, 0, 0, (0, 0, ()), ()) = w := e
        rw [e'] at he
        simp at he
      · exact hI j (by omega)
  · have := nlt_dec h
    refine T.pure (.inr ⟨rfl, fun hm => ?_⟩)
    obtain ⟨j, hj, e⟩ := List.getElem_of_mem hm
    exact hI j (by omega) (by rw [List.getD_eq_getElem?_getD, List.getElem?_eq_getElem hj]; exact e)
abbrev Bd := List O × List (List O) × List O × Unit
theorem bwire_T {x : Sy} {b : Bd} {m : Nat} (h : BOk x b.1 b.2.1 b.2.2.1 m) (hm : m ≤ 100000) (w : O) (hw : okW x w) : T (fun k => circuit_board_wire_v703.f k b w) (fun r => BOk x r.2.1 r.2.2.1 r.2.2.2.1 (m + 1)) := by
  have := h.w
  have hlen : (b.1 ++ [w]).length = b.1.length + 1 := by simp
  refine T.eq (circuit_board_wire_v703.f_eq · b w) (T.bind (index_T b.1 w (by omega)) fun t ht => T.ite (fun _ => T.pure ⟨h.ok, by have := h.w; show b.1.length ≤ _; omega, by have := h.c; show b.2.1.length ≤ _; omega, by have := h.l; show b.2.2.1.length ≤ _; omega⟩) (fun _ => T.yes (room_ok (by simp only [List.length_cons, List.length_nil]; omega)) (T.pure ⟨fun y hy => ?_, ?_, ?_, ?_⟩)))
  · rcases List.mem_append.1 hy with k | k
    · exact h.ok y k
    · rw [List.mem_singleton.1 k]; exact hw
  · show (b.1 ++ [w]).length ≤ _; omega
  · have := h.c; show b.2.1.length ≤ _; omega
  · have := h.l; show b.2.2.1.length ≤ _; omega
theorem bput_T {x : Sy} {b : Bd} {m : Nat} (h : BOk x b.1 b.2.1 b.2.2.1 m) (hm : m ≤ 100000) (o : O) : T (fun k => circuit_board_put_v703.f k b o) (fun r => BOk x r.2.1 r.2.2.1 r.2.2.2.1 (m + 1)) := by
  have h1 := h.w; have h2 := h.c; have h3 := h.l
  refine T.eq (circuit_board_put_v703.f_eq · b o) (T.yes (room_ok (by simp only [List.length_cons, List.length_nil]; omega)) (T.pure ⟨h.ok, by show b.1.length ≤ _; omega, by show b.2.1.length ≤ _; omega, ?_⟩))
  show (b.2.2.1 ++ [o]).length ≤ _
  rw [List.length_append]; simp only [List.length_cons, List.length_nil]; omega
theorem bv_T {x : Sy} {b : Bd} {m : Nat} (h : BOk x b.1 b.2.1 b.2.2.1 m) (hm : m ≤ 100000) (i : Int) : T (fun k => circuit_board_v_vaac.f k b i) (fun r => BOk x r.2.1 r.2.2.1 r.2.2.2.1 (m + 1)) :=
  T.eq (circuit_board_v_vaac.f_eq · b i) (T.bind (bput_T h hm _) fun t ht => T.pure ht)
theorem bsum_T {x : Sy} {b : Bd} {m : Nat} (h : BOk x b.1 b.2.1 b.2.2.1 m) (hm : m ≤ 100000) (i j : Int) : T (fun k => circuit_board_sum_v224.f k b i j) (fun r => BOk x r.2.1 r.2.2.1 r.2.2.2.1 (m + 1)) :=
  T.eq (circuit_board_sum_v224.f_eq · b i j) (T.bind (bput_T h hm _) fun t ht => T.pure ht)
theorem bprod_T {x : Sy} {b : Bd} {m : Nat} (h : BOk x b.1 b.2.1 b.2.2.1 m) (hm : m ≤ 100000) (i j : Int) : T (fun k => circuit_board_prod_v224.f k b i j) (fun r => BOk x r.2.1 r.2.2.1 r.2.2.2.1 (m + 1)) :=
  T.eq (circuit_board_prod_v224.f_eq · b i j) (T.bind (bput_T h hm _) fun t ht => T.pure ht)
theorem bdone_T {x : Sy} {b : Bd} {m : Nat} (h : BOk x b.1 b.2.1 b.2.2.1 m) (hm : m ≤ 100000) : T (fun k => circuit_board_done_v6c7.f k b) (fun r => BOk x r.1 r.2.1 [] (m + 1)) := by
  have h1 := h.w; have h2 := h.c; have h3 := h.l
  refine T.eq (circuit_board_done_v6c7.f_eq · b) (T.yes (room_ok (by simp only [List.length_cons, List.length_nil]; omega)) (T.pure ⟨h.ok, by show b.1.length ≤ _; omega, ?_, Nat.zero_le _⟩))
  show (b.2.1 ++ [b.2.2.1]).length ≤ _
  rw [List.length_append]; simp only [List.length_cons, List.length_nil]; omega
theorem okW0 {x : Sy} {c : Int} (hx : Sz x) (h0 : 0 ≤ c) (h1 : c < pw x.2.2.1) : okW x (c, 0, 0, (0, 0, ()), ()) := by
  refine ⟨h0, h1, ?_⟩
  have := hx.w0; have := hx.w1; have := pw_rng (n := x.1) (by omega) (by omega)
  unfold fitB; simp; omega
theorem badd_T {x : Sy} {b : Bd} {m : Nat} {g : Gt} (hx : Sz x) (h : BOk x b.1 b.2.1 b.2.2.1 m) (hm : m ≤ 6000) (d i : Int) (hb : 0 ≤ g.2.2.2.1 ∧ g.2.2.2.1 < pw x.2.2.1) (hs : 0 ≤ g.2.2.2.2.1 ∧ g.2.2.2.2.1 < pw x.2.2.1) :
    T (fun k => circuit_board_add_v65b.f k b x g d i) (fun r => BOk x r.1 r.2.1 r.2.2.1 (m + 30)) := by
  refine T.eq (circuit_board_add_v65b.f_eq · b x g d i) (T.bind (bwire_T h (by omega) _ (okW0 hx hb.1 hb.2)) fun t1 h1 => T.bind (bwire_T h1 (by omega) _ (okW0 hx hs.1 hs.2)) fun t2 h2 => T.ite (fun _ => ?_) (fun hw => ?_))
  · refine T.bind (bv_T h2 (by omega) _) fun _ h => T.bind (bv_T h (by omega) _) fun _ h => T.bind (bsum_T h (by omega) _ _) fun _ h => T.bind (bv_T h (by omega) _) fun _ h => T.bind (bsum_T h (by omega) _ _) fun _ h => T.bind (bdone_T h (by omega)) fun t h => ?_
    refine T.bind (bv_T (b := (t.1, t.2.1, [], t.2.2.2)) h (by omega) _) fun _ h => T.bind (bv_T h (by omega) _) fun _ h => T.bind (bv_T h (by omega) _) fun _ h => T.bind (bprod_T h (by omega) _ _) fun _ h => T.bind (bsum_T h (by omega) _ _) fun _ h => T.pure ⟨h.ok, by have := h.w; omega, by have := h.c; omega, by have := h.l; omega⟩
  · have hk : okW x (g.2.2.2.2.1, 1, 1, (0, 0, ()), ()) := by
      refine ⟨hs.1, hs.2, ?_⟩
      have h0 := hx.w0; have h1 := hx.w1
      have hne : x.1 ≠ 0 := by simpa using hw
      have : 2 ≤ pw x.1 := by
        unfold pw
        have : 2 ^ 1 ≤ 2 ^ x.1.toNat := Nat.pow_le_pow_right (by decide) (by omega)
        omega
      unfold fitB; simp; omega
    refine T.bind (bwire_T h2 (by omega) _ hk) fun _ h => T.bind (bv_T h (by omega) _) fun _ h => T.bind (bv_T h (by omega) _) fun _ h => T.bind (bsum_T h (by omega) _ _) fun _ h => T.bind (bv_T h (by omega) _) fun _ h => T.bind (bsum_T h (by omega) _ _) fun _ h => T.bind (bv_T h (by omega) _) fun _ h => T.bind (bsum_T h (by omega) _ _) fun _ h => T.bind (bdone_T h (by omega)) fun t h => ?_
    refine T.bind (bv_T (b := (t.1, t.2.1, [], t.2.2.2)) h (by omega) _) fun _ h => T.bind (bv_T h (by omega) _) fun _ h => T.bind (bv_T h (by omega) _) fun _ h => T.bind (bprod_T h (by omega) _ _) fun _ h => T.bind (bsum_T h (by omega) _ _) fun _ h => T.bind (bv_T h (by omega) _) fun _ h => T.bind (bv_T h (by omega) _) fun _ h => T.bind (bv_T h (by omega) _) fun _ h => T.bind (bsum_T h (by omega) _ _) fun _ h => T.bind (bprod_T h (by omega) _ _) fun _ h => T.bind (bsum_T h (by omega) _ _) fun _ h => T.pure ⟨h.ok, by have := h.w; omega, by have := h.c; omega, by have := h.l; omega⟩
/-- What a gate that may be says of its columns. -/
theorem gate_cols {x : Sy} {g : Gt} {n : Int} (hx : Sz x) (h0 : 0 ≤ n) (h : gE x g n = 0) : (0 ≤ g.2.2.1 ∧ g.2.2.1 < pw x.2.2.1) ∧ (twoB g.1 = true → 0 ≤ g.2.2.2.1 ∧ g.2.2.2.1 < pw x.2.2.1) ∧ (g.1 ≠ 8 → 0 ≤ g.2.1 ∧ g.2.1 < pw x.2.2.1) ∧ (g.1 = 7 → 0 ≤ g.2.2.2.2.1 ∧ g.2.2.2.2.1 < pw x.2.2.1) ∧ (shB g.1 = true → fitB (g.1 - 3) x.1 g.2.2.2.2.1 = true) ∧ 1 ≤ g.1 ∧ g.1 ≤ 8 := by
  obtain ⟨hb, h1⟩ := gE_zero h
  obtain ⟨k1, k2, k3, k4⟩ := gE1_zero h1
  have hm := mkN_rng g.1
  unfold gBad at hb
  have m7 : g.1 = 7 → mkN g.1 = 2 := fun e => by unfold mkN; rw [if_neg (by omega), if_pos e]
  have m8 : g.1 ≠ 8 → 1 ≤ mkN g.1 := fun e => by unfold mkN; rw [if_neg e]; split <;> omega
  refine ⟨by omega, fun e => ?_, fun e => ?_, fun e => ?_, fun e => ?_, by omega⟩
  · have : ¬ (g.2.2.2.1 < 0 ∨ n ≤ g.2.2.2.1) := fun k => k1 (.inr (.inr ⟨e, k⟩))
    omega
  · have := m8 e; omega
  · have := m7 e; omega
  · cases hf : fitB (g.1 - 3) x.1 g.2.2.2.2.1 with
    | true => rfl
    | false => exact absurd ⟨e, hf⟩ k2
theorem bgate_T {x : Sy} {b : Bd} {m : Nat} {g : Gt} {n : Int} (hx : Sz x) (h : BOk x b.1 b.2.1 b.2.2.1 m) (hm : m ≤ 5000) (h0 : 0 ≤ n) (hg : gE x g n = 0) :
    T (fun k => circuit_board_gate_ve6a.f k b x g) (fun r => BOk x r.1 r.2.1 [] (m + 40)) := by
  obtain ⟨hA, hB, hD, hS, hF, hk⟩ := gate_cols hx h0 hg
  have fin : ∀ {ws : List O} {cs : List (List O)} {q : Nat}, BOk x ws cs [] q → q ≤ m + 40 → BOk x ws cs [] (m + 40) := fun h hq => ⟨h.ok, by have := h.w; omega, by have := h.c; omega, Nat.zero_le _⟩
  refine T.eq (circuit_board_gate_ve6a.f_eq · b x g) (T.ite (fun e8 => ?_) (fun e8 => ?_))
  · have e8 : g.1 = 8 := by simpa using e8
    have hb := hB (by unfold twoB; simp [e8])
    refine T.bind (bwire_T h (by omega) _ (okW0 hx hA.1 hA.2)) fun _ h => T.bind (bwire_T h (by omega) _ (okW0 hx hb.1 hb.2)) fun _ h => T.bind (bv_T h (by omega) _) fun _ h => T.bind (bv_T h (by omega) _) fun _ h => T.bind (bsum_T h (by omega) _ _) fun _ h => T.bind (bdone_T h (by omega)) fun t h => T.pure (fin h (by omega))
  have e8 : g.1 ≠ 8 := by simpa using e8
  have hd := hD e8
  refine T.bind (bwire_T h (by omega) _ (okW0 hx hd.1 hd.2)) fun t1 h1 => T.bind (turned_T _) fun tk htk => T.ite (fun ek => ?_) (fun ek => ?_)
  · have hs : shB g.1 = true := by
      cases hs : shB g.1 with
      | true => rfl
      | false => rw [htk, hs] at ek; simp at ek
    have hw : okW x (g.2.2.1, tk, g.2.2.2.2.1, (0, 0, ()), ()) := ⟨hA.1, hA.2, by rw [htk, hs, if_pos rfl]; exact hF hs⟩
    refine T.bind (bwire_T h1 (by omega) _ hw) fun _ h => T.bind (bv_T h (by omega) _) fun _ h => T.bind (bv_T h (by omega) _) fun _ h => T.bind (bsum_T h (by omega) _ _) fun _ h => T.bind (bdone_T h (by omega)) fun t h => T.pure (fin h (by omega))
  refine T.bind (bwire_T h1 (by omega) _ (okW0 hx hA.1 hA.2)) fun t2 h2 => T.ite (fun e3 => ?_) (fun e3 => T.ite (fun e1 => ?_) (fun e1 => T.ite (fun e2 => ?_) (fun e2 => T.ite (fun e7 => ?_) (fun e7 => ?_))))
  · refine T.bind (bv_T h2 (by omega) _) fun _ h => T.bind (bv_T h (by omega) _) fun _ h => T.bind (bsum_T h (by omega) _ _) fun _ h => T.bind (bput_T h (by omega) _) fun _ h => T.bind (bsum_T h (by omega) _ _) fun _ h => T.bind (bdone_T h (by omega)) fun t h => T.pure (fin h (by omega))
  · have hb := hB (by unfold twoB; have : g.1 = 1 := by simpa using e1
                      simp [this])
    refine T.bind (bwire_T h2 (by omega) _ (okW0 hx hb.1 hb.2)) fun _ h => T.bind (bv_T h (by omega) _) fun _ h => T.bind (bv_T h (by omega) _) fun _ h => T.bind (bsum_T h (by omega) _ _) fun _ h => T.bind (bv_T h (by omega) _) fun _ h => T.bind (bsum_T h (by omega) _ _) fun _ h => T.bind (bdone_T h (by omega)) fun t h => T.pure (fin h (by omega))
  · have hb := hB (by unfold twoB; have : g.1 = 2 := by simpa using e2
                      simp [this])
    refine T.bind (bwire_T h2 (by omega) _ (okW0 hx hb.1 hb.2)) fun _ h => T.bind (bv_T h (by omega) _) fun _ h => T.bind (bv_T h (by omega) _) fun _ h => T.bind (bv_T h (by omega) _) fun _ h => T.bind (bprod_T h (by omega) _ _) fun _ h => T.bind (bsum_T h (by omega) _ _) fun _ h => T.bind (bdone_T h (by omega)) fun t h => T.pure (fin h (by omega))
  · have e7 : g.1 = 7 := by simpa using e7
    have hb := hB (by unfold twoB; simp [e7])
    have hs := hS e7
    refine T.bind (badd_T hx h2 (by omega) _ _ hb hs) fun _ h => T.bind (bdone_T h (by omega)) fun t h => T.pure (fin h (by omega))
  · exact T.bind (bdone_T h2 (by omega)) fun t h => T.pure (fin h (by omega))
/-- The gates of a system that may be. -/
def Gok (x : Sy) : List Gt → Int → Prop
  | [], n => 0 ≤ n
  | g :: l, n => 0 ≤ n ∧ gE x g n = 0 ∧ Gok x l (n + mkN g.1)
theorem gok_of {x : Sy} (hx : Sz x) : ∀ (l : List Gt) (n : Int), 0 ≤ n → (gW x l n).2 = 0 → Gok x l n
  | [], n, h0, h => h0
  | g :: l, n, h0, h => by
    simp only [gW] at h
    split at h
    · rename_i hg
      have := mkN_rng g.1
      exact ⟨h0, hg, gok_of hx l _ (by omega) h⟩
    · rename_i hg; exact absurd h hg
theorem chk_ok {x : Sy} (h : (chk x).2 = 0) : Sz x ∧ Gok x (gts x) (x.2.2.2.1 + x.2.2.2.2.1) ∧ (gts x).length ≤ 30 ∧ 0 ≤ x.2.2.2.1 ∧ 0 ≤ x.2.2.2.2.1 ∧ x.2.2.2.1 + x.2.2.2.2.1 ≤ pw x.2.2.1 := by
  unfold chk at h
  split at h
  · cases h
  · rename_i hb
    obtain ⟨hx, h1, h2, h3, h4⟩ := sz_of hb
    split at h
    · cases h
    · exact ⟨hx, gok_of hx _ _ (by omega) h, by omega, h1, h2, h4⟩
theorem lay_T (x : Sy) (hl : (gts x).length ≤ 1000) : T (fun k => circuit_lay.f k x) (fun r => ((chk x).2 ≠ 0 → r = (([], [], [], ()), (chk x).2)) ∧ ((chk x).2 = 0 → (∀ y ∈ r.1.1, okW x y) ∧ r.1.1.length ≤ 2000 ∧ (r.2 = 0 ∨ r.2 = 2) ∧ (r.2 ≠ 0 → r.1.1 = []))) := by
  refine T.eq (circuit_lay.f_eq · x) (T.bind (ccheck_T x hl) fun e he => T.ite (fun h => T.pure ⟨fun _ => by rw [he], fun h0 => ?_⟩) (fun h => ?_))
  · rw [he, h0] at h; cases h
  have h0 : (chk x).2 = 0 := by rw [← he]; simpa using h
  obtain ⟨hx, hg, hl2, _⟩ := chk_ok h0
  refine T.loop0 (σ := List O × List (List O) × Unit × Unit) (f := fun k s i => circuit_lay.l122 k x ((), (), (), ()) s (gts x) ((gts x).length : Int) i) (gts x).length (fun s i => BOk x s.1 s.2.1 [] (40 * i) ∧ ∃ n, Gok x ((gts x).drop i) n) _ ⟨⟨fun y hy => (by cases hy), Nat.zero_le _, Nat.zero_le _, Nat.zero_le _⟩, _, hg⟩ fun s i hi hI ih => ?_
  obtain ⟨hI, n, hn⟩ := hI
  refine T.eq (circuit_lay.l122_eq · x _ s _ _ i) (T.ite (fun h => ?_) (fun h => ?_))
  · have hlt := lt_dec h
    rw [drop_getD (gts x) g0 hlt] at hn
    refine T.yes (inB_nat hlt) (T.bind (bgate_T (b := (s.1, s.2.1, [], s.2.2.2)) (g := (gts x).getD i g0) hx hI (by omega) hn.1 hn.2.1) fun t ht => ?_)
    rw [inc (by omega)]
    exact ih t hlt ⟨by rw [show 40 * (i + 1) = 40 * i + 40 by omega]; exact ht, _, hn.2.2⟩
  · have := nlt_dec h
    refine T.ite (fun _ => T.pure ⟨fun k => absurd h0 k, fun _ => ⟨fun y hy => (by cases hy), Nat.zero_le _, .inr rfl, fun _ => rfl⟩⟩) (fun _ => T.pure ⟨fun k => absurd h0 k, fun _ => ⟨hI.ok, by have := hI.w; show s.1.length ≤ 2000; omega, .inl rfl, fun k => absurd rfl k⟩⟩)
theorem wires_T (x : Sy) (hl : (gts x).length ≤ 1000) : T (fun k => circuit_Wires.f k x) (fun r => (chk x).2 = 0 → (∀ y ∈ r.1, okW x y) ∧ r.1.length ≤ 2000 ∧ (r.2 = 0 ∨ r.2 = 2) ∧ (r.2 ≠ 0 → r.1 = [])) :=
  T.eq (circuit_Wires.f_eq · x) (T.bind (lay_T x hl) fun t ht => T.pure ht.2)
end Go.Proofs.Ytlmcalffemklnaa.H1
namespace Go.Proofs.Ytlmcalffemklnaa.H1
open Go Go.Proofs.Ytlmcalffemklnaa.Rf
theorem p2w {w : Nat} (h : w ≤ 5) : 1 ≤ 2 ^ w ∧ 2 ^ w ≤ 32 := by
  have : 2 ^ w ≤ 2 ^ 5 := Nat.pow_le_pow_right (by decide) h
  have := Nat.two_pow_pos w
  have e : (2 : Nat) ^ 5 = 32 := rfl
  omega
theorem p2n {n : Nat} (h : n ≤ 32) : 1 ≤ 2 ^ n ∧ 2 ^ n ≤ 4294967296 := by
  have : 2 ^ n ≤ 2 ^ 32 := Nat.pow_le_pow_right (by decide) h
  have := Nat.two_pow_pos n
  have e : (2 : Nat) ^ 32 = 4294967296 := rfl
  omega
theorem e64 : (2 : Nat) ^ 64 = 18446744073709551616 := rfl
theorem shl1_u {s : Nat} (h : s ≤ 32) : shlI .u64 1 (s : Int) = ((2 ^ s : Nat) : Int) := by
  have := p2n h
  have k := shl_nat (a := 1) (s := s) (by omega) (by rw [Nat.one_shiftLeft, e64]; omega)
  rw [Nat.one_shiftLeft] at k
  exact k
theorem nat_nlt (n : Nat) : decide ((n : Int) < 0) = false := decide_eq_false (by omega)
theorem most_T {w : Int} (h0 : 0 ≤ w) (h1 : w ≤ 5) : T (fun k => witness_most.f k w) (fun r => r = ((2 ^ 2 ^ w.toNat - 1 : Nat) : Int)) := by
  obtain ⟨w, rfl⟩ := Int.eq_ofNat_of_zero_le h0
  have hw : w ≤ 5 := by omega
  have := p2w hw
  have := p2n (n := 2 ^ w) (by omega)
  refine T.eq (witness_most.f_eq · _) (T.no (by simp) ?_)
  rw [shl1_u (s := w) (by omega), shl1_u (s := 2 ^ w) (by omega)]
  refine T.no (nat_nlt _) (T.pure ?_)
  rw [Int.toNat_natCast, wu_in (by omega) (by omega)]
  omega
def badL (rows : Int) (l : List (List Int)) : Prop := ∃ c ∈ l, ((List.length c : Nat) : Int) ≠ pw rows
def badV (wide : Int) (l : List (List Int)) : Prop := ∃ c ∈ l, ∃ w ∈ c, ((2 ^ 2 ^ wide.toNat : Nat) : Int) ≤ w
open Classical in
/-- What is wrong with so many columns. -/
noncomputable def fitsE (x : Sy) (l : List (List Int)) (many : Int) : Int := if (l.length : Int) ≠ many then 6 else if badL x.2.1 l then 6 else if badV x.1 l then 5 else 0
theorem cf1_T (x : Sy) (l : List Int) (hx : Sz x) (hl : l.length ≤ 100000000) : T (fun k => slices_ContainsFunc_witness_fits_1.f k l x) (fun b => b = true ↔ ∃ w ∈ l, ((2 ^ 2 ^ x.1.toNat : Nat) : Int) ≤ w) := by
  have hpos := Nat.two_pow_pos (2 ^ x.1.toNat)
  refine T.eq (slices_ContainsFunc_witness_fits_1.f_eq · l x) (T.bind (p := fun r => 0 ≤ r ↔ ∃ w ∈ l, ((2 ^ 2 ^ x.1.toNat : Nat) : Int) ≤ w) ?_ fun r hr => T.pure (by simpa using hr))
  refine T.eq (slices_IndexFunc_witness_fits_1.f_eq · l x) ?_
  refine T.loop0 (σ := Unit) (f := fun k _ i => slices_IndexFunc_witness_fits_1.l26 k l x (l.length : Int) i) l.length (fun _ i => ∀ j, j < i → ¬ ((2 ^ 2 ^ x.1.toNat : Nat) : Int) ≤ l.getD j 0) () (fun j h => absurd h (by omega)) fun s i hi hI ih => ?_
  refine T.eq (slices_IndexFunc_witness_fits_1.l26_eq · l x _ _) (T.ite (fun h => ?_) (fun h => ?_))
  · have hlt := lt_dec h
    refine T.yes (inB_nat hlt) (T.bind (p := fun b => b = decide (l.getD i 0 > ((2 ^ 2 ^ x.1.toNat - 1 : Nat) : Int))) (T.eq (witness_fits_1.f_eq · _ x) (T.bind (most_T hx.w0 hx.w1) fun t ht => T.pure (by rw [ht]; rfl))) fun t ht => T.ite (fun hb => T.pure ?_) (fun hb => ?_))
    · rw [ht] at hb
      have hb := of_decide_eq_true hb
      refine ⟨fun _ => ⟨l.getD i 0, ?_, by omega⟩, fun _ => by omega⟩
      rw [List.getD_eq_getElem?_getD, List.getElem?_eq_getElem hlt]; exact List.getElem_mem hlt
    · rw [ht] at hb
      have hb := of_decide_eq_false hb
      rw [inc (by omega)]
      refine ih () hlt fun j hj => ?_
      by_cases e : j = i
      · subst e; omega
      · exact hI j (by omega)
  · have hge := nlt_dec h
    refine T.pure ⟨fun k => absurd k (by omega), fun ⟨w, hw, hle⟩ => ?_⟩
    obtain ⟨j, hj, e⟩ := List.getElem_of_mem hw
    exact absurd (by rw [List.getD_eq_getElem?_getD, List.getElem?_eq_getElem hj]; show _ ≤ l[j]; rw [e]; exact hle) (hI j (by omega))
theorem getD_mem {α : Type} {l : List α} {d : α} {i : Nat} (h : i < l.length) : l.getD i d ∈ l := by
  rw [List.getD_eq_getElem?_getD, List.getElem?_eq_getElem h]; exact List.getElem_mem h
theorem mem_getD {α : Type} {l : List α} {a : α} (d : α) (h : a ∈ l) : ∃ i, i < l.length ∧ l.getD i d = a := by
  obtain ⟨i, hi, e⟩ := List.getElem_of_mem h
  exact ⟨i, hi, by rw [List.getD_eq_getElem?_getD, List.getElem?_eq_getElem hi]; exact e⟩
def fewW (l : List (List Int)) : Prop := l.length ≤ 1000 ∧ ∀ c ∈ l, List.length c ≤ 100000
open Classical in
theorem cfits_T (x : Sy) (l : List (List Int)) (many : Int) (hx : Sz x) (hl : fewW l) : T (fun k => witness_fits.f k x l many) (fun r => r = fitsE x l many) := by
  have hL := hl.1
  refine T.eq (witness_fits.f_eq · x l many) (T.ite (fun h => T.pure ?_) (fun h => ?_))
  · unfold fitsE; rw [if_pos (by simpa using h)]
  have hm : ¬ ((l.length : Int) ≠ many) := by simpa using h
  have e0 : fitsE x l many = if badL x.2.1 l then 6 else if badV x.1 l then 5 else 0 := by unfold fitsE; rw [if_neg hm]
  rw [e0]
  have hc0 : decide (x.2.1 < 0) = false := by have := hx.r0; simpa using this
  have hsh : shlI .i64 1 x.2.1 = pw x.2.1 := shl_pw hx.r0 (by have := hx.r1; omega)
  refine T.loop0 (σ := Unit) (f := fun k _ i => witness_fits.l58 k l x l (l.length : Int) i) l.length (fun _ i => ∀ j, j < i → ((List.length (l.getD j []) : Nat) : Int) = pw x.2.1) () (fun j h => absurd h (by omega)) fun s i hi hI ih => ?_
  refine T.eq (witness_fits.l58_eq · l x l _ _) (T.ite (fun h => ?_) (fun h => ?_))
  · have hlt := lt_dec h
    rw [hsh]
    refine T.yes (inB_nat hlt) (T.no hc0 (T.ite (fun hne => T.pure ?_) (fun he => ?_)))
    · rw [if_pos ⟨l.getD i [], getD_mem hlt, by simpa using hne⟩]
    · rw [inc (by omega)]
      refine ih () hlt fun j hj => ?_
      by_cases e : j = i
      · subst e; simpa using he
      · exact hI j (by omega)
  · have hge := nlt_dec h
    have hnb : ¬ badL x.2.1 l := fun ⟨c, hc, hne⟩ => by
      obtain ⟨j, hj, rfl⟩ := mem_getD [] hc
      exact hne (hI j (by omega))
    rw [if_neg hnb]
    refine T.loop0 (σ := Unit) (f := fun k _ i => witness_fits.l122 k x l (l.length : Int) i) l.length (fun _ i => ∀ j, j < i → ¬ ∃ w ∈ l.getD j [], ((2 ^ 2 ^ x.1.toNat : Nat) : Int) ≤ w) () (fun j h => absurd h (by omega)) fun s i hi hI ih => ?_
    refine T.eq (witness_fits.l122_eq · x l _ _) (T.ite (fun h => ?_) (fun h => ?_))
    · have hlt := lt_dec h
      refine T.yes (inB_nat hlt) (T.bind (cf1_T x (l.getD i []) hx (by have := hl.2 _ (getD_mem (d := []) hlt); omega)) fun t ht => T.ite (fun hb => T.pure ?_) (fun hb => ?_))
      · rw [if_pos ⟨l.getD i [], getD_mem hlt, ht.1 hb⟩]
      · rw [inc (by omega)]
        refine ih () hlt fun j hj => ?_
        by_cases e : j = i
        · subst e; intro k; rw [ht.2 k] at hb; cases hb
        · exact hI j (by omega)
    · have hge := nlt_dec h
      refine T.pure ?_
      rw [if_neg]
      rintro ⟨c, hc, hv⟩
      obtain ⟨j, hj, rfl⟩ := mem_getD [] hc
      exact hI j (by omega) hv
open Classical in
/-- What is wrong with all columns. -/
noncomputable def askE (x : Sy) (l : List (List Int)) : Int := if (chk x).2 ≠ 0 then (chk x).2 else fitsE x l (pw x.2.2.1)
theorem wask_T (x : Sy) (l : List (List Int)) (h1 : (gts x).length ≤ 1000) (hl : fewW l) : T (fun k => witness_ask.f k x l) (fun r => r = askE x l) := by
  refine T.eq (witness_ask.f_eq · x l) (T.bind (ccheck_T x h1) fun t ht => T.ite (fun h => T.pure ?_) (fun h => ?_))
  · unfold askE; rw [if_pos (by rw [← ht]; simpa using h), ht]
  · have h0 : (chk x).2 = 0 := by rw [← ht]; simpa using h
    have hx := (chk_ok h0).1
    rw [shl_pw hx.c0 hx.c1]
    refine T.no (by have := hx.c0; simpa using this) (T.bind (cfits_T x l _ hx hl) fun r hr => T.pure ?_)
    unfold askE; rw [if_neg (by rw [h0]; simp)]; exact hr
def rngW (l : List (List Int)) : Prop := ∀ c ∈ l, ∀ w ∈ c, rng w
theorem shr_pos {v n : Nat} : 0 < v >>> n ↔ 2 ^ n ≤ v := by
  rw [Nat.shiftRight_eq_div_pow]
  have := Nat.two_pow_pos n
  constructor
  · intro h
    rcases Nat.lt_or_ge v (2 ^ n) with k | k
    · rw [Nat.div_eq_of_lt k] at h; omega
    · exact k
  · intro h; exact Nat.div_pos h this
open Classical in
theorem rfits27_T (x : Sy) (l : List (List Int)) (many : Int) (hx : Sz x) (hl : fewW l) (hr : rngW l) : T (fun k => steepleref27_Fits.f k x l many) (fun r => r = fitsE x l many) := by
  have hL := hl.1
  refine T.eq (steepleref27_Fits.f_eq · x l many) (T.ite (fun h => T.pure ?_) (fun h => ?_))
  · unfold fitsE; rw [if_pos (by simpa using h)]
  have hm : ¬ ((l.length : Int) ≠ many) := by simpa using h
  have e0 : fitsE x l many = if badL x.2.1 l then 6 else if badV x.1 l then 5 else 0 := by unfold fitsE; rw [if_neg hm]
  rw [e0]
  refine T.loop0 (σ := Unit) (f := fun k _ i => steepleref27_Fits.l58 k l x i) l.length (fun _ i => ∀ j, j < i → ((List.length (l.getD j []) : Nat) : Int) = pw x.2.1) () (fun j h => absurd h (by omega)) fun s i hi hI ih => ?_
  refine T.eq (steepleref27_Fits.l58_eq · l x _) (T.ite (fun h => ?_) (fun h => ?_))
  · have hlt := lt_dec h
    refine T.yes (inB_nat hlt) (T.bind (two_int hx.r0 (by have := hx.r1; omega)) fun t ht => ?_)
    subst ht
    refine T.ite (fun hne => T.pure ?_) (fun he => ?_)
    · rw [if_pos ⟨l.getD i [], getD_mem hlt, by simpa using hne⟩]
    · rw [inc (by omega)]
      refine ih () hlt fun j hj => ?_
      by_cases e : j = i
      · subst e; simpa using he
      · exact hI j (by omega)
  · have hge := nlt_dec h
    have hnb : ¬ badL x.2.1 l := fun ⟨c, hc, hne⟩ => by
      obtain ⟨j, hj, rfl⟩ := mem_getD [] hc
      exact hne (hI j (by omega))
    rw [if_neg hnb]
    have hw := p2w (w := x.1.toNat) (by have := hx.w1; have := hx.w0; omega)
    refine T.loop0 (σ := Unit) (f := fun k _ i => steepleref27_Fits.l122 k l x i) l.length (fun _ i => ∀ j, j < i → ¬ ∃ w ∈ l.getD j [], ((2 ^ 2 ^ x.1.toNat : Nat) : Int) ≤ w) () (fun j h => absurd h (by omega)) fun s i hi hI ih => ?_
    refine T.eq (steepleref27_Fits.l122_eq · l x _) (T.ite (fun h => ?_) (fun h => ?_))
    · have hlt := lt_dec h
      have hcl := hl.2 _ (getD_mem (d := []) hlt)
      refine T.loop0 (σ := Unit) (f := fun k _ j => steepleref27_Fits.l7826 k l x (i : Int) j) (List.length (l.getD i [])) (fun _ j => ∀ q, q < j → ¬ ((2 ^ 2 ^ x.1.toNat : Nat) : Int) ≤ (l.getD i []).getD q 0) () (fun j h => absurd h (by omega)) fun s2 j hj hJ ih2 => ?_
      refine T.eq (steepleref27_Fits.l7826_eq · l x _ _) (T.yes (inB_nat hlt) (T.ite (fun h2 => ?_) (fun h2 => ?_)))
      · have hjl : j < List.length (l.getD i []) := by simpa using h2
        refine T.yes (inB_nat hlt) (T.yes (inB_nat hjl) (T.bind (two_int hx.w0 (by have := hx.w1; omega)) fun t ht => ?_))
        have e1 : wu64 t = ((2 ^ x.1.toNat : Nat) : Int) := by rw [ht]; unfold pw; exact wu_in (by omega) (by omega)
        obtain ⟨v, hv, hv2⟩ := rng_nat (hr _ (getD_mem (d := []) hlt) _ (getD_mem (d := 0) hjl))
        rw [e1]
        have es : shrI .u64 ((l.getD i []).getD j 0) ((2 ^ x.1.toNat : Nat) : Int) = ((v >>> 2 ^ x.1.toNat : Nat) : Int) := by rw [hv, shr_nat (by omega)]
        refine T.no (nat_nlt _) (T.ite (fun hp => T.pure ?_) (fun hp => ?_))
        · have hp : shrI .u64 ((l.getD i []).getD j 0) ((2 ^ x.1.toNat : Nat) : Int) > 0 := of_decide_eq_true hp
          rw [es] at hp
          have hp : 0 < v >>> 2 ^ x.1.toNat := by omega
          rw [if_pos ⟨l.getD i [], getD_mem hlt, _, getD_mem (d := 0) hjl, by rw [hv]; have := shr_pos.1 hp; omega⟩]
        · have hp : ¬ shrI .u64 ((l.getD i []).getD j 0) ((2 ^ x.1.toNat : Nat) : Int) > 0 := of_decide_eq_false hp
          rw [es] at hp
          have hp2 : ¬ 0 < v >>> 2 ^ x.1.toNat := by omega
          rw [inc (by omega)]
          refine ih2 () hjl fun q hq => ?_
          by_cases e : q = j
          · subst e; rw [hv]; intro k; exact hp2 (shr_pos.2 (by omega))
          · exact hJ q (by omega)
      · have hjl : List.length (l.getD i []) ≤ j := by simpa using h2
        rw [inc (by omega)]
        refine ih () hlt fun q hq => ?_
        by_cases e : q = i
        · subst e
          rintro ⟨w, hw', hle⟩
          obtain ⟨a, ha, rfl⟩ := mem_getD 0 hw'
          exact hJ a (by omega) hle
        · exact hI q (by omega)
    · have hge := nlt_dec h
      refine T.pure ?_
      rw [if_neg]
      rintro ⟨c, hc, hv⟩
      obtain ⟨j, hj, rfl⟩ := mem_getD [] hc
      exact hI j (by omega) hv
end Go.Proofs.Ytlmcalffemklnaa.H1
namespace Go.Proofs.Ytlmcalffemklnaa.H1
open Go Go.Proofs.Ytlmcalffemklnaa.Rf
/-- A bit of a word turned. -/
def sb (n : Nat) (kind : Int) (s : Nat) (f : Nat → Bool) (i : Nat) : Bool :=
  if kind = 1 then decide (s ≤ i) && f (i - s) else if kind = 2 then f (i + s) else if kind = 3 then f ((i + n - s) % n) else f i
theorem fitB_spec {k w s : Int} (h : fitB k w s = true) : 0 ≤ k ∧ k ≤ 3 ∧ 0 ≤ w ∧ w ≤ 6 ∧ 0 ≤ s ∧ s < pw w ∧ (k ≠ 0 ∨ s = 0) := by
  unfold fitB at h
  simp only [Bool.and_eq_true, decide_eq_true_eq, Bool.or_eq_true, bne_iff_ne, beq_iff_eq] at h
  obtain ⟨⟨⟨⟨⟨⟨a, b⟩, c⟩, d⟩, e⟩, f⟩, g⟩ := h
  exact ⟨a, b, c, d, e, f, g⟩
theorem mod_back {n s i : Nat} (hs : s < n) (hi : i < n) : (i + n - s) % n = if s ≤ i then i - s else i + n - s := by
  split
  · rw [show i + n - s = (i - s) + n by omega, Nat.add_mod_right, Nat.mod_eq_of_lt (by omega)]
  · rw [Nat.mod_eq_of_lt (by omega)]
theorem bit_eq {w i : Nat} (hw : w < 2 ^ 64) (hi : i ≤ 64) : (andI .u64 (shrI .u64 (w : Int) (i : Int)) 1 == 1) = w.testBit i := by
  have h1 : w >>> i < 2 ^ 64 := Nat.lt_of_le_of_lt (Nat.shiftRight_le w i) hw
  rw [shr_nat hi, show (1 : Int) = ((1 : Nat) : Int) from rfl, and_nat h1 (by decide), Nat.testBit_eq_decide_div_mod_eq, ← Nat.shiftRight_eq_div_pow, Nat.and_one_is_mod]
  rcases Nat.mod_two_eq_zero_or_one (w >>> i) with k | k <;> rw [k] <;> decide
theorem lt_bit {n w i : Nat} (hw : w < 2 ^ n) (hi : n ≤ i) : w.testBit i = false := Nat.testBit_lt_two_pow (Nat.lt_of_lt_of_le hw (Nat.pow_le_pow_right (by decide) hi))
theorem and_most {m n i : Nat} : (m &&& (2 ^ n - 1)).testBit i = (m.testBit i && decide (i < n)) := by rw [Nat.testBit_and, Nat.testBit_two_pow_sub_one]
theorem shifted_T {kind wide s : Int} {w : Nat} (h0 : 0 ≤ wide) (h1 : wide ≤ 5) (hf : fitB kind wide s = true) (hw : w < 2 ^ 2 ^ wide.toNat) :
    T (fun k => witness_shifted.f k kind wide s (w : Int)) (fun r => ∃ m : Nat, r = (m : Int) ∧ m < 2 ^ 2 ^ wide.toNat ∧ ∀ i, i < 2 ^ wide.toNat → m.testBit i = sb (2 ^ wide.toNat) kind s.toNat w.testBit i) := by
  obtain ⟨k0, k3, _, _, s0, s1, s2⟩ := fitB_spec hf
  obtain ⟨wd, rfl⟩ := Int.eq_ofNat_of_zero_le h0
  obtain ⟨s, rfl⟩ := Int.eq_ofNat_of_zero_le s0
  have hwd : wd ≤ 5 := by omega
  obtain ⟨n, hn⟩ : ∃ n, n = 2 ^ wd := ⟨_, rfl⟩
  have hn1 := p2w hwd
  have hm := most_T h0 h1
  simp only [Int.toNat_natCast] at hw hm ⊢
  have e1 : pw (wd : Int) = (n : Int) := by rw [hn]; rfl
  rw [e1] at s1
  have hsh : shlI .i64 1 (wd : Int) = (n : Int) := by rw [hn]; exact shl_pow (by omega)
  rw [← hn] at hw hm hn1 ⊢
  have hs : s < n := by omega
  have hp := p2n (n := n) (by omega)
  have hps := p2n (n := s) (by omega)
  have hN : 2 ^ n - 1 < 2 ^ 64 := by rw [e64]; omega
  have hw64 : w < 2 ^ 64 := by rw [e64]; omega
  have hshl : w <<< s < 2 ^ 64 := by
    rw [Nat.shiftLeft_eq]
    have : w * 2 ^ s < 2 ^ n * 2 ^ s := Nat.mul_lt_mul_of_pos_right hw (Nat.two_pow_pos s)
    have : 2 ^ n * 2 ^ s = 2 ^ (n + s) := (Nat.pow_add 2 n s).symm
    have : 2 ^ (n + s) ≤ 2 ^ 64 := Nat.pow_le_pow_right (by decide) (by omega)
    omega
  refine T.eq (witness_shifted.f_eq · _ _ _ _) (T.no (nat_nlt wd) (T.ite (fun hk => T.no (nat_nlt s) ?_) (fun hk1 => T.ite (fun hk => T.no (nat_nlt s) ?_) (fun hk2 => T.ite (fun hk => T.no (nat_nlt s) ?_) (fun hk3 => T.pure ?_)))))
  · have hk : kind = 1 := by simpa using hk
    refine T.bind hm fun t ht => T.pure ?_
    rw [ht, shl_nat (by omega) hshl, and_nat hshl hN]
    refine ⟨_, rfl, ?_, fun i hi => ?_⟩
    · have := Nat.and_le_right (n := w <<< s) (m := 2 ^ n - 1); omega
    · rw [and_most, Nat.testBit_shiftLeft]
      unfold sb; rw [if_pos hk]; simp [hi]
  · have hk : kind = 2 := by simpa using hk
    rw [shr_nat (by omega)]
    refine T.pure ⟨_, rfl, Nat.lt_of_le_of_lt (Nat.shiftRight_le w s) hw, fun i hi => ?_⟩
    rw [Nat.testBit_shiftRight]
    unfold sb; rw [if_neg (by omega), if_pos hk, Nat.add_comm]
  · have hk : kind = 3 := by simpa using hk
    rw [hsh, w64_in (by omega) (by omega), show (n : Int) - (s : Int) = ((n - s : Nat) : Int) by omega]
    refine T.no (nat_nlt _) (T.bind hm fun t ht => T.pure ?_)
    have h2 : w >>> (n - s) < 2 ^ 64 := Nat.lt_of_le_of_lt (Nat.shiftRight_le w _) hw64
    rw [ht, shl_nat (by omega) hshl, shr_nat (by omega), or_nat hshl h2, and_nat (Nat.or_lt_two_pow hshl h2) hN]
    refine ⟨_, rfl, ?_, fun i hi => ?_⟩
    · have := Nat.and_le_right (n := w <<< s ||| w >>> (n - s)) (m := 2 ^ n - 1); omega
    · rw [and_most, Nat.testBit_or, Nat.testBit_shiftLeft, Nat.testBit_shiftRight]
      unfold sb; rw [if_neg (by omega), if_neg (by omega), if_pos hk, mod_back hs hi]
      split
      · rename_i hle
        rw [lt_bit hw (show n ≤ n - s + i by omega)]; simp [hle, hi]
      · rename_i hle
        rw [show n - s + i = i + n - s by omega]; simp [hle, hi]
  · refine ⟨w, rfl, hw, fun i hi => ?_⟩
    have g1 : kind ≠ 1 := by simpa using hk1
    have g2 : kind ≠ 2 := by simpa using hk2
    have g3 : kind ≠ 3 := by simpa using hk3
    unfold sb; rw [if_neg g1, if_neg g2, if_neg g3]
def bitsL (n : Nat) (f : Nat → Bool) : List Bool := (List.range n).map f
theorem bitsL_len (n : Nat) (f : Nat → Bool) : (bitsL n f).length = n := by simp [bitsL]
theorem bitsL_at {n i : Nat} (f : Nat → Bool) (h : i < n) : (bitsL n f).getD i false = f i := by
  unfold bitsL
  rw [List.getD_eq_getElem?_getD, List.getElem?_map, List.getElem?_range h]; rfl
theorem bitsL_succ (n : Nat) (f : Nat → Bool) : bitsL (n + 1) f = bitsL n f ++ [f n] := by simp [bitsL, List.range_succ]
theorem bitsL_out {n i : Nat} (f : Nat → Bool) (h : n ≤ i) : (bitsL n f).getD i false = false := by
  rw [List.getD_eq_getElem?_getD, List.getElem?_eq_none (by rw [bitsL_len]; exact h)]; rfl
theorem word_T {wide : Int} {w : Nat} (h0 : 0 ≤ wide) (h1 : wide ≤ 5) (hw : w < 2 ^ 64) : T (fun k => steepleref27_Word.f k wide (w : Int)) (fun r => r = bitsL (2 ^ wide.toNat) w.testBit) := by
  obtain ⟨wd, rfl⟩ := Int.eq_ofNat_of_zero_le h0
  have hwd : wd ≤ 5 := by omega
  have hn1 := p2w hwd
  simp only [Int.toNat_natCast]
  refine T.eq (steepleref27_Word.f_eq · _ _) ?_
  refine T.loop0 (σ := List Bool) (f := fun k s i => steepleref27_Word.l58 k (wd : Int) (w : Int) s i) (2 ^ wd) (fun s i => s = bitsL i w.testBit) [] rfl fun s i hi hI ih => ?_
  refine T.eq (steepleref27_Word.l58_eq · _ _ s i) (T.bind (two_T wd (by omega)) fun t ht => ?_)
  subst ht
  refine T.ite (fun h => ?_) (fun h => ?_)
  · have hlt := lt_dec h
    have e1 : wu64 (i : Int) = (i : Int) := wu_in (by omega) (by omega)
    rw [e1, bit_eq hw (by omega), inc (by omega)]
    refine T.no (nat_nlt i) (T.yes (room_ok (by rw [hI, bitsL_len]; simp only [List.length_cons, List.length_nil]; omega)) (ih _ hlt (by rw [hI, bitsL_succ])))
  · have := nlt_dec h
    exact T.pure (by rw [hI, show i = 2 ^ wd by omega])
def wasP (n : Nat) (kind : Int) (s i j : Nat) : Prop := if kind = 2 then j = i + s else if kind = 3 then (j + s) % n = i else i = j + s
theorem was_T {kind wide : Int} {s i j : Nat} (h0 : 0 ≤ wide) (h1 : wide ≤ 5) (hs : s ≤ 100) (hi : i ≤ 100) (hj : j ≤ 100) : T (fun k => steepleref18_Was.f k kind wide (s : Int) (i : Int) (j : Int)) (fun b => b = true ↔ wasP (2 ^ wide.toNat) kind s i j) := by
  obtain ⟨wd, rfl⟩ := Int.eq_ofNat_of_zero_le h0
  have hwd : wd ≤ 5 := by omega
  have hn1 := p2w hwd
  simp only [Int.toNat_natCast]
  unfold wasP
  refine T.eq (steepleref18_Was.f_eq · _ _ _ _ _) (T.bind (two_T wd (by omega)) fun t ht => ?_)
  subst ht
  rw [w64_in (n := (i : Int) + s) (by omega) (by omega), w64_in (n := (j : Int) + s) (by omega) (by omega)]
  refine T.ite (fun h => T.pure ?_) (fun h => T.ite (fun h3 => T.no ?_ (T.pure ?_)) (fun h3 => T.pure ?_))
  · have h : kind = 2 := by simpa using h
    rw [if_pos h]; simp; omega
  · exact beq_eq_false_iff_ne.2 (by omega)
  · have h : kind ≠ 2 := by simpa using h
    have h3 : kind = 3 := by simpa using h3
    rw [if_neg h, if_pos h3, show (j : Int) + s = ((j + s : Nat) : Int) by omega]
    generalize 2 ^ wd = q
    have : Int.tmod ((j + s : Nat) : Int) (q : Int) = (((j + s) % q : Nat) : Int) := rfl
    rw [this, beq_iff_eq]; exact ⟨fun g => Int.ofNat.inj g, fun g => congrArg Int.ofNat g⟩
  · have h : kind ≠ 2 := by simpa using h
    have h3 : kind ≠ 3 := by simpa using h3
    rw [if_neg h, if_neg h3]; simp; omega
theorem was_sb {n : Nat} {kind : Int} {s i : Nat} {f : Nat → Bool} (hk : kind = 0 → s = 0) (hs : s < n) (hi : i < n) (hf : ∀ j, n ≤ j → f j = false) (hr : 0 ≤ kind ∧ kind ≤ 3) : (∃ j, j < n ∧ wasP n kind s i j ∧ f j = true) ↔ sb n kind s f i = true := by
  have hc : kind = 0 ∨ kind = 1 ∨ kind = 2 ∨ kind = 3 := by omega
  unfold wasP sb
  rcases hc with rfl | rfl | rfl | rfl
  · have := hk rfl
    subst this
    simp only [Nat.add_zero]
    constructor
    · rintro ⟨j, _, rfl, h⟩; exact h
    · intro h; exact ⟨i, hi, rfl, h⟩
  · constructor
    · rintro ⟨j, _, (e : i = j + s), h⟩
      simp only [if_pos]
      subst e
      simp [h]
    · intro h
      simp only [if_pos, Bool.and_eq_true, decide_eq_true_eq] at h
      exact ⟨i - s, by omega, by show i = i - s + s; omega, h.2⟩
  · constructor
    · rintro ⟨j, _, (e : j = i + s), h⟩
      show f (i + s) = true
      rw [← e]; exact h
    · intro h
      have h : f (i + s) = true := h
      rcases Nat.lt_or_ge (i + s) n with k | k
      · exact ⟨i + s, k, rfl, h⟩
      · rw [hf _ k] at h; cases h
  · have hb := mod_back hs hi
    have e : ∀ j, j < n → ((j + s) % n = i ↔ j = (i + n - s) % n) := fun j hj => by
      rw [hb]
      rcases Nat.lt_or_ge (j + s) n with k | k
      · rw [Nat.mod_eq_of_lt k]; split <;> omega
      · rw [show j + s = (j + s - n) + n by omega, Nat.add_mod_right, Nat.mod_eq_of_lt (by omega)]; split <;> omega
    constructor
    · rintro ⟨j, hj, (h1 : (j + s) % n = i), h⟩
      show f ((i + n - s) % n) = true
      rw [← (e j hj).1 h1]; exact h
    · intro h
      have h : f ((i + n - s) % n) = true := h
      exact ⟨_, Nat.mod_lt _ (by omega), (e _ (Nat.mod_lt _ (by omega))).2 rfl, h⟩
theorem bits18_T {kind wide s : Int} {f : Nat → Bool} (h0 : 0 ≤ wide) (h1 : wide ≤ 5) (hf : fitB kind wide s = true) : T (fun k => steepleref18_Bits.f k kind wide s (bitsL (2 ^ wide.toNat) f)) (fun r => r = bitsL (2 ^ wide.toNat) (sb (2 ^ wide.toNat) kind s.toNat fun j => (bitsL (2 ^ wide.toNat) f).getD j false)) := by
  obtain ⟨k0, k3, _, _, s0, s1, s2⟩ := fitB_spec hf
  obtain ⟨s, rfl⟩ := Int.eq_ofNat_of_zero_le s0
  have hwas := fun i j => @was_T kind wide s i j h0 h1
  obtain ⟨wd, rfl⟩ := Int.eq_ofNat_of_zero_le h0
  have hwd : wd ≤ 5 := by omega
  have hn1 := p2w hwd
  simp only [Int.toNat_natCast] at hwas ⊢
  have e1 : pw (wd : Int) = ((2 ^ wd : Nat) : Int) := rfl
  rw [e1] at s1
  generalize 2 ^ wd = n at *
  obtain ⟨b, hb⟩ : ∃ b, b = bitsL n f := ⟨_, rfl⟩
  have hlen : b.length = n := by rw [hb, bitsL_len]
  rw [← hb]
  refine T.eq (steepleref18_Bits.f_eq · _ _ _ _) ?_
  refine T.loop0 (σ := List Bool) (f := fun k t i => steepleref18_Bits.l58 k kind (wd : Int) (s : Int) b t i) n (fun t i => t = bitsL i (sb n kind s fun j => b.getD j false)) [] rfl fun t i hi hI ih => ?_
  refine T.eq (steepleref18_Bits.l58_eq · _ _ _ _ t i) (T.ite (fun h => ?_) (fun h => ?_))
  · have hlt : i < n := by rw [hlen] at h; exact lt_dec h
    refine T.loop0 (σ := Bool) (f := fun k v j => steepleref18_Bits.l14922 k kind (wd : Int) (s : Int) b t (i : Int) v j) n (fun v j => v = true ↔ ∃ j', j' < j ∧ wasP n kind s i j' ∧ b.getD j' false = true) false ⟨fun h => (by cases h), fun ⟨j, h, _⟩ => absurd h (by omega)⟩ fun v j hj hJ ih2 => ?_
    refine T.eq (steepleref18_Bits.l14922_eq · _ _ _ _ _ _ v j) (T.ite (fun h => ?_) (fun h => ?_))
    · have hjl : j < n := by rw [hlen] at h; exact lt_dec h
      rw [inc (i := j) (by omega)]
      refine T.ite (fun hv => ih2 _ hjl ⟨fun _ => ?_, fun _ => rfl⟩) (fun hv => T.bind (hwas i j (by omega) (by omega) (by omega)) fun c hc => T.ite (fun hc1 => T.yes (inB_nat (by omega)) (ih2 _ hjl ?_)) (fun hc0 => ih2 _ hjl ?_))
      · obtain ⟨j', g1, g2⟩ := hJ.1 hv
        exact ⟨j', by omega, g2⟩
      · have hno : ¬ ∃ j', j' < j ∧ wasP n kind s i j' ∧ b.getD j' false = true := fun k => by rw [hJ.2 k] at hv; cases hv
        constructor
        · intro g; exact ⟨j, by omega, hc.1 hc1, g⟩
        · rintro ⟨j', g1, g2, g3⟩
          rcases Nat.lt_or_ge j' j with k | k
          · exact absurd ⟨j', k, g2, g3⟩ hno
          · have : j' = j := by omega
            subst this; exact g3
      · have hno : ¬ ∃ j', j' < j ∧ wasP n kind s i j' ∧ b.getD j' false = true := fun k => by rw [hJ.2 k] at hv; cases hv
        constructor
        · intro g; cases g
        · rintro ⟨j', g1, g2, g3⟩
          rcases Nat.lt_or_ge j' j with k | k
          · exact absurd ⟨j', k, g2, g3⟩ hno
          · have : j' = j := by omega
            subst this; rw [hc.2 g2] at hc0; cases hc0
    · have hjl : n ≤ j := by rw [hlen] at h; exact nlt_dec h
      have hjn : j = n := by omega
      rw [inc (by omega)]
      refine T.yes (room_ok (by rw [hI, bitsL_len]; simp only [List.length_cons, List.length_nil]; omega)) (ih _ hlt ?_)
      rw [hI, bitsL_succ]
      congr 2
      rw [Bool.eq_iff_iff, hJ, hjn]
      exact was_sb (f := fun j => b.getD j false) (fun e => by rcases s2 with g | g; exact absurd e g; omega) (by omega) hlt (fun j hj => by show b.getD j false = false; rw [List.getD_eq_getElem?_getD, List.getElem?_eq_none (by omega)]; rfl) ⟨k0, k3⟩
  · have hge : n ≤ i := by rw [hlen] at h; exact nlt_dec h
    exact T.pure (by rw [hI, show i = n by omega])
end Go.Proofs.Ytlmcalffemklnaa.H1
namespace Go.Proofs.Ytlmcalffemklnaa.H1
open Go Go.Proofs.Ytlmcalffemklnaa.Rf
def wireL (x : Sy) (col : List Int) (kind s : Int) : List Bool := col.flatMap fun w => bitsL (2 ^ x.1.toNat) (sb (2 ^ x.1.toNat) kind s.toNat w.toNat.testBit)
theorem flat_take {α β : Type} (l : List α) (d : α) (f : α → List β) {i : Nat} (h : i < l.length) : (l.take (i + 1)).flatMap f = (l.take i).flatMap f ++ f (l.getD i d) := by
  rw [take_snoc l d h, List.flatMap_append]; simp
theorem flat_len {α : Type} {f : α → List Bool} {n : Nat} : ∀ (l : List α), (∀ a, (f a).length = n) → (l.flatMap f).length = l.length * n
  | [], _ => by simp
  | a :: l, h => by rw [List.flatMap_cons, List.length_append, h a, flat_len l h, List.length_cons, Nat.succ_mul]; omega
/-- Words that are words. -/
def okWd (x : Sy) (c : List Int) : Prop := ∀ w ∈ c, 0 ≤ w ∧ w.toNat < 2 ^ 2 ^ x.1.toNat
theorem okWd_of {x : Sy} {l : List (List Int)} (hr : rngW l) (hv : ¬ badV x.1 l) {c : List Int} (hc : c ∈ l) : okWd x c := fun w hw => by
  have h1 := hr c hc w hw
  have h2 : ¬ ((2 ^ 2 ^ x.1.toNat : Nat) : Int) ≤ w := fun k => hv ⟨c, hc, w, hw, k⟩
  exact ⟨h1.1, by have := h1.1; omega⟩
theorem fits_zero {x : Sy} {l : List (List Int)} {many : Int} (h : fitsE x l many = 0) : (l.length : Int) = many ∧ ¬ badL x.2.1 l ∧ ¬ badV x.1 l := by
  unfold fitsE at h
  split at h
  · omega
  rename_i h1
  split at h
  · omega
  rename_i h2
  split at h
  · omega
  rename_i h3
  exact ⟨by omega, h2, h3⟩
theorem ask_zero {x : Sy} {l : List (List Int)} (h : askE x l = 0) : (chk x).2 = 0 ∧ fitsE x l (pw x.2.2.1) = 0 := by
  unfold askE at h
  split at h
  · rename_i k; exact absurd h k
  · rename_i k; exact ⟨by omega, h⟩
open Classical in
noncomputable def wireE (x : Sy) (l : List (List Int)) (c : O) : List Bool × Int :=
  if askE x l ≠ 0 then ([], askE x l) else if c.1 < 0 ∨ (l.length : Int) ≤ c.1 then ([], 4) else if fitB c.2.1 x.1 c.2.2.1 = false then ([], 1) else (wireL x (l.getD c.1.toNat []) c.2.1 c.2.2.1, 0)
theorem cwire_T (x : Sy) (l : List (List Int)) (c : O) (h1 : (gts x).length ≤ 1000) (hl : fewW l) (hr : rngW l) : T (fun k => witness_Wire.f k x l c) (fun r => r = wireE x l c) := by
  unfold wireE
  refine T.eq (witness_Wire.f_eq · x l c) (T.bind (wask_T x l h1 hl) fun t ht => T.ite (fun h => T.pure ?_) (fun h => ?_))
  · rw [if_pos (by rw [← ht]; simpa using h), ht]
  have h0 : askE x l = 0 := by rw [← ht]; simpa using h
  obtain ⟨hc, hf⟩ := ask_zero h0
  have hx := (chk_ok hc).1
  obtain ⟨f1, f2, f3⟩ := fits_zero hf
  rw [if_neg (by rw [h0]; simp)]
  refine T.ite (fun h => T.pure ?_) (fun hb => T.ite (fun h => T.pure ?_) (fun hb2 => ?_))
  · rw [if_pos (.inl (by simpa using h))]
  · rw [if_pos (.inr (by simpa using h))]
  have hb : ¬ c.1 < 0 := of_decide_eq_false hb
  have hb2 : ¬ c.1 ≥ (l.length : Int) := of_decide_eq_false hb2
  rw [if_neg (by omega)]
  refine T.bind (tfits_T _ _ _) fun t ht => T.ite (fun h => T.pure ?_) (fun h => ?_)
  · rw [if_pos (by rw [← ht]; simpa using h)]
  have hfit : fitB c.2.1 x.1 c.2.2.1 = true := by rw [← ht]; simpa using h
  rw [if_neg (by rw [hfit]; simp)]
  refine T.yes (inB_int (by omega) (by omega)) ?_
  have hmem : l.getD c.1.toNat [] ∈ l := getD_mem (by omega)
  have hok := okWd_of (x := x) hr f3 hmem
  have hcl := hl.2 _ hmem
  obtain ⟨col, hcol⟩ : ∃ col, col = l.getD c.1.toNat [] := ⟨_, rfl⟩
  rw [← hcol] at hok hcl ⊢
  have hn := p2w (w := x.1.toNat) (by have := hx.w0; have := hx.w1; omega)
  have hsh : shlI .i64 1 x.1 = ((2 ^ x.1.toNat : Nat) : Int) := shl_pw hx.w0 (by have := hx.w1; omega)
  have hsh2 := fun (w : Nat) (hw : w < 2 ^ 2 ^ x.1.toNat) => shifted_T (kind := c.2.1) (s := c.2.2.1) hx.w0 hx.w1 hfit hw
  have hwire : ∀ i, i < col.length → wireL x (col.take (i + 1)) c.2.1 c.2.2.1 = wireL x (col.take i) c.2.1 c.2.2.1 ++ bitsL (2 ^ x.1.toNat) (sb (2 ^ x.1.toNat) c.2.1 c.2.2.1.toNat (col.getD i 0).toNat.testBit) := fun i hi => flat_take col 0 _ hi
  have hwl : ∀ i, (wireL x (col.take i) c.2.1 c.2.2.1).length ≤ 100000 * 32 := fun i => by
    unfold wireL
    rw [flat_len (n := 2 ^ x.1.toNat) _ fun _ => bitsL_len _ _, List.length_take]
    exact Nat.mul_le_mul (by omega) (by omega)
  have e64' := e64
  have hN := p2n (n := 2 ^ x.1.toNat) (by omega)
  refine T.loop0 (σ := List Bool) (f := fun k s i => witness_Wire.l250 k x c s col (List.length col : Int) i) col.length (fun s i => s = wireL x (col.take i) c.2.1 c.2.2.1) [] rfl fun s i hi hI ih => ?_
  refine T.eq (witness_Wire.l250_eq · x c s col _ i) (T.ite (fun h => ?_) (fun h => ?_))
  · have hlt : i < col.length := by simpa using h
    obtain ⟨w0, w1⟩ := hok _ (getD_mem (d := 0) hlt)
    obtain ⟨w, hw⟩ := Int.eq_ofNat_of_zero_le w0
    have hw1 : w < 2 ^ 2 ^ x.1.toNat := by rw [hw] at w1; simpa using w1
    refine T.yes (inB_nat hlt) ?_
    simp only [Int.toNat_natCast]
    rw [hw]
    refine T.bind (hsh2 w hw1) fun r hr => T.no (by have := hx.w0; simpa using this) ?_
    obtain ⟨m, rfl, hm, hbit⟩ := hr
    have hm64 : m < 2 ^ 64 := by omega
    rw [hsh]
    refine T.loop0 (σ := List Bool) (f := fun k t j => witness_Wire.l128206 k x c t (m : Int) col (List.length col : Int) (i : Int) ((2 ^ x.1.toNat : Nat) : Int) j) (2 ^ x.1.toNat) (fun t j => t = s ++ bitsL j m.testBit) s (by simp [bitsL]) fun t j hj hJ ih2 => ?_
    refine T.eq (witness_Wire.l128206_eq · x c t _ _ _ _ _ j) (T.ite (fun h => ?_) (fun h => ?_))
    · have hjl := lt_dec h
      refine T.no (nat_nlt j) (T.yes (room_ok ?_) ?_)
      · rw [hJ, List.length_append, bitsL_len, hI]; have := hwl i; simp only [List.length_cons, List.length_nil]; omega
      · rw [bit_eq hm64 (by omega), inc (by omega)]
        exact ih2 _ hjl (by rw [hJ, bitsL_succ, List.append_assoc])
    · have hjl := nlt_dec h
      have hje : j = 2 ^ x.1.toNat := by omega
      rw [inc (by omega)]
      refine ih _ hlt ?_
      rw [hwire i hlt, hJ, hI, hje]
      congr 1
      rw [hw]
      exact List.map_congr_left fun q hq => hbit q (List.mem_range.1 hq)
  · have hge : col.length ≤ i := by simpa using h
    refine T.pure ?_
    rw [hI, List.take_of_length_le hge]
theorem getD_bits {n w : Nat} (hw : w < 2 ^ n) : (fun j => (bitsL n w.testBit).getD j false) = w.testBit := by
  funext j
  rcases Nat.lt_or_ge j n with h | h
  · exact bitsL_at _ h
  · rw [bitsL_out _ h, lt_bit hw h]
theorem rwire_T (x : Sy) (col : List Int) (kind s : Int) (hx : Sz x) (hok : okWd x col) (hcl : col.length ≤ 100000) (hfit : fitB kind x.1 s = true) : T (fun k => steepleref27_Wire.f k x col kind s) (fun r => r = wireL x col kind s) := by
  have hn := p2w (w := x.1.toNat) (by have := hx.w0; have := hx.w1; omega)
  have hN := p2n (n := 2 ^ x.1.toNat) (by omega)
  have e64' := e64
  have hwire : ∀ i, i < col.length → wireL x (col.take (i + 1)) kind s = wireL x (col.take i) kind s ++ bitsL (2 ^ x.1.toNat) (sb (2 ^ x.1.toNat) kind s.toNat (col.getD i 0).toNat.testBit) := fun i hi => flat_take col 0 _ hi
  have hwl : ∀ i, (wireL x (col.take i) kind s).length ≤ 100000 * 32 := fun i => by
    unfold wireL
    rw [flat_len (n := 2 ^ x.1.toNat) _ fun _ => bitsL_len _ _, List.length_take]
    exact Nat.mul_le_mul (by omega) (by omega)
  refine T.eq (steepleref27_Wire.f_eq · x col kind s) ?_
  refine T.loop0 (σ := List Bool) (f := fun k t i => steepleref27_Wire.l58 k col kind s x t i) col.length (fun t i => t = wireL x (col.take i) kind s) [] rfl fun t i hi hI ih => ?_
  refine T.eq (steepleref27_Wire.l58_eq · col kind s x t i) (T.ite (fun h => ?_) (fun h => ?_))
  · have hlt : i < col.length := by simpa using h
    obtain ⟨w0, w1⟩ := hok _ (getD_mem (d := 0) hlt)
    obtain ⟨w, hw⟩ := Int.eq_ofNat_of_zero_le w0
    have hw1 : w < 2 ^ 2 ^ x.1.toNat := by rw [hw] at w1; simpa using w1
    refine T.yes (inB_nat hlt) ?_
    simp only [Int.toNat_natCast]
    rw [hw]
    refine T.bind (word_T hx.w0 hx.w1 (by omega)) fun b hb => ?_
    subst hb
    refine T.bind (bits18_T hx.w0 hx.w1 hfit) fun b hb => ?_
    rw [getD_bits hw1] at hb
    subst hb
    refine T.loop0 (σ := List Bool) (f := fun k q j => steepleref27_Wire.l7462 k col kind s x q (i : Int) (bitsL (2 ^ x.1.toNat) (sb (2 ^ x.1.toNat) kind s.toNat w.testBit)) j) (2 ^ x.1.toNat) (fun q j => q = t ++ bitsL j (sb (2 ^ x.1.toNat) kind s.toNat w.testBit)) t (by simp [bitsL]) fun q j hj hJ ih2 => ?_
    refine T.eq (steepleref27_Wire.l7462_eq · col kind s x q _ _ j) (T.ite (fun h => ?_) (fun h => ?_))
    · have hjl : j < 2 ^ x.1.toNat := by rw [bitsL_len] at h; exact lt_dec h
      refine T.yes (inB_nat (by rw [bitsL_len]; exact hjl)) (T.yes (room_ok ?_) ?_)
      · rw [hJ, List.length_append, bitsL_len, hI]; have := hwl i; simp only [List.length_cons, List.length_nil]; omega
      · simp only [Int.toNat_natCast]
        rw [bitsL_at _ hjl, inc (by omega)]
        exact ih2 _ hjl (by rw [hJ, bitsL_succ, List.append_assoc])
    · have hjl : 2 ^ x.1.toNat ≤ j := by rw [bitsL_len] at h; exact nlt_dec h
      rw [inc (by omega)]
      refine ih _ hlt ?_
      rw [hwire i hlt, hJ, hI, show j = 2 ^ x.1.toNat by omega, hw]
      rfl
  · have hge : col.length ≤ i := by simpa using h
    refine T.pure ?_
    rw [hI, List.take_of_length_le hge]
def toE (b : Bool) : E := if b then (0, 1, ()) else z
theorem tables_T (x : Sy) (l : List (List Int)) (h1 : (gts x).length ≤ 1000) (hl : fewW l) (hr : rngW l) {W : List O × Int} (hW : Ev (fun k => circuit_Wires.f k x) W) (hlen : W.1.length ≤ 2000) :
    T (fun k => witness_Tables.f k x l) (fun r => (askE x l ≠ 0 → r = ([], askE x l)) ∧ (askE x l = 0 → W.2 ≠ 0 → r = ([], W.2)) ∧ (askE x l = 0 → W.2 = 0 → r = (W.1.map fun c => (wireE x l c).1.map toE, 0))) := by
  refine T.eq (witness_Tables.f_eq · x l) (T.bind (wask_T x l h1 hl) fun t ht => T.ite (fun h => T.pure ?_) (fun h => T.bind (Ev.T hW) fun V hV => T.ite (fun h2 => T.pure ?_) (fun h2 => ?_)))
  · have hne : askE x l ≠ 0 := by rw [← ht]; simpa using h
    exact ⟨fun _ => by rw [ht], fun k => absurd k hne, fun k => absurd k hne⟩
  · have h0 : askE x l = 0 := by rw [← ht]; simpa using h
    subst hV
    have hne : V.2 ≠ 0 := by simpa using h2
    exact ⟨fun k => absurd h0 k, fun _ _ => rfl, fun _ k => absurd k hne⟩
  have h0 : askE x l = 0 := by rw [← ht]; simpa using h
  subst hV
  have hz : V.2 = 0 := by simpa using h2
  obtain ⟨hc, hf⟩ := ask_zero h0
  have hx := (chk_ok hc).1
  have hn := p2w (w := x.1.toNat) (by have := hx.w0; have := hx.w1; omega)
  have hwl : ∀ c : O, (wireE x l c).1.length ≤ 100000 * 32 := fun c => by
    unfold wireE
    rw [if_neg (by rw [h0]; simp)]
    split
    · simp
    split
    · simp
    · rename_i h3 _
      show (wireL x (l.getD c.1.toNat []) c.2.1 c.2.2.1).length ≤ _
      unfold wireL
      rw [flat_len (n := 2 ^ x.1.toNat) _ fun _ => bitsL_len _ _]
      exact Nat.mul_le_mul (hl.2 _ (getD_mem (by omega))) (by omega)
  refine T.loop0 (σ := List (List E)) (f := fun k s i => witness_Tables.l506 k l x s V.1 (V.1.length : Int) i) V.1.length (fun s i => s = (V.1.take i).map fun c => (wireE x l c).1.map toE) [] rfl fun s i hi hI ih => ?_
  refine T.eq (witness_Tables.l506_eq · l x s _ _ i) (T.ite (fun h => ?_) (fun h => ?_))
  · have hlt := lt_dec h
    refine T.yes (inB_nat hlt) (T.bind (cwire_T x l (V.1.getD i zo) h1 hl hr) fun t ht => ?_)
    subst ht
    have hb := hwl (V.1.getD i zo)
    obtain ⟨bs, hbs⟩ : ∃ bs, bs = (wireE x l (V.1.getD i zo)).1 := ⟨_, rfl⟩
    rw [← hbs] at hb ⊢
    refine T.yes (by unfold makeB room; simp; omega) ?_
    simp only [Int.toNat_natCast]
    refine T.loop0 (σ := List E) (f := fun k t j => witness_Tables.l1037114 k l x s bs t V.1 (V.1.length : Int) (i : Int) (bs.length : Int) j) bs.length (fun t j => t.length = bs.length ∧ ∀ q, q < bs.length → t.getD q z = if q < j then toE (bs.getD q false) else z) _ ⟨by simp, fun q hq => ?_⟩ fun t j hj hJ ih2 => ?_
    · rw [if_neg (by omega), List.getD_eq_getElem?_getD, List.getElem?_replicate, if_pos hq]; rfl
    obtain ⟨hJ1, hJ2⟩ := hJ
    refine T.eq (witness_Tables.l1037114_eq · l x s bs t _ _ _ _ j) (T.ite (fun h => ?_) (fun h => ?_))
    · have hjl := lt_dec h
      rw [inc (by omega)]
      refine T.yes (inB_nat hjl) (T.ite (fun hb1 => T.yes (inB_nat (by omega)) (ih2 _ hjl ⟨by simp [hJ1], fun q hq => ?_⟩)) (fun hb0 => ih2 _ hjl ⟨hJ1, fun q hq => ?_⟩))
      · simp only [Int.toNat_natCast] at hb1 ⊢
        rw [set_get _ _ _ _ _ (by omega)]
        by_cases e : q = j
        · subst e
          rw [if_pos rfl, if_pos (by omega), hb1, show (t.getD q (0, 0, ())) = t.getD q z from rfl, hJ2 q hq, if_neg (by omega)]; rfl
        · rw [if_neg e, hJ2 q hq]
          by_cases e2 : q < j
          · rw [if_pos e2, if_pos (by omega)]
          · rw [if_neg e2, if_neg (by omega)]
      · simp only [Int.toNat_natCast] at hb0
        rw [hJ2 q hq]
        by_cases e : q = j
        · subst e; rw [if_neg (by omega), if_pos (by omega), hb0]; rfl
        · by_cases e2 : q < j
          · rw [if_pos e2, if_pos (by omega)]
          · rw [if_neg e2, if_neg (by omega)]
    · have hjl := nlt_dec h
      rw [inc (by omega)]
      refine T.yes (room_ok ?_) (ih _ hlt ?_)
      · rw [hI, List.length_map, List.length_take]; simp only [List.length_cons, List.length_nil]; omega
      · rw [take_snoc _ zo hlt, List.map_append, hI]
        congr 1
        simp only [List.map_cons, List.map_nil]
        rw [← hbs]
        congr 1
        refine list_eq z (by rw [List.length_map]; exact hJ1) fun q hq => ?_
        rw [List.length_map] at hq
        rw [hJ2 q hq, if_pos (by omega)]
        simp [List.getD_eq_getElem?_getD, List.getElem?_map, List.getElem?_eq_getElem hq]
  · have hge := nlt_dec h
    refine T.pure ⟨fun k => absurd h0 k, fun _ k => absurd hz k, fun _ _ => ?_⟩
    rw [hI, List.take_of_length_le hge]
end Go.Proofs.Ytlmcalffemklnaa.H1
namespace Go.Proofs.Ytlmcalffemklnaa.H1
open Go Go.Proofs.Ytlmcalffemklnaa.Rf
theorem words_T (l : List (List Int)) (most long : Int) (hm : most ≤ 1000) (hlg : long ≤ 100000) : T (fun k => steeplelaw27_words.f k l most long) (fun b => b = true → fewW l ∧ (l.length : Int) ≤ most ∧ ∀ c ∈ l, ((List.length c : Nat) : Int) ≤ long) := by
  refine T.eq (steeplelaw27_words.f_eq · l most long) (T.ite (fun h => T.pure fun h => by cases h) (fun h => ?_))
  have hl : ¬ (l.length : Int) > most := of_decide_eq_false h
  refine T.loop0 (σ := Unit) (f := fun k _ i => steeplelaw27_words.l58 k l long i) l.length (fun _ i => ∀ j, j < i → ((List.length (l.getD j []) : Nat) : Int) ≤ long) () (fun j h => absurd h (by omega)) fun s i hi hI ih => ?_
  refine T.eq (steeplelaw27_words.l58_eq · l long i) (T.ite (fun h => ?_) (fun h => ?_))
  · have hlt := lt_dec h
    refine T.yes (inB_nat hlt) (T.ite (fun h => T.pure fun h => by cases h) (fun h => ?_))
    have hc : ¬ ((List.length (l.getD i []) : Nat) : Int) > long := of_decide_eq_false h
    rw [inc (by omega)]
    refine ih () hlt fun j hj => ?_
    by_cases e : j = i
    · subst e; omega
    · exact hI j (by omega)
  · have hge := nlt_dec h
    have hall : ∀ c ∈ l, ((List.length c : Nat) : Int) ≤ long := fun c hc => by
      obtain ⟨j, hj, rfl⟩ := mem_getD [] hc
      exact hI j (by omega)
    exact T.pure fun _ => ⟨⟨by omega, fun c hc => by have := hall c hc; omega⟩, by omega, hall⟩
theorem bitsEq_T (a b : List Bool) (h : a = b) (hl : a.length ≤ 100000000) : T (fun k => steeplelaw27_bits.f k a b) (fun r => r = true) := by
  subst h
  refine T.eq (steeplelaw27_bits.f_eq · a a) (T.no (by simp) ?_)
  refine T.loop0 (σ := Unit) (f := fun k _ i => steeplelaw27_bits.l58 k a a i) a.length (fun _ i => True) () trivial fun s i hi hI ih => ?_
  refine T.eq (steeplelaw27_bits.l58_eq · a a i) (T.ite (fun h => ?_) (fun h => T.pure rfl))
  have hlt := lt_dec h
  rw [inc (by omega)]
  exact T.yes (inB_nat hlt) (T.yes (inB_nat hlt) (T.no (by simp) (ih () hlt trivial)))
theorem awake27_ev (k : Nat) : steeplelaw27_awake.f (k + 100) = some true := by kernel_rfl
theorem awake27_T : T (fun k => steeplelaw27_awake.f k) (fun b => b = true) := ⟨true, rfl, 100, fun k hk => by obtain ⟨j, rfl⟩ := Nat.exists_eq_add_of_le hk; rw [Nat.add_comm]; exact awake27_ev j⟩
theorem wireL_len {x : Sy} (hx : Sz x) {col : List Int} (kind s : Int) (h : col.length ≤ 100000) : (wireL x col kind s).length ≤ 100000 * 32 := by
  have hn := p2w (w := x.1.toNat) (by have := hx.w0; have := hx.w1; omega)
  unfold wireL
  rw [flat_len (n := 2 ^ x.1.toNat) _ fun _ => bitsL_len _ _]
  exact Nat.mul_le_mul h (by omega)
theorem toE_at (b : List Bool) {j : Nat} (h : j < b.length) : (b.map toE).getD j z = toE (b.getD j false) := by simp [List.getD_eq_getElem?_getD, List.getElem?_map, List.getElem?_eq_getElem h]
theorem wires_law (x : Sy) (l : List (List Int)) (c : O) (hr : rngW l) : T (fun k => steeplelaw27_WitnessWires.f k x l c) (fun b => b = true) := by
  have aw := awake27_T
  refine T.eq (steeplelaw27_WitnessWires.f_eq · x l c) (T.bind (few_T x) fun b1 hb1 => T.ite (fun _ => T.bind aw fun a ha => T.pure ha) (fun h1 => T.bind (words_T l 40 8 (by omega) (by omega)) fun b2 hb2 => T.ite (fun _ => T.bind aw fun a ha => T.pure ha) (fun h2 => ?_)))
  obtain ⟨hg, hg2⟩ := hb1 (by simpa using h1)
  obtain ⟨hl, hl1, hl2⟩ := hb2 (by simpa using h2)
  have hg' : (gts x).length ≤ 1000 := by omega
  obtain ⟨W, hW, hWE⟩ := wires_T x hg'
  refine T.bind (ref_T x hg') fun y hy => ?_
  subst hy
  have hWlen : askE y l = 0 → W.1.length ≤ 2000 ∧ (W.2 = 0 ∨ W.2 = 2) ∧ (W.2 ≠ 0 → W.1 = []) ∧ ∀ w ∈ W.1, okW y w := fun h0 => by
    obtain ⟨a, b, c, d⟩ := hW (ask_zero h0).1
    exact ⟨b, c, d, a⟩
  have tail : ∀ want : Int, want = askE y l → T (fun k => (witness_Tables.f k y l).bind fun t => (steepleref25_Check.f k y).bind fun _ => steeplelaw27_WitnessWires.l255 k l y c y (wireE y l c).1 (wireE y l c).2 t.1 t.2 want) (fun b => b = true) := fun want hw => by
    by_cases h0 : askE y l = 0
    · obtain ⟨w1, w2, w3, w4⟩ := hWlen h0
      obtain ⟨hc, hf⟩ := ask_zero h0
      have hx := (chk_ok hc).1
      obtain ⟨f1, f2, f3⟩ := fits_zero hf
      refine T.bind (tables_T y l hg' hl hr hWE w1) fun t ht => T.bind (rcheck_T y hg') fun _ _ => ?_
      rw [hw, h0]
      refine T.eq (steeplelaw27_WitnessWires.l255_eq · _ _ _ _ _ _ _ _ _) (T.no (by simp) (T.bind (Ev.T hWE) fun V hV => ?_))
      subst hV
      have ht2 : t.2 = V.2 := by
        by_cases e : V.2 = 0
        · rw [ht.2.2 h0 e]; exact e.symm
        · rw [ht.2.1 h0 e]
      have ht1 : t.1 = V.1.map fun c => (wireE y l c).1.map toE := by
        by_cases e : V.2 = 0
        · rw [ht.2.2 h0 e]
        · rw [ht.2.1 h0 e, w3 e]; rfl
      have htl : t.1.length = V.1.length := by rw [ht1, List.length_map]
      refine T.no (by rw [ht2]; simp) (T.no (by rw [htl]; simp) ?_)
      have hwe : ∀ w ∈ V.1, (wireE y l w).1 = wireL y (l.getD w.1.toNat []) w.2.1 w.2.2.1 ∧ w.1.toNat < l.length ∧ 0 ≤ w.1 := fun w hw => by
        obtain ⟨o1, o2, o3⟩ := w4 w hw
        refine ⟨?_, by omega, o1⟩
        unfold wireE
        rw [if_neg (by rw [h0]; simp), if_neg (by omega), if_neg (by rw [o3]; simp)]
      refine T.loop0 (σ := Unit) (f := fun k _ i => steeplelaw27_WitnessWires.l16378 k l y c y (wireE y l c).1 (wireE y l c).2 t.1 V.1 i) t.1.length (fun _ _ => True) () trivial fun _ i hi _ ih => ?_
      refine T.eq (steeplelaw27_WitnessWires.l16378_eq · _ _ _ _ _ _ _ _ _) (T.ite (fun h => ?_) (fun h => ?_))
      · have hlt := lt_dec h
        have hltV : i < V.1.length := by omega
        have hmem : V.1.getD i zo ∈ V.1 := getD_mem hltV
        obtain ⟨e1, e2, e3⟩ := hwe _ hmem
        obtain ⟨o1, o2, o3⟩ := w4 _ hmem
        have hcol : l.getD (V.1.getD i zo).1.toNat [] ∈ l := getD_mem e2
        refine T.yes (inB_nat hltV) (T.yes (inB_int (i := (V.1.getD i zo).1) e3 (by omega)) (T.yes (inB_nat hltV) (T.yes (inB_nat hltV) (T.bind (rwire_T y (l.getD (V.1.getD i zo).1.toNat []) (V.1.getD i zo).2.1 (V.1.getD i zo).2.2.1 hx (okWd_of hr f3 hcol) (hl.2 _ hcol) o3) fun bs hbs => T.yes (inB_nat hlt) ?_))))
        have hti : t.1.getD i [] = bs.map toE := by
          rw [ht1, List.getD_eq_getElem?_getD, List.getElem?_map, List.getElem?_eq_getElem hltV]
          show (wireE y l V.1[i]).1.map toE = _
          have : V.1[i] = V.1.getD i zo := by rw [List.getD_eq_getElem?_getD, List.getElem?_eq_getElem hltV]; rfl
          rw [this, e1, hbs]
        have hbl : bs.length ≤ 100000 * 32 := by rw [hbs]; exact wireL_len hx _ _ (hl.2 _ hcol)
        refine T.no (by simp only [Int.toNat_natCast]; rw [hti]; simp) ?_
        refine T.loop0 (σ := Unit) (f := fun k _ j => steeplelaw27_WitnessWires.l4192846 k l y c y (wireE y l c).1 (wireE y l c).2 t.1 V.1 (i : Int) bs j) bs.length (fun _ _ => True) () trivial fun _ j hj _ ih2 => ?_
        refine T.eq (steeplelaw27_WitnessWires.l4192846_eq · _ _ _ _ _ _ _ _ _ _ _) (T.ite (fun h => ?_) (fun h => ?_))
        · have hjl := lt_dec h
          have hjt : j < List.length (t.1.getD i []) := by rw [hti, List.length_map]; exact hjl
          have he : (t.1.getD i []).getD j z = toE (bs.getD j false) := by rw [hti]; exact toE_at bs hjl
          have hz : (0, 0, ()) = z := rfl
          simp only [Int.toNat_natCast, hz]
          refine T.yes (inB_nat hlt) (T.yes (inB_nat hjt) (T.yes (inB_nat hjl) (T.no ?_ (T.yes (inB_nat hlt) (T.yes (inB_nat hjt) (T.yes (inB_nat hjl) (T.no ?_ ?_)))))))
          · rw [he]; unfold toE; cases bs.getD j false <;> rfl
          · rw [he]; unfold toE; cases bs.getD j false <;> rfl
          · rw [inc (by omega)]; exact ih2 () hjl trivial
        · rw [inc (by omega)]; exact ih () hlt trivial
      · refine T.ite (fun h => T.bind aw fun a ha => T.yes ha ?_) (fun h3 => T.ite (fun h => T.bind aw fun a ha => T.yes ha ?_) (fun h4 => T.bind (rfits_T _ _ _) fun q hq => T.ite (fun h => T.bind aw fun a ha => T.yes ha ?_) (fun h5 => T.bind aw fun a ha => T.yes ha ?_)))
        · have e : wireE y l c = ([], 4) := by unfold wireE; rw [if_neg (by rw [h0]; simp), if_pos (.inl (of_decide_eq_true h))]
          rw [e]; exact T.yes rfl (T.pure rfl)
        · have e : wireE y l c = ([], 4) := by unfold wireE; rw [if_neg (by rw [h0]; simp), if_pos (.inr (of_decide_eq_true h))]
          rw [e]; exact T.yes rfl (T.pure rfl)
        · have g3 : ¬ c.1 < 0 := of_decide_eq_false h3
          have g4 : ¬ c.1 ≥ (l.length : Int) := of_decide_eq_false h4
          have e : wireE y l c = ([], 1) := by unfold wireE; rw [if_neg (by rw [h0]; simp), if_neg (by omega), if_pos (by rw [← hq]; simpa using h)]
          rw [e]; exact T.yes rfl (T.pure rfl)
        · have g3 : ¬ c.1 < 0 := of_decide_eq_false h3
          have g4 : ¬ c.1 ≥ (l.length : Int) := of_decide_eq_false h4
          have hfit : fitB c.2.1 y.1 c.2.2.1 = true := by rw [← hq]; simpa using h5
          have e : wireE y l c = (wireL y (l.getD c.1.toNat []) c.2.1 c.2.2.1, 0) := by unfold wireE; rw [if_neg (by rw [h0]; simp), if_neg (by omega), if_neg (by rw [hfit]; simp)]
          have hcol : l.getD c.1.toNat [] ∈ l := getD_mem (by omega)
          rw [e]
          refine T.yes rfl (T.yes (inB_int (by omega) (by omega)) (T.bind (rwire_T y (l.getD c.1.toNat []) c.2.1 c.2.2.1 hx (okWd_of hr f3 hcol) (hl.2 _ hcol) hfit) fun bs hbs => T.bind (bitsEq_T _ bs hbs.symm (by have := wireL_len hx c.2.1 c.2.2.1 (hl.2 _ hcol); show (wireL y (l.getD c.1.toNat []) c.2.1 c.2.2.1).length ≤ _; omega)) fun r hr => T.pure hr))
    · have ht : T (fun k => witness_Tables.f k y l) (fun r => r = ([], askE y l)) := by
        refine T.eq (witness_Tables.f_eq · y l) (T.bind (wask_T y l hg' hl) fun t ht => T.yes (by rw [ht]; simpa using h0) (T.pure (by rw [ht])))
      refine T.bind ht fun t ht => T.bind (rcheck_T y hg') fun _ _ => ?_
      have e : wireE y l c = ([], askE y l) := by unfold wireE; rw [if_pos h0]
      rw [e, hw, ht]
      refine T.eq (steeplelaw27_WitnessWires.l255_eq · _ _ _ _ _ _ _ _ _) (T.yes (by simpa using h0) (T.bind aw fun a ha => T.yes ha (T.yes (by simp) (T.yes (by simp) (T.pure rfl)))))
  refine T.bind (cwire_T y l c hg' hl hr) fun wv hwv => ?_
  subst hwv
  by_cases hck : (chk y).2 = 0
  · have hx := (chk_ok hck).1
    have ha : askE y l = fitsE y l (pw y.2.2.1) := by unfold askE; rw [if_neg (by rw [hck]; simp)]
    have hT := tail (askE y l) rfl
    obtain ⟨b, hb, K, hK⟩ := hT
    subst hb
    obtain ⟨t, _, K2, hK2⟩ : T (fun k => witness_Tables.f k y l) (fun _ => True) := by
      by_cases h0 : askE y l = 0
      · exact (tables_T y l hg' hl hr hWE (hWlen h0).1).mono fun _ _ => trivial
      · exact T.eq (witness_Tables.f_eq · y l) (T.bind (wask_T y l hg' hl) fun t ht => T.yes (by rw [ht]; simpa using h0) (T.pure trivial))
    refine T.bind (p := fun r => r = t) ⟨t, rfl, K2, hK2⟩ fun t' ht' => T.bind (rcheck_T y hg') fun e he => T.yes (by rw [he, hck]; rfl) (T.bind (two_int hx.c0 (by have := hx.c1; omega)) fun n hn => ?_)
    subst ht'; subst hn
    refine T.bind (rfits27_T y l _ hx hl hr) fun f hf => ?_
    rw [hf, ← ha]
    obtain ⟨e2, he2, K3, hK3⟩ := rcheck_T y hg'
    refine ⟨true, rfl, K + K2 + K3, fun k hk => ?_⟩
    have h1 := hK k (by omega)
    have h2 := hK2 k (by omega)
    have h3 := hK3 k (by omega)
    dsimp only at h1 h2 h3
    rw [h2, Option.bind_some, h3, Option.bind_some] at h1
    exact h1
  · have ha : askE y l = (chk y).2 := by unfold askE; rw [if_pos hck]
    have ht : T (fun k => witness_Tables.f k y l) (fun r => r = ([], askE y l)) := by
      refine T.eq (witness_Tables.f_eq · y l) (T.bind (wask_T y l hg' hl) fun t ht => T.yes (by rw [ht, ha]; simpa using hck) (T.pure (by rw [ht])))
    refine T.bind ht fun t ht => T.bind (rcheck_T y hg') fun e he => T.no (by rw [he]; simpa using hck) ?_
    have e : wireE y l c = ([], askE y l) := by unfold wireE; rw [if_pos (by rw [ha]; exact hck)]
    rw [e, he, ht, ha]
    refine T.eq (steeplelaw27_WitnessWires.l255_eq · _ _ _ _ _ _ _ _ _) (T.yes (by simpa using hck) (T.bind aw fun a ha => T.yes ha (T.yes (by simp) (T.yes (by simp) (T.pure rfl)))))
end Go.Proofs.Ytlmcalffemklnaa.H1
namespace Go.Proofs.Ytlmcalffemklnaa.H1
open Go Go.Proofs.Ytlmcalffemklnaa.Rf
abbrev TUUs : Ty := .sl false (.sl false U)
theorem rng_of {n : Int} (h : (Lit.int .u64 n).wf = true) : rng n := by
  simp [Lit.wf, IntKind.min, IntKind.max, IntKind.signed, IntKind.bits] at h
  exact ⟨by omega, by omega⟩
theorem rngW_of {l : List (List Int)} (h : okD TUUs l) : rngW l := fun c hc w hw => rng_of ((h.2 c hc).2 w hw)
theorem witnessWires_T (x : Sy) (l : List (List Int)) (c : O) (h : okD TUUs l) : T (fun k => steeplelaw27_WitnessWires.f k x l c) (fun b => b = true) := wires_law x l c (rngW_of h)
end Go.Proofs.Ytlmcalffemklnaa.H1
