import Derived.Test.YthiiodgpdoljoaaPLcx5
import Derived.Test.YthiiodgpdoljoaaPLcx7
import Derived.Test.YthiiodgpdoljoaaPLcx8
import Derived.Test.YthiiodgpdoljoaaPLcx20
import Derived.Test.YthiiodgpdoljoaaPLcx21
namespace Go.Proofs.Ythiiodgpdoljoaa.Pure
open Go.RowKit Go.Proofs.Ythiiodgpdoljoaa.PLc Go.Proofs.YthiiodgpdoljoaaW.PrintWords Go.Proofs.YthiiodgpdoljoaaW.PrintLast
set_option linter.unusedVariables false
set_option linter.unusedSimpArgs false

def p2 (n : Int) : Int := 2 ^ n.toNat
theorem p2_cases {n : Int} (h0 : 0 ≤ n) (h6 : n ≤ 6) : (n = 0 ∧ p2 n = 1) ∨ (n = 1 ∧ p2 n = 2) ∨ (n = 2 ∧ p2 n = 4) ∨ (n = 3 ∧ p2 n = 8) ∨ (n = 4 ∧ p2 n = 16) ∨ (n = 5 ∧ p2 n = 32) ∨ (n = 6 ∧ p2 n = 64) := by
  have : n = 0 ∨ n = 1 ∨ n = 2 ∨ n = 3 ∨ n = 4 ∨ n = 5 ∨ n = 6 := by omega
  rcases this with rfl | rfl | rfl | rfl | rfl | rfl | rfl <;> simp [p2]
theorem p2_bound {n : Int} (h0 : 0 ≤ n) (h6 : n ≤ 6) : 1 ≤ p2 n ∧ p2 n ≤ 64 := by
  rcases p2_cases h0 h6 with h | h | h | h | h | h | h <;> omega
theorem shl_p2 {n : Int} (h0 : 0 ≤ n) (h6 : n ≤ 6) : shl .i64 1 n = p2 n := by
  have : n = 0 ∨ n = 1 ∨ n = 2 ∨ n = 3 ∨ n = 4 ∨ n = 5 ∨ n = 6 := by omega
  rcases this with rfl | rfl | rfl | rfl | rfl | rfl | rfl <;> decide
def fits (kind w s : Int) : Bool := decide (0 ≤ kind ∧ kind ≤ 3 ∧ 0 ≤ w ∧ w ≤ 6 ∧ 0 ≤ s ∧ s < p2 w ∧ (kind = 0 → s = 0))
theorem turnFits (kind w s : Int) : turn_Fits.f kind w s = some (fits kind w s) := by
  unfold turn_Fits.f fits
  by_cases h1 : kind ≥ 0 <;> by_cases h2 : kind ≤ 3 <;> by_cases h3 : w ≥ 0 <;> by_cases h4 : w ≤ 6 <;> by_cases h5 : s ≥ 0 <;> simp [h1, h2, h3, h4, h5]
  rw [shl_p2 h3 h4]
  by_cases h6 : s < p2 w <;> by_cases h7 : kind = 0 <;> simp [h6, h7]
  rfl
def gErr (wide cols : Int) (g : S105) (n : Int) : Int :=
  if g.f0 < 1 ∨ 8 < g.f0 then 3
  else if (¬ (g.f0 = 1 ∨ g.f0 = 2 ∨ g.f0 = 7 ∨ g.f0 = 8) ∧ g.f3 ≠ 0) ∨ (g.f0 = 8 ∧ g.f1 ≠ 0) ∨ (¬ (4 ≤ g.f0 ∧ g.f0 ≤ 6) ∧ g.f0 ≠ 7 ∧ g.f4 ≠ 0) then 3
  else if g.f2 < 0 ∨ n ≤ g.f2 ∨ ((g.f0 = 1 ∨ g.f0 = 2 ∨ g.f0 = 7 ∨ g.f0 = 8) ∧ (g.f3 < 0 ∨ n ≤ g.f3)) then 4
  else if (4 ≤ g.f0 ∧ g.f0 ≤ 6) ∧ fits (g.f0 - 3) wide g.f4 = false then 1
  else if (g.f0 ≠ 8 ∧ g.f1 ≠ n) ∨ (g.f0 = 7 ∧ g.f4 ≠ n + 1) then 3
  else if n + (if g.f0 = 8 then 0 else if g.f0 = 7 then 2 else 1) > p2 cols then 2 else 0
def makes (k : Int) : Int := if k = 8 then 0 else if k = 7 then 2 else 1
theorem w64 {x : Int} (h0 : -1000000 ≤ x) (h1 : x ≤ 1000000) : wrap64 x = x := by unfold wrap64; omega
theorem gateSpec (m : Nat) (wide rows cols pub priv : Int) (l : List S105) (g : S105) (n : Int) (hw : 0 ≤ wide) (hw5 : wide ≤ 5) (hc : 0 ≤ cols) (hc6 : cols ≤ 6) (hn : 0 ≤ n) (hn2 : n ≤ 64) :
    circuit_gate.f (m + 12) wide rows cols pub priv l g.f0 g.f1 g.f2 g.f3 g.f4 n = some (if gErr wide cols g n = 0 then (n + makes g.f0, 0) else (0, gErr wide cols g n)) := by
  obtain ⟨f0, f1, f2, f3, f4⟩ := g
  have hs := shl_p2 hc hc6
  have hb := p2_bound hc hc6
  have e1 := w64 (x := n + 1) (by omega) (by omega)
  have e2 := w64 (x := n + 1 + 1) (by omega) (by omega)
  have hf : f0 < 1 ∨ 8 < f0 ∨ f0 = 1 ∨ f0 = 2 ∨ f0 = 3 ∨ f0 = 4 ∨ f0 = 5 ∨ f0 = 6 ∨ f0 = 7 ∨ f0 = 8 := by omega
  rcases hf with h | h | rfl | rfl | rfl | rfl | rfl | rfl | rfl | rfl
  · have a1 : ¬ f0 = 7 := by omega
    have a2 : ¬ f0 = 1 := by omega
    have a3 : (f0 == 2) = false := by simp; omega
    have a4 : ¬ f0 = 8 := by omega
    have a5 : ¬ f0 = 4 := by omega
    have a6 : ¬ f0 = 5 := by omega
    have a7 : (f0 == 6) = false := by simp; omega
    have a8 : ¬ f0 = 3 := by omega
    have a9 : ¬ f0 = 6 := by omega
    simp [circuit_gate.f, circuit_needs.f, circuit_needs.j0, circuit_needs.j1, circuit_turned.f, circuit_gate.j0, gErr, a1, a2, a3, a4, a5, a6, a7, a8, a9, h]
  · have a1 : ¬ f0 = 7 := by omega
    have a2 : ¬ f0 = 1 := by omega
    have a3 : (f0 == 2) = false := by simp; omega
    have a4 : ¬ f0 = 8 := by omega
    have a5 : ¬ f0 = 4 := by omega
    have a6 : ¬ f0 = 5 := by omega
    have a7 : (f0 == 6) = false := by simp; omega
    have a8 : ¬ f0 = 3 := by omega
    have a9 : ¬ f0 = 6 := by omega
    have a0 : ¬ f0 < 1 := by omega
    simp [circuit_gate.f, circuit_needs.f, circuit_needs.j0, circuit_needs.j1, circuit_turned.f, circuit_gate.j0, gErr, a1, a2, a3, a4, a5, a6, a7, a8, a9, a0, h]
  all_goals simp [circuit_gate.f, circuit_needs.f, circuit_needs.j0, circuit_needs.j1, circuit_turned.f, circuit_gate.j0, circuit_gate.j1, circuit_gate.j2, circuit_gate.j3, circuit_gate.j4, turnFits, hs, e1, e2, gErr, makes, hc]
  all_goals clear hs
  all_goals grind

def walk (wide cols : Int) : List S105 → Int → Int × Int
  | [], n => (n, 0)
  | g :: gs, n => if gErr wide cols g n = 0 then walk wide cols gs (n + makes g.f0) else (0, gErr wide cols g n)
theorem gErr_ok {wide cols : Int} {g : S105} {n : Int} (h : gErr wide cols g n = 0) : 1 ≤ g.f0 ∧ g.f0 ≤ 8 ∧ n + makes g.f0 ≤ p2 cols := by
  unfold gErr makes at *
  grind
theorem makes_nonneg (k : Int) : 0 ≤ makes k ∧ makes k ≤ 2 := by unfold makes; grind
theorem rd105 (l : List S105) (i : Nat) (h : i < l.length) : rd_T105 l (i : Int) = l[i] := by simp [rd_T105, List.getD_eq_getElem?_getD, h]
theorem rd106 (l : List S106) (i : Nat) (h : i < l.length) : rd_T106 l (i : Int) = l[i] := by simp [rd_T106, List.getD_eq_getElem?_getD, h]
theorem lookLoop (wide rows cols pub priv : Int) (l : List S105) (hw : 0 ≤ wide) (hw5 : wide ≤ 5) (hc : 0 ≤ cols) (hc6 : cols ≤ 6) (hl : l.length ≤ 1000) (d : Nat) : ∀ (k i : Nat) (n : Int), l.length - i = d → i ≤ l.length → d + 20 < k → 0 ≤ n → n ≤ p2 cols →
    circuit_look.l0 k n l (l.length : Int) (i : Int) wide rows cols pub priv l = some (walk wide cols (l.drop i) n) := by
  have hb := p2_bound hc hc6
  induction d with
  | zero =>
    intro k i n hd hi hk hn hn2
    obtain ⟨k, rfl⟩ : ∃ m, k = m + 1 := ⟨k - 1, by omega⟩
    simp only [circuit_look.l0]
    rw [if_neg (by omega), List.drop_of_length_le (by omega)]
    rfl
  | succ d ih =>
    intro k i n hd hi hk hn hn2
    obtain ⟨k, rfl⟩ : ∃ m, k = m + 12 + 1 := ⟨k - 13, by omega⟩
    have hlt : i < l.length := by omega
    simp only [circuit_look.l0]
    rw [if_pos (by omega), if_pos (by omega), if_pos (by omega), rd105 l i hlt, gateSpec k wide rows cols pub priv l l[i] n hw hw5 hc hc6 hn (by omega)]
    rw [List.drop_eq_getElem_cons hlt]
    simp only [Option.bind_some, walk]
    by_cases he : gErr wide cols l[i] n = 0
    · have h3 := gErr_ok he
      have h4 := makes_nonneg l[i].f0
      simp only [he, if_true]
      rw [w64 (by omega) (by omega)]
      exact ih (k + 12) (i + 1) _ (by omega) (by omega) (by omega) (by omega) (by omega)
    · simp only [he, if_false]
def lookS (wide rows cols pub priv : Int) (l : List S105) : Int × Int :=
  if wide < 0 ∨ 5 < wide ∨ rows < 0 ∨ 4 < rows ∨ cols < 0 ∨ 6 < cols then (0, 1)
  else if pub < 0 ∨ priv < 0 ∨ p2 cols < pub ∨ p2 cols - pub < priv then (0, 1)
  else if 30 < l.length then (0, 2) else walk wide cols l (pub + priv)
theorem lookSpec (m : Nat) (wide rows cols pub priv : Int) (l : List S105) : circuit_look.f (m + 60) wide rows cols pub priv l = some (lookS wide rows cols pub priv l) := by
  unfold lookS
  by_cases h1 : wide < 0 ∨ 5 < wide ∨ rows < 0 ∨ 4 < rows ∨ cols < 0 ∨ 6 < cols
  · rw [if_pos h1]
    simp only [circuit_look.f, circuit_look.j0]
    grind
  · rw [if_neg h1]
    have hc : 0 ≤ cols := by omega
    have hc6 : cols ≤ 6 := by omega
    have hs := shl_p2 hc hc6
    have hb := p2_bound hc hc6
    have hj : circuit_look.f (m + 60) wide rows cols pub priv l = circuit_look.j0 (m + 60) false wide rows cols pub priv l := by
      simp only [circuit_look.f]
      rw [if_neg (by omega), if_neg (by omega), if_neg (by omega), if_neg (by omega), if_neg (by omega)]
      congr 1
      simp; omega
    rw [hj]
    simp only [circuit_look.j0, hs]
    by_cases h2 : pub < 0 ∨ priv < 0 ∨ p2 cols < pub ∨ p2 cols - pub < priv
    · rw [if_pos h2]
      simp only [circuit_look.j1]
      by_cases a1 : pub < 0
      · simp [a1]
      · by_cases a2 : priv < 0
        · simp [a1, a2]
        · by_cases a3 : p2 cols < pub
          · simp [a1, a2, a3, hc]
          · have : wrap64 (p2 cols - pub) = p2 cols - pub := w64 (by omega) (by omega)
            have a4 : p2 cols - pub < priv := by omega
            simp [a1, a2, a3, hc, this, a4]
    · rw [if_neg h2]
      have e1 : wrap64 (p2 cols - pub) = p2 cols - pub := w64 (by omega) (by omega)
      have e2 : wrap64 (pub + priv) = pub + priv := w64 (by omega) (by omega)
      have a1 : ¬ pub < 0 := by omega
      have a2 : ¬ priv < 0 := by omega
      have a3 : ¬ p2 cols < pub := by omega
      have a4 : ¬ p2 cols - pub < priv := by omega
      simp only [a1, a2, hc, if_false, if_true, gt_iff_lt, a3, e1, a4, decide_false, circuit_look.j1, Bool.false_eq_true, e2]
      by_cases h3 : 30 < l.length
      · rw [if_pos (by omega), if_pos h3]
      · rw [if_neg (by omega), if_neg h3]
        exact lookLoop wide rows cols pub priv l (by omega) (by omega) hc hc6 (by omega) l.length _ 0 (pub + priv) (by omega) (by omega) (by omega) (by omega) (by omega)
end Go.Proofs.Ythiiodgpdoljoaa.Pure
