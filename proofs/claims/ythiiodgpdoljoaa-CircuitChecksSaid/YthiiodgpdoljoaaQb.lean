import Derived.Test.YthiiodgpdoljoaaQa
import Derived.Test.YthiiodgpdoljoaaPLcx17
import Derived.Test.YthiiodgpdoljoaaPLcx31
namespace Go.Proofs.Ythiiodgpdoljoaa.Pure
open Go.RowKit Go.Proofs.Ythiiodgpdoljoaa.PLc Go.Proofs.YthiiodgpdoljoaaW.PrintWords Go.Proofs.YthiiodgpdoljoaaW.PrintLast
set_option linter.unusedVariables false
set_option linter.unusedSimpArgs false
theorem two_p2 (m : Nat) {n : Int} (h0 : 0 ≤ n) (h6 : n ≤ 6) : steepleref15_Two.f (m + 9) n = some (p2 n) := by
  have : n = 0 ∨ n = 1 ∨ n = 2 ∨ n = 3 ∨ n = 4 ∨ n = 5 ∨ n = 6 := by omega
  rcases this with rfl | rfl | rfl | rfl | rfl | rfl | rfl <;> simp [steepleref15_Two.f, steepleref15_Two.l0, p2, wrap64]
theorem refFits (m : Nat) (kind w s : Int) : steepleref18_Fits.f (m + 9) kind w s = some (fits kind w s) := by
  unfold steepleref18_Fits.f fits
  by_cases h1 : kind < 0
  · simp [h1]; omega
  · by_cases h2 : kind > 3
    · simp [h1, h2]; omega
    · by_cases h3 : w < 0
      · simp [h1, h2, h3]; omega
      · by_cases h4 : w > 6
        · simp [h1, h2, h3, h4]; omega
        · by_cases h5 : s < 0
          · simp [h1, h2, h3, h4, h5]; omega
          · rw [if_neg h1, if_neg h2, if_neg h3, if_neg h4, if_neg h5, two_p2 m (by omega) (by omega)]
            simp only [Option.bind_some]
            grind
def toG (g : S105) : S106 := ⟨g.f0, g.f1, g.f2, g.f3, g.f4⟩
theorem refGate (m : Nat) (wide rows cols pub priv : Int) (l : List S106) (g : S105) (n : Int) (hw : 0 ≤ wide) (hw5 : wide ≤ 5) (hc : 0 ≤ cols) (hc6 : cols ≤ 6) (hn : 0 ≤ n) (hn2 : n ≤ 64) :
    steepleref25_System_Gate.f (m + 20) wide rows cols pub priv l g.f0 g.f1 g.f2 g.f3 g.f4 n = some (gErr wide cols g n) := by
  obtain ⟨f0, f1, f2, f3, f4⟩ := g
  have hb := p2_bound hc hc6
  have e0 : wrap64 n = n := w64 (by omega) (by omega)
  have e1 : wrap64 (n + 1) = n + 1 := w64 (by omega) (by omega)
  have e2 : wrap64 (n + 2) = n + 2 := w64 (by omega) (by omega)
  have g0 : steepleref15_Two.f (m + 15) cols = some (p2 cols) := two_p2 (m + 6) hc hc6
  have g1 : ∀ a b c, steepleref18_Fits.f (m + 17) a b c = some (fits a b c) := refFits (m + 8)
  have v1 : wrap64 1 = 1 := w64 (by omega) (by omega)
  have v2 : wrap64 2 = 2 := w64 (by omega) (by omega)
  have v3 : wrap64 3 = 3 := w64 (by omega) (by omega)
  have hf : f0 < 1 ∨ 8 < f0 ∨ f0 = 1 ∨ f0 = 2 ∨ f0 = 3 ∨ f0 = 4 ∨ f0 = 5 ∨ f0 = 6 ∨ f0 = 7 ∨ f0 = 8 := by omega
  rcases hf with h | h | rfl | rfl | rfl | rfl | rfl | rfl | rfl | rfl
  · simp [steepleref25_System_Gate.f, steepleref25_System_Gate.j0, gErr, h]
  · have a0 : ¬ f0 < 1 := by omega
    simp [steepleref25_System_Gate.f, steepleref25_System_Gate.j0, gErr, h, a0]
  all_goals simp [steepleref25_System_Gate.f, steepleref25_System_Gate.j0, steepleref25_System_Gate.j1, steepleref25_System_Gate.j2, steepleref25_System_Gate.j3, steepleref25_System_Gate.j4, steepleref25_two.f, steepleref25_shifts.f, steepleref25_Makes.f, gErr, g0, g1, e0, e1, e2, v1, v2, v3]
  all_goals clear g0 g1 e0 e1 e2 v1 v2 v3
  all_goals grind
theorem refGate106 (m : Nat) (wide rows cols pub priv : Int) (l : List S106) (g : S105) (n : Int) (hw : 0 ≤ wide) (hw5 : wide ≤ 5) (hc : 0 ≤ cols) (hc6 : cols ≤ 6) (hn : 0 ≤ n) (hn2 : n ≤ 64) :
    steepleref25_System_Gate.f (m + 20) wide rows cols pub priv l (toG g).f0 (toG g).f1 (toG g).f2 (toG g).f3 (toG g).f4 n = some (gErr wide cols g n) := refGate m wide rows cols pub priv l g n hw hw5 hc hc6 hn hn2
theorem refMakes (g : S105) : steepleref25_Makes.f (toG g).f0 (toG g).f1 (toG g).f2 (toG g).f3 (toG g).f4 = some (makes g.f0) := by
  unfold steepleref25_Makes.f makes toG; grind
theorem refLoop (wide rows cols pub priv : Int) (l : List S105) (hw : 0 ≤ wide) (hw5 : wide ≤ 5) (hc : 0 ≤ cols) (hc6 : cols ≤ 6) (hl : l.length ≤ 1000) (d : Nat) : ∀ (k i : Nat) (n : Int), l.length - i = d → i ≤ l.length → d + 30 < k → 0 ≤ n → n ≤ p2 cols →
    steepleref25_Check.l0 k n (i : Int) wide rows cols pub priv (l.map toG) = some (walk wide cols (l.drop i) n).2 := by
  have hb := p2_bound hc hc6
  induction d with
  | zero =>
    intro k i n hd hi hk hn hn2
    obtain ⟨k, rfl⟩ : ∃ m, k = m + 1 := ⟨k - 1, by omega⟩
    simp only [steepleref25_Check.l0, List.length_map]
    rw [if_neg (by omega), List.drop_of_length_le (by omega)]
    rfl
  | succ d ih =>
    intro k i n hd hi hk hn hn2
    obtain ⟨k, rfl⟩ : ∃ m, k = m + 1 := ⟨k - 1, by omega⟩
    obtain ⟨m, hm⟩ : ∃ m, k = m + 20 := ⟨k - 20, by omega⟩
    have hlt : i < l.length := by omega
    have hr : rd_T106 (l.map toG) (i : Int) = toG l[i] := by rw [rd106 _ i (by simpa using hlt)]; simp
    have hG := refGate106 m wide rows cols pub priv (l.map toG) l[i] n hw hw5 hc hc6 hn (by omega)
    rw [← hm] at hG
    simp only [steepleref25_Check.l0, List.length_map]
    rw [if_pos (by omega), if_pos (by omega), hr, hG]
    rw [List.drop_eq_getElem_cons hlt]
    simp only [Option.bind_some, walk, refMakes]
    by_cases he : gErr wide cols l[i] n = 0
    · have h3 := gErr_ok he
      have h4 := makes_nonneg l[i].f0
      simp only [he, if_true]
      rw [w64 (x := n + makes l[i].f0) (by omega) (by omega), w64 (by omega) (by omega)]
      exact ih k (i + 1) _ (by omega) (by omega) (by omega) (by omega) (by omega)
    · simp only [he, if_false]
theorem refCheck (m : Nat) (wide rows cols pub priv : Int) (l : List S105) (hl : l.length ≤ 40) : steepleref25_Check.f (m + 100) wide rows cols pub priv (l.map toG) = some (lookS wide rows cols pub priv l).2 := by
  unfold lookS
  by_cases h1 : wide < 0 ∨ 5 < wide ∨ rows < 0 ∨ 4 < rows ∨ cols < 0 ∨ 6 < cols
  · rw [if_pos h1]
    simp only [steepleref25_Check.f, steepleref25_Check.j0]
    grind
  · rw [if_neg h1]
    have hc : 0 ≤ cols := by omega
    have hc6 : cols ≤ 6 := by omega
    have g0 : steepleref15_Two.f (m + 99) cols = some (p2 cols) := two_p2 (m + 90) hc hc6
    have hb := p2_bound hc hc6
    by_cases hp : pub < 0 ∨ priv < 0
    · rw [if_pos (by omega)]
      simp only [steepleref25_Check.f]
      rw [if_neg (by omega), if_neg (by omega), if_neg (by omega), if_neg (by omega), if_neg (by omega), if_neg (by omega)]
      by_cases a1 : pub < 0
      · rw [if_pos a1]; simp [steepleref25_Check.j0]
      · have a2 : priv < 0 := by omega
        rw [if_neg a1]; simp [steepleref25_Check.j0, a2]
    · have hj : steepleref25_Check.f (m + 100) wide rows cols pub priv (l.map toG) = steepleref25_Check.j0 (m + 100) false wide rows cols pub priv (l.map toG) := by
        simp only [steepleref25_Check.f]
        rw [if_neg (by omega), if_neg (by omega), if_neg (by omega), if_neg (by omega), if_neg (by omega), if_neg (by omega), if_neg (by omega)]
        congr 1
        simp; omega
      rw [hj]
      simp only [steepleref25_Check.j0, g0, Option.bind_some, Bool.false_eq_true, if_false]
      by_cases b1 : pub > 64
      · rw [if_pos b1, if_pos (by omega)]; simp [steepleref25_Check.j1]
      · by_cases b2 : priv > 64
        · rw [if_neg b1, if_pos b2, if_pos (by omega)]; simp [steepleref25_Check.j1]
        · rw [if_neg b1, if_neg b2]
          have e2 : wrap64 (pub + priv) = pub + priv := w64 (by omega) (by omega)
          rw [e2]
          by_cases b3 : pub + priv > p2 cols
          · rw [if_pos (by omega)]; simp [steepleref25_Check.j1, b3]
          · rw [if_neg (by omega)]
            simp only [b3, decide_false, steepleref25_Check.j1, Bool.false_eq_true, if_false, List.length_map, e2]
            by_cases h3 : 30 < l.length
            · rw [if_pos (by omega), if_pos h3]
            · rw [if_neg (by omega), if_neg h3]
              exact refLoop wide rows cols pub priv l (by omega) (by omega) hc hc6 (by omega) l.length _ 0 (pub + priv) (by omega) (by omega) (by omega) (by omega) (by omega)
end Go.Proofs.Ythiiodgpdoljoaa.Pure
