import Derived.Test.YthiiodgpdoljoaaKo2
import Derived.Test.YthiiodgpdoljoaaKo1
import Derived.Test.YthiiodgpdoljoaaKo4
-- Words and walks that the kit's print has laid for this seat, cut down, and our own texts, merged.
namespace Go.Proofs.Ythiiodgpdoljoaa.PLw
open Go.RowKit Go.Proofs.YthiiodgpdoljoaaW.PrintWords Go.Proofs.YthiiodgpdoljoaaW.PrintLast Go.Proofs.YthiiodgpdoljoaaW.PrintMore
attribute [local go_sem] max2_int min2_int max_two min_two max_three min_three max_four min_four   -- for this text's walks alone
set_option linter.unusedVariables false
set_option linter.unusedSimpArgs false
/-! ### circuit_Check: function 21 -/
def circuit_Check.f (k : Nat) (a0_0 : Int) (a0_1 : Int) (a0_2 : Int) (a0_3 : Int) (a0_4 : Int) (l0_5 : List (S105)) : Option (Int) := (circuit_look.f k a0_0 a0_1 a0_2 a0_3 a0_4 l0_5).bind fun bt152 => (some bt152.2)
theorem circuit_Check.mono : ∀ a0 a1 a2 a3 a4 a5 k, LeO (circuit_Check.f k a0 a1 a2 a3 a4 a5) (circuit_Check.f (k + 1) a0 a1 a2 a3 a4 a5) := by
 intro a0 a1 a2 a3 a4 a5 k
 unfold circuit_Check.f
 repeat' first
   | (with_reducible exact circuit_look.mono _ _ _ _ _ _ _)
   | (with_reducible exact LeO.refl _)
   | (with_reducible exact LeO.none _)
   | (with_reducible refine LeO.ite ?_ ?_)
   | (with_reducible refine LeO.bind ?_ (fun _ => ?_))
   | exact circuit_look.mono _ _ _ _ _ _ _
   | exact LeO.none _
   | refine LeO.ite ?_ ?_
   | refine LeO.bind ?_ (fun _ => ?_)
set_option maxHeartbeats 8000000 in
set_option maxRecDepth 100000 in
theorem circuit_Check.calls (k : Nat) (a0_0 : Int) (a0_1 : Int) (a0_2 : Int) (a0_3 : Int) (a0_4 : Int) (A0_5 : Option Addr) (c0_5 : Nat) (l0_5 : List (S105)) (r : Int) (w : World) (hr0_5 : Kd.C k105 w A0_5 l0_5.length l0_5) (hc0_5 : l0_5.length ≤ c0_5) (h : circuit_Check.f k a0_0 a0_1 a0_2 a0_3 a0_4 l0_5 = some r) :
  Calls Try.prog 21 #[.agg #[.int .i64 a0_0, .int .i64 a0_1, .int .i64 a0_2, .int .i64 a0_3, .int .i64 a0_4, .slice A0_5 l0_5.length c0_5]] w fun e w' => e = .returned (.int .i64 r) ∧ Below w.heap.size w w' := by
 have hu24 := Try.underlying24; have HR0_5 := Aside0.mk hr0_5; have HC0_5 := Aside0.mk hc0_5; clear hr0_5 hc0_5; have HB := Aside0.mk (Below.refl w.heap.size w)
 have H : ((circuit_look.f k a0_0 a0_1 a0_2 a0_3 a0_4 l0_5).bind fun bt152 => (some bt152.2)) = some r := h
 clear h; replace H := Option.bind_eq_some_iff.mp H
 obtain ⟨⟨t152, t153⟩, A20, H⟩ := H
 (try dsimp only at H); have A2 := Aside0.mk A20; clear A20; obtain rfl := Option.some.inj H
 go_enter Try.func21, Try.ntmps21
 go_wp2_with (first | ((with_reducible refine gate_dst (N := 1) rfl ?_); refine box_event ?hg (N := 1) ?hd (cs := #[.int .i64 a0_0, .int .i64 a0_1, .int .i64 a0_2, .int .i64 a0_3, .int .i64 a0_4, .slice A0_5 l0_5.length c0_5]) (t := 24) ?hr ?_; (case hd => rfl); (case hg => rfl); (case hr => first | (go_simp; done) | (go_simp; rfl)); intro gb151 hg w3 hbox hb; have n0_ := Aside0.mk (below_step (blA HB.out) hb); have n1_ := Aside0.mk (hbox); have n2_ := Aside0.mk ((by rw [hg]; exact (below_size (blA HB.out)) : w.heap.size ≤ gb151)); have n3_ := Aside0.mk ((by rw [hg]; exact (below_size (blA HB.out)) : w.heap.size ≤ gb151)); clear HB; have HB := n0_; have BK151 := n1_; have GW151 := n2_; have GE151 := n3_; clear n0_ n1_ n2_ n3_; clear hb hbox hg; have hcz4 := fun i => blk_cell BK151.out i; have hfz4 := fun i => blk_frozen BK151.out i; ) | ((with_reducible refine gate_callee (f := 64) rfl ?_); refine goesL_ (some 7) rfl rfl Try.func64 (by kernel_rfl) rfl #[.agg #[.int .i64 a0_0, .int .i64 a0_1, .int .i64 a0_2, .int .i64 a0_3, .int .i64 a0_4, .slice A0_5 l0_5.length c0_5]] rfl gsA ?_; (with_reducible refine (circuit_look.calls k a0_0 a0_1 a0_2 a0_3 a0_4 _ _ l0_5 t152 t153 _ ?side1 ?side2 A2.out).mono ?_); (case side1 => repeat (first | exact (Kd.C_below HR0_5.out HB.out) | (with_reducible refine Kd.C_alloc ?_ _) | (with_reducible refine Kd.C_drewN ?_ _) | (with_reducible refine Kd.C_drew ?_))); (case side2 => exact HC0_5.out); rintro e w5 ⟨rfl, hb⟩; refine ⟨_, rfl, ?_⟩; have n0_ := Aside0.mk (blk_below (bkA BK151.out) hb); have n1_ := Aside0.mk (below_step (blA HB.out) hb); clear BK151; clear HB; have BK151 := n0_; have HB := n1_; clear n0_ n1_; (try clear hb)))
 go_ret
 exact ⟨by first | rfl | (simp [errW_none, errW_some] <;> rfl) | (simp [*, errW_none, errW_some] <;> rfl), blA HB.out⟩
-- NOT PRINTED: function 122 (slices_IndexFunc_uint64_uint64)
-- NOT PRINTED: function 95 (slices_ContainsFunc_uint64_uint64)
/-! ### witness_fits: function 65 -/
def witness_most0.f (a0 : Int) : Option (Int) := if 0 ≤ a0 ∧ a0 ≤ 5 then some (2 ^ (2 ^ a0.toNat : Nat) - 1) else none
set_option maxHeartbeats 8000000 in
set_option maxRecDepth 100000 in
theorem witness_most0.calls (a0 : Int) (r : Int) (w : World) (h : witness_most0.f a0 = some r) :
 Calls Try.prog 97 #[.int .i64 a0] w fun e w' => e = .returned (.int .u64 r) ∧ Drawn0 w w' := by
 unfold witness_most0.f at h
 by_cases hc : 0 ≤ a0 ∧ a0 ≤ 5
 ·rw [if_pos hc] at h
  obtain rfl := Option.some.inj h
  have hd : a0 = 0 ∨ a0 = 1 ∨ a0 = 2 ∨ a0 = 3 ∨ a0 = 4 ∨ a0 = 5 := by omega
  clear h hc
  rcases hd with rfl | rfl | rfl | rfl | rfl | rfl
  all_goals
   go_enter Try.func97, Try.ntmps97
   go_wp2
   repeat (go_quiet (fail); try go_wp2)
   go_ret
   exact ⟨rfl, dwA⟩
 ·rw [if_neg hc] at h; cases h
theorem any_take_succ (p : Int → Bool) (l : List Int) (x : Int) (h0 : 0 ≤ x) (h1 : x < l.length) (ha : (l.take x.toNat).any p = false) (hp : p (rd l x) = false) : (l.take (x + 1).toNat).any p = false := by
 have e : (x + 1).toNat = x.toNat + 1 := by omega
 have hlt : x.toNat < l.length := by omega
 have er : rd l x = l[x.toNat] := by simp [rd, List.getD_eq_getElem?_getD, hlt]
 rw [e, List.take_succ_eq_append_getElem hlt, List.any_append, ha, ← er]
 simp [hp]
theorem any_of_take (p : Int → Bool) (l : List Int) (x : Int) (h0 : 0 ≤ x) (h1 : x < l.length) (hp : p (rd l x) = true) : l.any p = true := by
 have hlt : x.toNat < l.length := by omega
 have er : rd l x = l[x.toNat] := by simp [rd, List.getD_eq_getElem?_getD, hlt]
 exact List.any_eq_true.mpr ⟨l[x.toNat], List.getElem_mem hlt, by rw [← er]; exact hp⟩
set_option maxHeartbeats 4000000 in
theorem indexU (lb : Array Value) (p : Int → Bool) (A : Option Addr) (c : Nat) (l : List Int) (w : World) (hr : Kd.C (Kd.int .u64) w A l.length l) (hn : l.length ≤ 1000000)
  (hp : ∀ (W : World) (x : Int), Below w.heap.size w W → Calls Try.prog 96 (#[.int .u64 x] ++ lb) W fun e w' => e = .returned (.bool (p x)) ∧ Below w.heap.size w w') :
  Calls Try.prog 122 #[.slice A l.length c, .func (.func 96) #[] lb] w fun e w' => ∃ r : Int, e = .returned (.int .i64 r) ∧ decide (0 ≤ r) = l.any p ∧ Below w.heap.size w w' := by
 have HR := Aside0.mk hr; clear hr
 have HP := Aside0.mk hp; clear hp
 have HN := Aside0.mk hn; clear hn
 go_enter Try.func122, Try.ntmps122
 go_wp2
 go_loopg [5, 8] l.length (fun gg _ s8 wr => ∃ x : Int, s8 = .int .i64 x ∧ Aside0 (0 ≤ x ∧ x ≤ l.length ∧ (l.length : Int) - x ≤ gg) ∧ Aside0 (Below w.heap.size w wr) ∧ Aside0 ((l.take x.toNat).any p = false))
 case atStart => exact ⟨0, rfl, ⟨by omega, by omega, by omega⟩, ⟨Below.refl _ w⟩, ⟨by simp⟩⟩
 case round =>
  obtain ⟨x, rfl, HX, HB, HA⟩ := hrel
  by_cases hlt : x < (l.length : Int)
  ·have d1 : decide (x < (l.length : Int)) = true := decide_eq_true hlt; have p0 : 0 ≤ x := HX.out.1; obtain ⟨ad, rfl, hx0⟩ := Kd.at_int HR.out x p0 hlt; have hx := clA HB.out hx0; have hcall := HP.out wr (rd l x) HB.out
   have hw : wrap64 (x + 1) = x + 1 := by have := HN.out; unfold wrap64; omega
   have qi : (x.toNat < l.length) = True := eq_true (by omega)
   have HL := Aside0.mk hlt; replace p0 := eq_true p0; replace hlt := eq_true hlt
   cases hq : p (rd l x) with
   | true =>
    rw [hq] at hcall
    go_wp2_with (go_at_call 96; refine hcall.mono ?_; rintro e w' ⟨rfl, hb'⟩)
    go_ret
    exact ⟨x, rfl, by rw [any_of_take p l x HX.out.1 HL.out hq]; exact decide_eq_true HX.out.1, hb'⟩
   | false =>
    rw [hq] at hcall
    go_wp2_with (go_at_call 96; refine hcall.mono ?_; rintro e w' ⟨rfl, hb'⟩)
    go_roundg (l.length - (x + 1).toNat)
    case measure => have := HX.out; have := HL.out; omega
    case rel => exact ⟨x + 1, by first | rfl | (simp [hw]; done) | trace_state, ⟨by have := HX.out; omega, by have := HL.out; omega, by have := HX.out; have := HL.out; omega⟩, ⟨hb'⟩, ⟨any_take_succ p l x HX.out.1 HL.out HA.out hq⟩⟩
  ·have d1 : decide (x < (l.length : Int)) = false := decide_eq_false hlt
   have HL := Aside0.mk hlt; clear hlt
   go_wp2
   go_ret
   exact ⟨-1, rfl, by have h := HA.out; rw [List.take_of_length_le (by have := HL.out; have := HX.out; omega)] at h; rw [h]; rfl, HB.out⟩
theorem containsU (lb : Array Value) (p : Int → Bool) (A : Option Addr) (c : Nat) (l : List Int) (w : World) (hr : Kd.C (Kd.int .u64) w A l.length l) (hn : l.length ≤ 1000000)
  (hp : ∀ (W : World) (x : Int), Below w.heap.size w W → Calls Try.prog 96 (#[.int .u64 x] ++ lb) W fun e w' => e = .returned (.bool (p x)) ∧ Below w.heap.size w w') :
  Calls Try.prog 95 #[.slice A l.length c, .func (.func 96) #[] lb] w fun e w' => e = .returned (.bool (l.any p)) ∧ Below w.heap.size w w' := by
 have hcon := indexU lb p A c l w hr hn hp
 go_enter Try.func95, Try.ntmps95
 go_wp2_with (go_at_call 122; refine hcon.mono ?_; rintro e w' ⟨r, rfl, hd, hb⟩)
 go_ret
 exact ⟨by rw [← hd]; rfl, hb⟩
/-- The closure of fits: is a word greater than the most? -/
theorem fitsPred (wide m : Int) (hm : witness_most0.f wide = some m) (B : Nat) (cs : Array Value) (w : World) (hB : w.heap[B]? = some (.cells cs 24 (0, 0))) (h0 : cs[0]? = some (.int .i64 wide)) :
  ∀ (W : World) (x : Int), Below w.heap.size w W → Calls Try.prog 96 (#[.int .u64 x] ++ #[.pointer (some ⟨B, 0, none⟩)]) W fun e w' => e = .returned (.bool (decide (m < x))) ∧ Below w.heap.size w w' := by
 intro W x hb
 have hlt : B < w.heap.size := blk_lt hB; have hc : W.cell? ⟨B, 0, none⟩ = some (.int .i64 wide) := (hb.cell (p := ⟨B, 0, none⟩) hlt).trans ((blk_cell hB 0).trans h0)
 show Calls Try.prog 96 #[.int .u64 x, .pointer (some ⟨B, 0, none⟩)] W _
 have hcon := fun W => witness_most0.calls wide m W hm
 have HB := Aside0.mk hb; clear hb
 have hu24 := Try.underlying24
 go_enter Try.func96, Try.ntmps96
 go_wp2_with (go_at_call 97; refine (hcon _).mono ?_; rintro e w' ⟨rfl, ⟨nd, rfl⟩⟩)
 go_ret
 exact ⟨rfl, blA HB.out⟩
def colLen (rows : Int) (l : List Int) : Bool := decide ((l.length : Int) = 2 ^ rows.toNat)
def colBig (m : Int) (l : List Int) : Bool := l.any (fun x => decide (m < x))
def fitsF (rows m : Int) (l1 : List (List Int)) (many : Int) : Int := if (l1.length : Int) ≠ many then 6 else if l1.all (colLen rows) = false then 6 else if l1.any (colBig m) = true then 5 else 0
def witness_fits.f (a0 a1 a2 a3 a4 : Int) (l0 : List S105) (l1 : List (List Int)) (many : Int) : Option Int :=
 if 0 ≤ a1 ∧ a1 ≤ 4 ∧ l1.length ≤ 1000000 then (witness_most0.f a0).bind fun m => some (fitsF a1 m l1 many) else none
theorem rdL4_eq (l : List (List Int)) (x : Int) (h0 : 0 ≤ x) (h1 : x < l.length) : ∃ h : x.toNat < l.length, rd_L4 l x = l[x.toNat] := by
 have hlt : x.toNat < l.length := by omega
 exact ⟨hlt, by simp [rd_L4, List.getD_eq_getElem?_getD, hlt]⟩
theorem take_succ_L4 (l : List (List Int)) (x : Int) (h0 : 0 ≤ x) (h1 : x < l.length) : l.take (x + 1).toNat = l.take x.toNat ++ [rd_L4 l x] := by
 obtain ⟨hlt, e⟩ := rdL4_eq l x h0 h1
 rw [e, show (x + 1).toNat = x.toNat + 1 from by omega, List.take_succ_eq_append_getElem hlt]
theorem mem_L4 (l : List (List Int)) (x : Int) (h0 : 0 ≤ x) (h1 : x < l.length) : rd_L4 l x ∈ l := by
 obtain ⟨hlt, e⟩ := rdL4_eq l x h0 h1
 rw [e]; exact List.getElem_mem hlt
set_option maxHeartbeats 8000000 in
set_option maxRecDepth 100000 in
theorem witness_fits.calls (a0 a1 a2 a3 a4 : Int) (A0 : Option Addr) (c0 : Nat) (l0 : List S105) (A1 : Option Addr) (c1 : Nat) (l1 : List (List Int)) (many : Int) (r : Int) (w : World) (hr0 : Kd.C k105 w A0 l0.length l0) (hc0 : l0.length ≤ c0) (hr1 : Kd.C (Kd.slice 43 (Kd.int .u64)) w A1 l1.length l1) (hc1 : l1.length ≤ c1) (h : witness_fits.f a0 a1 a2 a3 a4 l0 l1 many = some r) :
  Calls Try.prog 65 #[.agg #[.int .i64 a0, .int .i64 a1, .int .i64 a2, .int .i64 a3, .int .i64 a4, .slice A0 l0.length c0], .slice A1 l1.length c1, .int .i64 many] w fun e w' => e = .returned (.int .i64 r) ∧ Below w.heap.size w w' := by
 clear hr0 hc0
 unfold witness_fits.f at h
 by_cases hg : 0 ≤ a1 ∧ a1 ≤ 4 ∧ l1.length ≤ 1000000
 case neg => rw [if_neg hg] at h; cases h
 rw [if_pos hg] at h
 obtain ⟨m, hm, h⟩ := Option.bind_eq_some_iff.mp h; obtain rfl := Option.some.inj h; clear h
 obtain ⟨P, hP⟩ : ∃ P : Int, 2 ^ a1.toNat = P := ⟨_, rfl⟩
 have hPs : P = 1 ∨ P = 2 ∨ P = 4 ∨ P = 8 ∨ P = 16 := by
  have : a1 = 0 ∨ a1 = 1 ∨ a1 = 2 ∨ a1 = 3 ∨ a1 = 4 := by omega
  rcases this with rfl | rfl | rfl | rfl | rfl <;> simp_all
 have hPw : IntKind.i64.wrap P = P := by rcases hPs with rfl | rfl | rfl | rfl | rfl <;> rfl
 have s0 : 0 ≤ a1 := hg.1
 have s6 : a1 ≤ 64 := by omega
 have m6 : min a1.toNat 64 = a1.toNat := by omega
 have HN := Aside0.mk hg.2.2; have HP := Aside0.mk hP; have HPs := Aside0.mk hPs; have HM := Aside0.mk hm; clear hg hm hPs; have HR := Aside0.mk hr1; clear hr1; have HB := Aside0.mk (Below.refl w.heap.size w); have hu24 := Try.underlying24
 by_cases c1' : (l1.length : Int) = many
 case neg =>
  have d1 : ((l1.length : Int) != many) = true := bne_iff_ne.mpr c1'
  go_enter Try.func65, Try.ntmps65
  go_wp2_with (first | ((with_reducible refine gate_dst (N := 3) rfl ?_); refine box_event ?hg (N := 3) ?hd (cs := #[.int .i64 a0, .int .i64 a1, .int .i64 a2, .int .i64 a3, .int .i64 a4, .slice A0 l0.length c0]) (t := 24) ?hr ?_; (case hd => rfl); (case hg => rfl); (case hr => first | (go_simp; done) | (go_simp; rfl)); intro gb hg w4 hbox hb; replace HB := Aside0.mk (below_step (blA HB.out) hb); have BK := Aside0.mk hbox; clear hb hbox hg))
  go_ret
  exact ⟨by unfold fitsF; rw [if_pos c1']; rfl, blA HB.out⟩
 subst c1'; have d1 : ((l1.length : Int) != (l1.length : Int)) = false := bne_eq_false_iff_eq.mpr rfl
 go_enter Try.func65, Try.ntmps65
 go_wp2_with (first | ((with_reducible refine gate_dst (N := 3) rfl ?_); refine box_event ?hg (N := 3) ?hd (cs := #[.int .i64 a0, .int .i64 a1, .int .i64 a2, .int .i64 a3, .int .i64 a4, .slice A0 l0.length c0]) (t := 24) ?hr ?_; (case hd => rfl); (case hg => rfl); (case hr => first | (go_simp; done) | (go_simp; rfl)); intro gb hg w4 hbox hb; replace HB := Aside0.mk (below_step (blA HB.out) hb); have BK := Aside0.mk hbox; clear hb hbox hg))
 go_loopg [17] l1.length (fun gg s17 wr => ∃ x : Int, s17 = .int .i64 x ∧ Aside0 (0 ≤ x ∧ x ≤ l1.length ∧ (l1.length : Int) - x ≤ gg) ∧ Aside0 (wr.heap[gb]? = some (.cells #[.int .i64 a0, .int .i64 a1, .int .i64 a2, .int .i64 a3, .int .i64 a4, .slice A0 l0.length c0] 24 (0, 0))) ∧ Aside0 (Below w.heap.size w wr) ∧ Aside0 ((l1.take x.toNat).all (colLen a1) = true))
 case atStart => exact ⟨0, rfl, ⟨by omega, by omega, by omega⟩, ⟨bkA BK.out⟩, ⟨blA HB.out⟩, ⟨by simp⟩⟩
 case round =>
  clear HB BK; obtain ⟨x, rfl, HX, BK, HB, HA⟩ := hrel
  by_cases hlt : x < (l1.length : Int)
  ·have d2 : decide (x < (l1.length : Int)) = true := decide_eq_true hlt; have p0 : 0 ≤ x := HX.out.1; obtain ⟨ad, A2, c2, rfl, hx0, hc2, hC⟩ := at_L4 HR.out x p0 hlt; have hx := clA HB.out hx0
   have hw : wrap64 (x + 1) = x + 1 := by have := HN.out; unfold wrap64; omega
   have qi : (x.toNat < l1.length) = True := eq_true (by omega)
   have HL := Aside0.mk hlt; have HC2 := Aside0.mk hC; clear hC hx0
   have hcz := fun i => blk_cell BK.out i
   have hfz := fun i => blk_frozen BK.out i
   replace p0 := eq_true p0; replace hlt := eq_true hlt
   by_cases hq : ((rd_L4 l1 x).length : Int) = P
   ·have d3 : (((rd_L4 l1 x).length : Int) != P) = false := bne_eq_false_iff_eq.mpr hq
    have HQ := Aside0.mk hq; clear hq
    go_wp2
    go_roundg (l1.length - (x + 1).toNat)
    case measure => have := HX.out; have := HL.out; omega
    case rel => exact ⟨x + 1, by first | rfl | (simp [hw]; done), ⟨by have := HX.out; omega, by have := HL.out; omega, by have := HX.out; have := HL.out; omega⟩, ⟨bkA BK.out⟩, ⟨blA HB.out⟩, ⟨by
     rw [take_succ_L4 l1 x HX.out.1 HL.out, List.all_append, HA.out]
     simp [colLen, HQ.out, HP.out]⟩⟩
   ·have d3 : (((rd_L4 l1 x).length : Int) != P) = true := bne_iff_ne.mpr hq
    have HQ := Aside0.mk hq; clear hq
    go_wp2
    go_ret
    refine ⟨?_, blA HB.out⟩
    have hf : l1.all (colLen a1) = false := by
     rw [List.all_eq_false]
     exact ⟨_, mem_L4 l1 x HX.out.1 HL.out, by simp [colLen, HP.out, HQ.out]⟩
    unfold fitsF
    rw [if_neg (fun h => h rfl), if_pos hf]
    rfl
  ·have d2 : decide (x < (l1.length : Int)) = false := decide_eq_false hlt
   have HA' : Aside0 (l1.all (colLen a1) = true) := ⟨by have h := HA.out; rwa [List.take_of_length_le (by have := HX.out; omega)] at h⟩
   clear HA; have HX1 := HX
   go_wp2
   go_loopg [30] l1.length (fun gg s30 wr2 => ∃ x2 : Int, s30 = .int .i64 x2 ∧ Aside0 (0 ≤ x2 ∧ x2 ≤ l1.length ∧ (l1.length : Int) - x2 ≤ gg) ∧ Aside0 (wr2.heap[gb]? = some (.cells #[.int .i64 a0, .int .i64 a1, .int .i64 a2, .int .i64 a3, .int .i64 a4, .slice A0 l0.length c0] 24 (0, 0))) ∧ Aside0 (Below w.heap.size w wr2) ∧ Aside0 ((l1.take x2.toNat).any (colBig m) = false))
   case atStart => exact ⟨0, rfl, ⟨by omega, by omega, by omega⟩, ⟨bkA BK.out⟩, ⟨blA HB.out⟩, ⟨by simp⟩⟩
   case round =>
    clear HB BK HX; clear d2; obtain ⟨x2, rfl, HX, BK, HB, HA⟩ := hrel
    by_cases hlt2 : x2 < (l1.length : Int)
    ·have d2 : decide (x2 < (l1.length : Int)) = true := decide_eq_true hlt2; have p0 : 0 ≤ x2 := HX.out.1; obtain ⟨ad, A2, c2, rfl, hx0, hc2, hC⟩ := at_L4 HR.out x2 p0 hlt2; have hx := clA HB.out hx0
     have hw : wrap64 (x2 + 1) = x2 + 1 := by have := HN.out; unfold wrap64; omega
     have qi : (x2.toNat < l1.length) = True := eq_true (by omega)
     have HL := Aside0.mk hlt2; have hmem := mem_L4 l1 x2 HX.out.1 HL.out
     have hlen : (rd_L4 l1 x2).length ≤ 1000000 := by
      have h1 := List.all_eq_true.mp HA'.out _ hmem
      have h2 : ((rd_L4 l1 x2).length : Int) = P := by rw [← HP.out]; exact of_decide_eq_true h1
      rcases HPs.out with h | h | h | h | h <;> omega
     have hcon := containsU #[.pointer (some ⟨gb, 0, none⟩)] (fun y => decide (m < y)) A2 c2 (rd_L4 l1 x2) wr (Kd.C_below hC HB.out) hlen (fitsPred a0 m HM.out gb _ wr BK.out rfl)
     have HM' := Aside0.mk hmem; clear hC hx0 hmem hlen
     have hcz := fun i => blk_cell BK.out i
     have hfz := fun i => blk_frozen BK.out i
     replace p0 := eq_true p0; replace hlt2 := eq_true hlt2
     have e1 : (rd_L4 l1 x2).any (fun y => decide (m < y)) = colBig m (rd_L4 l1 x2) := rfl
     rw [e1] at hcon
     cases hq : colBig m (rd_L4 l1 x2) with
     | true =>
      rw [hq] at hcon
      go_wp2_with (go_at_call 95; refine hcon.mono ?_; rintro e w' ⟨rfl, hb⟩)
      go_ret
      refine ⟨?_, below_step (blA HB.out) hb⟩
      have hf : l1.any (colBig m) = true := List.any_eq_true.mpr ⟨_, HM'.out, hq⟩
      unfold fitsF
      rw [if_neg (fun h => h rfl), if_neg (by rw [HA'.out]; decide), if_pos hf]
      rfl
     | false =>
      rw [hq] at hcon
      go_wp2_with (go_at_call 95; refine hcon.mono ?_; rintro e w' ⟨rfl, hb⟩)
      go_roundg (l1.length - (x2 + 1).toNat)
      case measure => have := HX.out; have := HL.out; omega
      case rel => exact ⟨x2 + 1, by first | rfl | (simp [hw]; done), ⟨by have := HX.out; omega, by have := HL.out; omega, by have := HX.out; have := HL.out; omega⟩, ⟨blk_below BK.out hb⟩, ⟨below_step (blA HB.out) hb⟩, ⟨by
       rw [take_succ_L4 l1 x2 HX.out.1 HL.out, List.any_append, HA.out]
       simp [hq]⟩⟩
    ·have d2 : decide (x2 < (l1.length : Int)) = false := decide_eq_false hlt2
     have HA2 : Aside0 (l1.any (colBig m) = false) := ⟨by have h := HA.out; rwa [List.take_of_length_le (by have := HX.out; omega)] at h⟩
     clear HA
     go_wp2
     go_ret
     refine ⟨?_, blA HB.out⟩
     unfold fitsF
     rw [if_neg (fun h => h rfl), if_neg (by rw [HA'.out]; decide), if_neg (by rw [HA2.out]; decide)]
     rfl
end Go.Proofs.Ythiiodgpdoljoaa.PLw
