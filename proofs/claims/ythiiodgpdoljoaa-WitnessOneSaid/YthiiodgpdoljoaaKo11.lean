import Derived.Test.YthiiodgpdoljoaaKo2
import Derived.Test.YthiiodgpdoljoaaKo1
import Derived.Test.YthiiodgpdoljoaaKo10
-- Words and walks that the kit's print has laid for this seat, cut down, and our own texts, merged.
namespace Go.Proofs.Ythiiodgpdoljoaa.PLw
open Go.RowKit Go.Proofs.YthiiodgpdoljoaaW.PrintWords Go.Proofs.YthiiodgpdoljoaaW.PrintLast Go.Proofs.YthiiodgpdoljoaaW.PrintMore
attribute [local go_sem] max2_int min2_int max_two min_two max_three min_three max_four min_four   -- for this text's walks alone
set_option linter.unusedVariables false
set_option linter.unusedSimpArgs false
/-! ### witness_Holds: function 31 -/
def gateV (g : S105) : Value := .agg #[.int .i64 g.f0, .int .i64 g.f1, .int .i64 g.f2, .int .i64 g.f3, .int .i64 g.f4]
theorem anyG_take_succ (p : S105 → Bool) (l : List S105) (x : Int) (h0 : 0 ≤ x) (h1 : x < l.length) (ha : (l.take x.toNat).any p = false) (hp : p (rd_T105 l x) = false) : (l.take (x + 1).toNat).any p = false := by
 have e : (x + 1).toNat = x.toNat + 1 := by omega
 have hlt : x.toNat < l.length := by omega
 have er : rd_T105 l x = l[x.toNat] := by simp [rd_T105, List.getD_eq_getElem?_getD, hlt]
 rw [e, List.take_succ_eq_append_getElem hlt, List.any_append, ha, ← er]
 simp [hp]
theorem memG (l : List S105) (x : Int) (h0 : 0 ≤ x) (h1 : x < l.length) : rd_T105 l x ∈ l := by
 have hlt : x.toNat < l.length := by omega
 have er : rd_T105 l x = l[x.toNat] := by simp [rd_T105, List.getD_eq_getElem?_getD, hlt]
 rw [er]; exact List.getElem_mem hlt
set_option maxHeartbeats 4000000 in
set_option maxRecDepth 100000 in
theorem indexG (lb : Array Value) (p : S105 → Bool) (A : Option Addr) (c : Nat) (l : List S105) (w : World) (hr : Kd.C k105 w A l.length l) (hn : l.length ≤ 1000000)
  (hp : ∀ (W : World) (x : S105), x ∈ l → Below w.heap.size w W → Calls Try.prog 72 (#[gateV x] ++ lb) W fun e w' => e = .returned (.bool (p x)) ∧ Below w.heap.size w w') :
  Calls Try.prog 98 #[.slice A l.length c, .func (.func 72) #[] lb] w fun e w' => ∃ r : Int, e = .returned (.int .i64 r) ∧ decide (0 ≤ r) = l.any p ∧ Below w.heap.size w w' := by
 have HR := Aside0.mk hr; clear hr
 have HP := Aside0.mk hp; clear hp
 have HN := Aside0.mk hn; clear hn
 go_enter Try.func98, Try.ntmps98
 go_wp2
 go_loopg [5, 8] l.length (fun gg _ s8 wr => ∃ x : Int, s8 = .int .i64 x ∧ Aside0 (0 ≤ x ∧ x ≤ l.length ∧ (l.length : Int) - x ≤ gg) ∧ Aside0 (Below w.heap.size w wr) ∧ Aside0 ((l.take x.toNat).any p = false))
 case atStart => exact ⟨0, rfl, ⟨by omega, by omega, by omega⟩, ⟨Below.refl _ w⟩, ⟨by simp⟩⟩
 case round =>
  obtain ⟨x, rfl, HX, HB, HA⟩ := hrel
  by_cases hlt : x < (l.length : Int)
  ·have d1 : decide (x < (l.length : Int)) = true := decide_eq_true hlt; have p0 : 0 ≤ x := HX.out.1; obtain ⟨ad, rfl, hx0, hx1, hx2, hx3, hx4⟩ := at_T105 HR.out x p0 hlt; replace hx0 := clA HB.out hx0; replace hx1 := clA HB.out hx1; replace hx2 := clA HB.out hx2; replace hx3 := clA HB.out hx3; replace hx4 := clA HB.out hx4; have hmem := memG l x p0 hlt; have hcall := HP.out wr (rd_T105 l x) hmem HB.out
   unfold gateV at hcall
   have hw : wrap64 (x + 1) = x + 1 := by have := HN.out; unfold wrap64; omega
   have qi : (x.toNat < l.length) = True := eq_true (by omega)
   have HL := Aside0.mk hlt
   have HM := Aside0.mk hmem; clear hmem
   replace p0 := eq_true p0; replace hlt := eq_true hlt
   cases hq : p (rd_T105 l x) with
   | true =>
    rw [hq] at hcall
    go_wp2_with (go_at_call 72; refine hcall.mono ?_; rintro e w' ⟨rfl, hb'⟩)
    go_ret
    exact ⟨x, rfl, by rw [List.any_eq_true.mpr ⟨_, HM.out, hq⟩]; exact decide_eq_true HX.out.1, hb'⟩
   | false =>
    rw [hq] at hcall
    go_wp2_with (go_at_call 72; refine hcall.mono ?_; rintro e w' ⟨rfl, hb'⟩)
    go_roundg (l.length - (x + 1).toNat)
    case measure => have := HX.out; have := HL.out; omega
    case rel => exact ⟨x + 1, by first | rfl | (simp [hw]; done) | trace_state, ⟨by have := HX.out; omega, by have := HL.out; omega, by have := HX.out; have := HL.out; omega⟩, ⟨hb'⟩, ⟨anyG_take_succ p l x HX.out.1 HL.out HA.out hq⟩⟩
  ·have d1 : decide (x < (l.length : Int)) = false := decide_eq_false hlt
   have HL := Aside0.mk hlt; clear hlt
   go_wp2
   go_ret
   exact ⟨-1, rfl, by have h := HA.out; rw [List.take_of_length_le (by have := HL.out; have := HX.out; omega)] at h; rw [h]; rfl, HB.out⟩
theorem containsG (lb : Array Value) (p : S105 → Bool) (A : Option Addr) (c : Nat) (l : List S105) (w : World) (hr : Kd.C k105 w A l.length l) (hn : l.length ≤ 1000000)
  (hp : ∀ (W : World) (x : S105), x ∈ l → Below w.heap.size w W → Calls Try.prog 72 (#[gateV x] ++ lb) W fun e w' => e = .returned (.bool (p x)) ∧ Below w.heap.size w w') :
  Calls Try.prog 71 #[.slice A l.length c, .func (.func 72) #[] lb] w fun e w' => e = .returned (.bool (l.any p)) ∧ Below w.heap.size w w' := by
 have hcon := indexG lb p A c l w hr hn hp
 go_enter Try.func71, Try.ntmps71
 go_wp2_with (go_at_call 98; refine hcon.mono ?_; rintro e w' ⟨r, rfl, hd, hb⟩)
 go_ret
 exact ⟨by rw [← hd]; rfl, hb⟩
set_option maxHeartbeats 4000000 in
set_option maxRecDepth 100000 in
/-- The closure of Holds: does a gate not hold? -/
theorem holdsPred (k : Nat) (a0 a1 a2 a3 a4 : Int) (A0 : Option Addr) (c0 : Nat) (l0 : List S105) (A1 : Option Addr) (c1 : Nat) (l1 : List (List Int)) (x : S105) (b : Bool) (h : witness_holds.f k a0 a1 a2 a3 a4 l0 l1 x.f0 x.f1 x.f2 x.f3 x.f4 = some b)
  (B1 B2 : Nat) (w : World) (hr0 : Kd.C k105 w A0 l0.length l0) (hc0 : l0.length ≤ c0) (hr1 : Kd.C (Kd.slice 43 (Kd.int .u64)) w A1 l1.length l1) (hc1 : l1.length ≤ c1)
  (hB1 : w.heap[B1]? = some (.cells #[.int .i64 a0, .int .i64 a1, .int .i64 a2, .int .i64 a3, .int .i64 a4, .slice A0 l0.length c0] 24 (0, 0))) (hB2 : w.heap[B2]? = some (.cells #[.slice A1 l1.length c1] 56 (0, 0)))
  (W : World) (hb : Below w.heap.size w W) : Calls Try.prog 72 (#[gateV x] ++ #[.pointer (some ⟨B1, 0, none⟩), .pointer (some ⟨B2, 0, none⟩)]) W fun e w' => e = .returned (.bool (!b)) ∧ Below w.heap.size w w' := by
 have hu24 := Try.underlying24; have hu105 := Try.underlying105
 show Calls Try.prog 72 #[.agg #[.int .i64 x.f0, .int .i64 x.f1, .int .i64 x.f2, .int .i64 x.f3, .int .i64 x.f4], .pointer (some ⟨B1, 0, none⟩), .pointer (some ⟨B2, 0, none⟩)] W _
 have BK1 := Aside0.mk (blk_below hB1 hb); have BK2 := Aside0.mk (blk_below hB2 hb)
 have HR0 := Aside0.mk (Kd.C_below hr0 hb); have HR1 := Aside0.mk (Kd.C_below hr1 hb)
 have HC0 := Aside0.mk hc0; have HC1 := Aside0.mk hc1; have HH := Aside0.mk h
 have HB := Aside0.mk hb; clear hr0 hr1 hb hB1 hB2 hc0 hc1 h
 go_enter Try.func72, Try.ntmps72
 go_wp2_with (first
  | ((with_reducible refine gate_dst (N := 3) rfl ?_); refine box_event ?hg (N := 3) ?hd (cs := #[.int .i64 x.f0, .int .i64 x.f1, .int .i64 x.f2, .int .i64 x.f3, .int .i64 x.f4]) (t := 105) ?hr ?_; (case hd => rfl); (case hg => rfl); (case hr => first | (go_simp; done) | (go_simp; rfl)); intro gb hg w4 hbox hb; replace HR0 := Aside0.mk (Kd.C_below HR0.out hb); replace HR1 := Aside0.mk (Kd.C_below HR1.out hb); replace BK1 := Aside0.mk (blk_below BK1.out hb); replace BK2 := Aside0.mk (blk_below BK2.out hb); replace HB := Aside0.mk (below_step HB.out hb); have BK3 := Aside0.mk hbox; clear hb hbox hg; have hcz1 := fun i => blk_cell BK1.out i; have hfz1 := fun i => blk_frozen BK1.out i; have hcz2 := fun i => blk_cell BK2.out i; have hfz2 := fun i => blk_frozen BK2.out i; have hcz3 := fun i => blk_cell BK3.out i; have hfz3 := fun i => blk_frozen BK3.out i)
  | (go_at_call 73; refine (witness_holds.calls k a0 a1 a2 a3 a4 A0 c0 l0 A1 c1 l1 x.f0 x.f1 x.f2 x.f3 x.f4 b _ HR0.out HC0.out HR1.out HC1.out HH.out).mono ?_; rintro e w' ⟨rfl, hb⟩))
 go_ret
 exact ⟨rfl, below_step HB.out hb⟩
/-- Do all these gates hold? -/
def gatesH (k : Nat) (a0 a1 a2 a3 a4 : Int) (l0 : List S105) (l1 : List (List Int)) : List S105 → Option Bool
 | [] => some true
 | g :: gs => (witness_holds.f k a0 a1 a2 a3 a4 l0 l1 g.f0 g.f1 g.f2 g.f3 g.f4).bind fun b => (gatesH k a0 a1 a2 a3 a4 l0 l1 gs).bind fun c => some (b && c)
def holdsV (k : Nat) (a0 a1 a2 a3 a4 : Int) (l0 : List S105) (l1 : List (List Int)) (g : S105) : Bool := (witness_holds.f k a0 a1 a2 a3 a4 l0 l1 g.f0 g.f1 g.f2 g.f3 g.f4).getD false
theorem gatesH_all (k : Nat) (a0 a1 a2 a3 a4 : Int) (l0 : List S105) (l1 : List (List Int)) : ∀ (gs : List S105) (b : Bool), gatesH k a0 a1 a2 a3 a4 l0 l1 gs = some b →
  (∀ g ∈ gs, witness_holds.f k a0 a1 a2 a3 a4 l0 l1 g.f0 g.f1 g.f2 g.f3 g.f4 = some (holdsV k a0 a1 a2 a3 a4 l0 l1 g)) ∧ b = gs.all (holdsV k a0 a1 a2 a3 a4 l0 l1)
 | [], b, h => ⟨fun g hg => absurd hg (List.not_mem_nil), (Option.some.inj h).symm⟩
 | g :: gs, b, h => by
  unfold gatesH at h
  obtain ⟨x, hx, h⟩ := Option.bind_eq_some_iff.mp h; obtain ⟨y, hy, h⟩ := Option.bind_eq_some_iff.mp h; obtain rfl := Option.some.inj h; obtain ⟨h1, h2⟩ := gatesH_all k a0 a1 a2 a3 a4 l0 l1 gs y hy
  have hv : holdsV k a0 a1 a2 a3 a4 l0 l1 g = x := by unfold holdsV; rw [hx]; rfl
  refine ⟨fun g' hg' => ?_, by rw [List.all_cons, hv, h2]⟩
  rcases List.mem_cons.mp hg' with rfl | hg'
  ·rw [hv]; exact hx
  ·exact h1 g' hg'
theorem gatesH_mono (a0 a1 a2 a3 a4 : Int) (l0 : List S105) (l1 : List (List Int)) (k : Nat) : ∀ gs : List S105, LeO (gatesH k a0 a1 a2 a3 a4 l0 l1 gs) (gatesH (k + 1) a0 a1 a2 a3 a4 l0 l1 gs)
 | [] => LeO.refl _
 | g :: gs => by
  unfold gatesH
  exact LeO.bind (witness_holds.mono _ _ _ _ _ _ _ _ _ _ _ _ _) fun _ => LeO.bind (gatesH_mono a0 a1 a2 a3 a4 l0 l1 k gs) fun _ => LeO.refl _
def witness_Holds.f (k : Nat) (a0 a1 a2 a3 a4 : Int) (l0 : List S105) (l1 : List (List Int)) : Option (Bool × Int) :=
 (witness_ask.f k a0 a1 a2 a3 a4 l0 l1).bind fun e => if e = 0 then (if l0.length ≤ 1000000 then (gatesH k a0 a1 a2 a3 a4 l0 l1 l0).bind fun b => some (b, 0) else none) else some (false, e)
theorem witness_Holds.mono : ∀ a0 a1 a2 a3 a4 a5 a6 k, LeO (witness_Holds.f k a0 a1 a2 a3 a4 a5 a6) (witness_Holds.f (k + 1) a0 a1 a2 a3 a4 a5 a6) := by
 intro a0 a1 a2 a3 a4 a5 a6 k
 unfold witness_Holds.f
 exact LeO.bind (witness_ask.mono _ _ _ _ _ _ _ _) fun _ => LeO.ite (LeO.ite (LeO.bind (gatesH_mono _ _ _ _ _ _ _ _ _) fun _ => LeO.refl _) (LeO.refl _)) (LeO.refl _)
set_option maxHeartbeats 8000000 in
set_option maxRecDepth 100000 in
theorem witness_Holds.calls (k : Nat) (a0 a1 a2 a3 a4 : Int) (A0 : Option Addr) (c0 : Nat) (l0 : List S105) (A1 : Option Addr) (c1 : Nat) (l1 : List (List Int)) (r1 : Bool) (r2 : Int) (w : World) (hr0 : Kd.C k105 w A0 l0.length l0) (hc0 : l0.length ≤ c0) (hr1 : Kd.C (Kd.slice 43 (Kd.int .u64)) w A1 l1.length l1) (hc1 : l1.length ≤ c1) (h : witness_Holds.f k a0 a1 a2 a3 a4 l0 l1 = some (r1, r2)) :
  Calls Try.prog 31 #[.agg #[.int .i64 a0, .int .i64 a1, .int .i64 a2, .int .i64 a3, .int .i64 a4, .slice A0 l0.length c0], .slice A1 l1.length c1] w fun e w' => e = .returned (.tuple #[.bool r1, .int .i64 r2]) ∧ Below w.heap.size w w' := by
 have hu24 := Try.underlying24; have hu56 := Try.underlying56
 unfold witness_Holds.f at h
 obtain ⟨er, hask, h⟩ := Option.bind_eq_some_iff.mp h; have HASK := Aside0.mk hask
 have HR0 := Aside0.mk hr0; have HR1 := Aside0.mk hr1; have HC0 := Aside0.mk hc0; have HC1 := Aside0.mk hc1
 have HB := Aside0.mk (Below.refl w.heap.size w); clear hask hr0 hr1 hc0 hc1
 by_cases hE : er = 0
 ·subst hE
  rw [if_pos rfl] at h
  by_cases hN : l0.length ≤ 1000000
  case neg => rw [if_neg hN] at h; cases h
  rw [if_pos hN] at h
  obtain ⟨b, hg, h⟩ := Option.bind_eq_some_iff.mp h; obtain ⟨hg1, hg2⟩ := gatesH_all k a0 a1 a2 a3 a4 l0 l1 l0 b hg; have hq := Option.some.inj h; have e1 : b = r1 := congrArg Prod.fst hq; have e2 : (0 : Int) = r2 := congrArg Prod.snd hq
  subst e1; subst e2
  have HG := Aside0.mk hg1; have HV := Aside0.mk hg2; have HN := Aside0.mk hN
  clear h hg hg1 hg2 hq hN
  go_enter Try.func31, Try.ntmps31
  go_wp2_with (first
   | ((with_reducible refine gate_dst (N := 2) rfl ?_); refine box_event ?hg (N := 2) ?hd (cs := #[.int .i64 a0, .int .i64 a1, .int .i64 a2, .int .i64 a3, .int .i64 a4, .slice A0 l0.length c0]) (t := 24) ?hr ?_; (case hd => rfl); (case hg => rfl); (case hr => first | (go_simp; done) | (go_simp; rfl)); intro gb1 hg w4 hbox hb; replace HR0 := Aside0.mk (Kd.C_below HR0.out hb); replace HR1 := Aside0.mk (Kd.C_below HR1.out hb); replace HB := Aside0.mk (below_step HB.out hb); have BK1 := Aside0.mk hbox; clear hb hbox hg)
   | ((with_reducible refine gate_dst (N := 3) rfl ?_); refine box_event ?hg (N := 3) ?hd (cs := #[.slice A1 l1.length c1]) (t := 56) ?hr ?_; (case hd => rfl); (case hg => rfl); (case hr => first | (go_simp; done) | (go_simp; rfl)); intro gb2 hg w5 hbox hb; replace HR0 := Aside0.mk (Kd.C_below HR0.out hb); replace HR1 := Aside0.mk (Kd.C_below HR1.out hb); replace HB := Aside0.mk (below_step HB.out hb); replace BK1 := Aside0.mk (blk_below BK1.out hb); have BK2 := Aside0.mk hbox; clear hb hbox hg; have hcz1 := fun i => blk_cell BK1.out i; have hfz1 := fun i => blk_frozen BK1.out i; have hcz2 := fun i => blk_cell BK2.out i; have hfz2 := fun i => blk_frozen BK2.out i)
   | (go_at_call 70; refine (witness_ask.calls k a0 a1 a2 a3 a4 A0 c0 l0 A1 c1 l1 0 _ HR0.out HC0.out HR1.out HC1.out HASK.out).mono ?_; rintro e w6 ⟨rfl, hb⟩; replace HR0 := Aside0.mk (Kd.C_below HR0.out hb); replace HR1 := Aside0.mk (Kd.C_below HR1.out hb); replace HB := Aside0.mk (below_step HB.out hb); replace BK1 := Aside0.mk (blk_below BK1.out hb); replace BK2 := Aside0.mk (blk_below BK2.out hb); clear hb hcz1 hfz1 hcz2 hfz2; have hcz1 := fun i => blk_cell BK1.out i; have hfz1 := fun i => blk_frozen BK1.out i; have hcz2 := fun i => blk_cell BK2.out i; have hfz2 := fun i => blk_frozen BK2.out i)
   | (go_at_call 71; refine (containsG #[.pointer (some ⟨gb1, 0, none⟩), .pointer (some ⟨gb2, 0, none⟩)] (fun x => !(holdsV k a0 a1 a2 a3 a4 l0 l1 x)) A0 c0 l0 _ HR0.out HN.out (fun W x hx hb => holdsPred k a0 a1 a2 a3 a4 A0 c0 l0 A1 c1 l1 x _ (HG.out x hx) gb1 gb2 _ HR0.out HC0.out HR1.out HC1.out BK1.out BK2.out W hb)).mono ?_; rintro e w7 ⟨rfl, hb⟩; replace HB := Aside0.mk (below_step HB.out hb); clear hb hcz1 hfz1 hcz2 hfz2))
  go_ret2
  refine ⟨?_, HB.out⟩
  rw [HV.out]
  have e : (l0.any fun x => !(holdsV k a0 a1 a2 a3 a4 l0 l1 x)) = !(l0.all (holdsV k a0 a1 a2 a3 a4 l0 l1)) := by
   rw [List.not_all_eq_any_not]
  rw [e]
  simp
 ·rw [if_neg hE] at h
  have hq := Option.some.inj h; have e1 : false = r1 := congrArg Prod.fst hq; have e2 : er = r2 := congrArg Prod.snd hq
  subst e1; subst e2
  have d1 : (er != 0) = true := bne_iff_ne.mpr hE; clear h hq
  go_enter Try.func31, Try.ntmps31
  go_wp2_with (first
   | ((with_reducible refine gate_dst (N := 2) rfl ?_); refine box_event ?hg (N := 2) ?hd (cs := #[.int .i64 a0, .int .i64 a1, .int .i64 a2, .int .i64 a3, .int .i64 a4, .slice A0 l0.length c0]) (t := 24) ?hr ?_; (case hd => rfl); (case hg => rfl); (case hr => first | (go_simp; done) | (go_simp; rfl)); intro gb1 hg w4 hbox hb; replace HR0 := Aside0.mk (Kd.C_below HR0.out hb); replace HR1 := Aside0.mk (Kd.C_below HR1.out hb); replace HB := Aside0.mk (below_step HB.out hb); have BK1 := Aside0.mk hbox; clear hb hbox hg)
   | ((with_reducible refine gate_dst (N := 3) rfl ?_); refine box_event ?hg (N := 3) ?hd (cs := #[.slice A1 l1.length c1]) (t := 56) ?hr ?_; (case hd => rfl); (case hg => rfl); (case hr => first | (go_simp; done) | (go_simp; rfl)); intro gb2 hg w5 hbox hb; replace HR0 := Aside0.mk (Kd.C_below HR0.out hb); replace HR1 := Aside0.mk (Kd.C_below HR1.out hb); replace HB := Aside0.mk (below_step HB.out hb); replace BK1 := Aside0.mk (blk_below BK1.out hb); have BK2 := Aside0.mk hbox; clear hb hbox hg; have hcz1 := fun i => blk_cell BK1.out i; have hfz1 := fun i => blk_frozen BK1.out i; have hcz2 := fun i => blk_cell BK2.out i; have hfz2 := fun i => blk_frozen BK2.out i)
   | (go_at_call 70; refine (witness_ask.calls k a0 a1 a2 a3 a4 A0 c0 l0 A1 c1 l1 er _ HR0.out HC0.out HR1.out HC1.out HASK.out).mono ?_; rintro e w6 ⟨rfl, hb⟩; replace HB := Aside0.mk (below_step HB.out hb); clear hb hcz1 hfz1 hcz2 hfz2))
  go_ret2
  exact ⟨rfl, HB.out⟩
end Go.Proofs.Ythiiodgpdoljoaa.PLw
namespace Go.Proofs.Ythiiodgpdoljoaa.Bit
open Go Go.RowKit Go.Proofs.Ythiiodgpdoljoaa.PLw Go.Proofs.YthiiodgpdoljoaaW.PrintWords Go.Proofs.YthiiodgpdoljoaaW.PrintLast Go.Proofs.YthiiodgpdoljoaaW.PrintMore
set_option linter.unusedVariables false
set_option linter.unusedSimpArgs false
/-- Does a gate hold of columns, in a row; at all? -/
def holdsR (w : Nat) (g : S105) (M : List (List Int)) (i : Nat) : Bool := decide (rd (rd_L4 M g.f1) i = atA w g M i) && (if g.f0 = 7 then decide (rd (rd_L4 M g.f4) i = atB w g M i) else true)
def holdsG (w R : Nat) (M : List (List Int)) (g : S105) : Bool := if g.f0 = 8 then decide (rd_L4 M g.f2 = rd_L4 M g.f3) else (List.range R).all (holdsR w g M)
/-- What a gate may be over so many columns. -/
structure Fine (w : Nat) (n : Int) (g : S105) : Prop where
  f1 : 1 ≤ g.f0
  f8 : g.f0 ≤ 8
  a0 : 0 ≤ g.f2
  a1 : g.f2 < n
  b0 : 0 ≤ g.f3
  b1 : g.f3 < n
  s0 : 0 ≤ g.f4
  d0 : g.f0 ≠ 8 → 0 ≤ g.f1
  d1 : g.f0 ≠ 8 → g.f1 < n
  s1 : g.f0 = 7 → g.f4 < n
  sh : 4 ≤ g.f0 → g.f0 ≤ 6 → g.f4 < p2 (w : Int)
theorem fine_of {w : Nat} {cols n C : Int} {g : S105} (hC : p2 cols = C) (h : gErr (w : Int) cols g n = 0) (hn : 0 ≤ n) : Fine w C g := by
  obtain ⟨f1, f8, f2, f2', f3, f3', f4, fd, f7, fs, fn⟩ := gate_facts h hn
  rw [hC] at fn
  clear h hC
  refine ⟨f1, f8, f2, ?_, f3, ?_, f4, ?_, ?_, ?_, fs⟩
  · have := (makes_nonneg g.f0).1; clear fs f7 fd; omega
  · have := (makes_nonneg g.f0).1; clear fs f7 fd; omega
  · intro h; rw [fd h]; exact hn
  · intro h; rw [fd h]; unfold makes at fn; rw [if_neg h] at fn; clear fs f7 fd; split at fn <;> omega
  · intro h; rw [f7 h]; unfold makes at fn; rw [h, if_neg (by decide), if_pos rfl] at fn; clear fs f7 fd; omega
theorem fines {w : Nat} {cols C : Int} (hC : p2 cols = C) : ∀ (l : List S105) (n : Int), 0 ≤ n → (walk (w : Int) cols l n).2 = 0 → ∀ g ∈ l, Fine w C g
  | [], n, hn, h => fun g hg => absurd hg List.not_mem_nil
  | g :: gs, n, hn, h => by
    unfold walk at h
    by_cases hg : gErr (w : Int) cols g n = 0
    · simp only [hg, if_true] at h
      have hm := makes_nonneg g.f0
      intro g' hg'
      rcases List.mem_cons.mp hg' with rfl | hg'
      · exact fine_of hC hg hn
      · exact fines hC gs (n + makes g.f0) (Int.add_nonneg hn hm.1) h g' hg'
    · simp only [hg, if_false] at h
theorem holdsLoop {w R C : Nat} {rows cols : Int} (cx : Cx w R C rows cols) (pub priv : Int) (l : List S105) (M : List (List Int)) (G : Good w R M) (hM : M.length = C) (g : S105) (F : Fine w (C : Int) g) (h8 : g.f0 ≠ 8) (d : Nat) : ∀ i : Nat, R - i = d → i ≤ R →
    Ev (fun k => witness_holds.l0 k M (R : Int) (i : Int) (w : Int) rows cols pub priv l g.f0 g.f1 g.f2 g.f3 g.f4) (((List.range R).drop i).all (holdsR w g M)) := by
  have hw := cx.hw
  obtain ⟨hRb, hCb, _, _⟩ := cx.two
  have hMC : (M.length : Int) = (C : Int) := by rw [hM]
  have a1 : g.f2 < (M.length : Int) := by rw [hMC]; exact F.a1
  have b1 : g.f3 < (M.length : Int) := by rw [hMC]; exact F.b1
  have d1 : g.f1 < (M.length : Int) := by rw [hMC]; exact F.d1 h8
  have g1 := good_at G (F.d0 h8) d1
  have g2 := good_at G F.a0 a1
  have g3 := good_at G F.b0 b1
  induction d with
  | zero =>
    intro i hd hi
    have hiR : i = R := Nat.le_antisymm hi (Nat.sub_eq_zero_iff_le.mp hd)
    refine evFuel 1 fun m => ?_
    simp only [witness_holds.l0]
    rw [if_neg (by rw [hiR]; exact Int.lt_irrefl _), List.drop_of_length_le (by rw [List.length_range, hiR]; exact Nat.le_refl _)]
    rfl
  | succ d ih =>
    intro i hd hi
    obtain ⟨s1, s2, s3⟩ := stepD hd
    obtain ⟨w1, jR, j0⟩ := stepW s1 (Nat.le_trans hRb (by decide))
    have hlr : i < (List.range R).length := by rw [List.length_range]; exact s1
    obtain ⟨K, hK⟩ := ih (i + 1) s2 s3
    dsimp only at hK
    refine ⟨K + (0 + 1), fun k hk => ?_⟩
    obtain ⟨k, rfl, hk1⟩ := stepK hk
    have hr := hK k hk1
    simp only [witness_holds.l0]
    rw [if_pos jR, if_pos F.a0, if_pos a1, if_pos j0, if_pos (lt_len jR g2.1), if_pos F.b0, if_pos b1, if_pos (lt_len jR g3.1), made_mk w hw rows cols pub priv l g F.f1 F.f8 h8 F.s0 F.sh (g2.2 i s1) (g3.2 i s1)]
    simp only [Option.bind_some]
    rw [if_pos (F.d0 h8), if_pos d1, if_pos (lt_len jR g1.1), List.drop_eq_getElem_cons hlr, List.all_cons, List.getElem_range]
    unfold holdsR at *
    by_cases hA : rd (rd_L4 M g.f1) (i : Int) = mkA w g (rd (rd_L4 M g.f2) i) (rd (rd_L4 M g.f3) i)
    · rw [if_pos hA, decide_eq_true (p := rd (rd_L4 M g.f1) (i : Int) = atA w g M i) hA, Bool.true_and]
      by_cases h7 : g.f0 = 7
      · have s1' : g.f4 < (M.length : Int) := by rw [hMC]; exact F.s1 h7
        have g4 := good_at G F.s0 s1'
        simp only [if_pos h7] at hr ⊢
        rw [if_pos F.s0, if_pos s1', if_pos (lt_len jR g4.1)]
        by_cases hB : rd (rd_L4 M g.f4) (i : Int) = mkB w g (rd (rd_L4 M g.f2) i) (rd (rd_L4 M g.f3) i)
        · rw [if_pos hB, decide_eq_true (p := rd (rd_L4 M g.f4) (i : Int) = atB w g M i) hB, Bool.true_and, w1]
          exact hr
        · rw [if_neg hB, decide_eq_false (p := rd (rd_L4 M g.f4) (i : Int) = atB w g M i) hB, Bool.false_and]
      · simp only [if_neg h7] at hr ⊢
        rw [Bool.true_and, w1]
        exact hr
    · rw [if_neg hA, decide_eq_false (p := rd (rd_L4 M g.f1) (i : Int) = atA w g M i) hA, Bool.false_and, Bool.false_and]
theorem holds_ev {w R C : Nat} {rows cols : Int} (cx : Cx w R C rows cols) (pub priv : Int) (l : List S105) (M : List (List Int)) (G : Good w R M) (hM : M.length = C) (g : S105) (F : Fine w (C : Int) g) :
    Ev (fun k => witness_holds.f k (w : Int) rows cols pub priv l M g.f0 g.f1 g.f2 g.f3 g.f4) (holdsG w R M g) := by
  obtain ⟨hRb, hCb, _, _⟩ := cx.two
  have hMC : (M.length : Int) = (C : Int) := by rw [hM]
  have a1 : g.f2 < (M.length : Int) := by rw [hMC]; exact F.a1
  have b1 : g.f3 < (M.length : Int) := by rw [hMC]; exact F.b1
  have g2 := good_at G F.a0 a1
  have g3 := good_at G F.b0 b1
  unfold witness_holds.f holdsG
  by_cases h8 : g.f0 = 8
  · simp only [if_pos h8, if_pos F.a0, if_pos a1, if_pos F.b0, if_pos b1]
    exact Ev.bind (f := fun _ t => some t) (equal_ev _ _ (by rw [g2.1, g3.1]) (by rw [g2.1]; exact Nat.le_trans hRb (by decide))) (Ev.now _)
  · simp only [if_neg h8, if_pos cx.hr0]
    rw [shl_p2 cx.hr0 (Int.le_trans cx.hr4 (by decide)), cx.hR]
    have := holdsLoop cx pub priv l M G hM g F h8 R 0 (Nat.sub_zero _) (Nat.zero_le _)
    rw [List.drop_zero] at this
    exact this
theorem gates_ev {w R C : Nat} {rows cols : Int} (cx : Cx w R C rows cols) (pub priv : Int) (l : List S105) (M : List (List Int)) (G : Good w R M) (hM : M.length = C) : ∀ gs : List S105, (∀ g ∈ gs, Fine w (C : Int) g) →
    Ev (fun k => gatesH k (w : Int) rows cols pub priv l M gs) (gs.all (holdsG w R M))
  | [], _ => Ev.now true
  | g :: gs, hF => by
    refine Ev.bind (holds_ev cx pub priv l M G hM g (hF g (List.mem_cons_self))) ?_
    refine Ev.bind (gates_ev cx pub priv l M G hM gs fun g' hg' => hF g' (List.mem_cons_of_mem _ hg')) ?_
    exact Ev.now _
theorem fitsF_good {w R C : Nat} {rows cols : Int} (cx : Cx w R C rows cols) (M : List (List Int)) (G : Good w R M) (hM : M.length = C) : fitsF rows (mostI w) M (C : Int) = 0 := by
  unfold fitsF
  rw [if_neg (fun h => h (by rw [hM])), if_neg, if_neg]
  · intro h
    obtain ⟨c, hc, h⟩ := List.any_eq_true.mp h
    obtain ⟨x, hx, h⟩ := List.any_eq_true.mp h
    have h1 := of_decide_eq_true h
    have h2 := ((G c hc).2 x hx).2
    have e : mostI w = ((2 ^ 2 ^ w : Nat) : Int) - 1 := by unfold mostI; push_cast; rfl
    rw [e] at h1
    omega
  · intro h
    obtain ⟨c, hc, h⟩ := List.all_eq_false.mp h
    apply h
    unfold colLen
    have h6 := cx.hR
    unfold p2 at h6
    rw [h6, (G c hc).1]
    exact decide_eq_true rfl
/-- Holds, of good columns. -/
theorem Holds_ev {w R C : Nat} {rows cols : Int} (cx : Cx w R C rows cols) (pub priv : Int) (l : List S105) (hl : l.length ≤ 1000) (h0 : (lookS (w : Int) rows cols pub priv l).2 = 0) (hF : ∀ g ∈ l, Fine w (C : Int) g) (M : List (List Int)) (G : Good w R M) (hM : M.length = C) :
    Ev (fun k => witness_Holds.f k (w : Int) rows cols pub priv l M) (l.all (holdsG w R M), 0) := by
  obtain ⟨hRb, hCb, _, _⟩ := cx.two
  have hL : Lens 1000 1000 M := ⟨by rw [hM]; exact Nat.le_trans hCb (by decide), fun c hc => by rw [(G c hc).1]; exact Nat.le_trans hRb (by decide)⟩
  have hck := check_ev (w : Int) rows cols pub priv l
  rw [h0] at hck
  unfold witness_Holds.f witness_ask.f
  have hask : Ev (fun k => (circuit_Check.f k (w : Int) rows cols pub priv l).bind fun t374 => (if t374 = 0 then (if 0 ≤ cols then ((witness_fits.f (w : Int) rows cols pub priv l M (shl .i64 1 cols)).bind fun t375 => (some t375)) else (none)) else (some t374))) 0 := by
    refine Ev.bind hck ?_
    simp only [if_true, if_pos cx.hc0]
    rw [shl_p2 cx.hc0 cx.hc6, cx.hC, fits_prog cx pub priv l M hL (C : Int), fitsF_good cx M G hM]
    exact Ev.now _
  refine Ev.bind hask ?_
  simp only [if_true, if_pos (show l.length ≤ 1000000 from Nat.le_trans hl (by decide))]
  refine Ev.bind (gates_ev cx pub priv l M G hM l hF) ?_
  exact Ev.now _
end Go.Proofs.Ythiiodgpdoljoaa.Bit
namespace Go.Proofs.Ythiiodgpdoljoaa.Bit
open Go Go.RowKit Go.Proofs.Ythiiodgpdoljoaa.PLw Go.Proofs.YthiiodgpdoljoaaW.PrintWords Go.Proofs.YthiiodgpdoljoaaW.PrintLast Go.Proofs.YthiiodgpdoljoaaW.PrintMore
set_option linter.unusedVariables false
set_option linter.unusedSimpArgs false
/-- Columns are only put behind. -/
theorem runG_prefix (w R : Nat) : ∀ (l : List S105) (all all' : List (List Int)), runG w R l all = some all' → ∃ e, all' = all ++ e
  | [], all, all', h => ⟨[], by obtain rfl := Option.some.inj h; simp⟩
  | g :: gs, all, all', h => by
    unfold runG at h
    by_cases h8 : g.f0 = 8
    · rw [if_pos h8] at h
      by_cases heq : rd_L4 all g.f2 = rd_L4 all g.f3
      · rw [if_pos heq] at h; exact runG_prefix w R gs all all' h
      · rw [if_neg heq] at h; cases h
    · rw [if_neg h8] at h
      obtain ⟨e, he⟩ := runG_prefix w R gs _ all' h
      exact ⟨newC w R g all ++ e, by rw [he, List.append_assoc]⟩
/-- How many there are. -/
theorem runG_len {w R : Nat} {cols : Int} : ∀ (l : List S105) (all all' : List (List Int)), runG w R l all = some all' → (walk (w : Int) cols l (all.length : Int)).2 = 0 → (walk (w : Int) cols l (all.length : Int)).1 = (all'.length : Int)
  | [], all, all', h, hw => by obtain rfl := Option.some.inj h; rfl
  | g :: gs, all, all', h, hw => by
    unfold walk at hw ⊢
    by_cases hg : gErr (w : Int) cols g (all.length : Int) = 0
    case neg => simp only [hg, if_false] at hw
    simp only [hg, if_true] at hw ⊢
    clear hg
    unfold runG at h
    by_cases h8 : g.f0 = 8
    · have hm0 : makes g.f0 = 0 := by rw [h8]; rfl
      rw [hm0, Int.add_zero] at hw ⊢
      rw [if_pos h8] at h
      by_cases heq : rd_L4 all g.f2 = rd_L4 all g.f3
      · rw [if_pos heq] at h; exact runG_len gs all all' h hw
      · rw [if_neg heq] at h; cases h
    · rw [← new_len w R g all h8] at hw ⊢
      rw [if_neg h8] at h
      exact runG_len gs _ all' h hw
theorem colA_at (w R : Nat) (g : S105) (all : List (List Int)) (i : Nat) (h : i < R) : rd (colA w R g all) (i : Int) = atA w g all i := by
  rw [rd_nat _ i (by simp [colA, h])]; simp [colA]
theorem colB_at (w R : Nat) (g : S105) (all : List (List Int)) (i : Nat) (h : i < R) : rd (colB w R g all) (i : Int) = atB w g all i := by
  rw [rd_nat _ i (by simp [colB, h])]; simp [colB]
theorem rdL_new (all rest : List (List Int)) (P : List Int) (a : Int) (h : a = all.length) : rd_L4 (all ++ P :: rest) a = P := by rw [h, rdL_mid]
theorem rdL_new2 (all rest : List (List Int)) (P Q : List Int) (a : Int) (h : a = all.length + 1) : rd_L4 (all ++ P :: Q :: rest) a = Q := by
  have := rdL_mid (all ++ [P]) rest Q
  rw [List.length_append, List.append_assoc] at this
  rw [h]
  exact this
/-- A gate that has just been run holds, whatever lies behind. -/
theorem holds_new {w R : Nat} {cols : Int} (g : S105) (all t : List (List Int)) (G : Good w R all) (h8 : g.f0 ≠ 8) (hg : gErr (w : Int) cols g (all.length : Int) = 0) : holdsG w R ((all ++ newC w R g all) ++ t) g = true := by
  obtain ⟨f1, f8, f2, f2', f3, f3', f4, fd, f7, fs, fn⟩ := gate_facts hg (Int.natCast_nonneg _)
  clear hg fs fn
  unfold holdsG
  rw [if_neg h8, List.all_eq_true]
  intro i hi
  have hi' := List.mem_range.mp hi
  rw [List.append_assoc]
  have eA : atA w g (all ++ (newC w R g all ++ t)) i = atA w g all i := by unfold atA; rw [rdL_left _ _ _ f2 f2', rdL_left _ _ _ f3 f3']
  have eB : atB w g (all ++ (newC w R g all ++ t)) i = atB w g all i := by unfold atB; rw [rdL_left _ _ _ f2 f2', rdL_left _ _ _ f3 f3']
  unfold holdsR
  rw [eA, eB]
  unfold newC
  by_cases h7 : g.f0 = 7
  · rw [if_pos h7, if_pos h7]
    show (decide (rd (rd_L4 (all ++ colA w R g all :: colB w R g all :: t) g.f1) i = _) && decide (rd (rd_L4 (all ++ colA w R g all :: colB w R g all :: t) g.f4) i = _)) = true
    rw [rdL_new _ _ _ _ (fd h8), rdL_new2 _ _ _ _ _ (f7 h7), colA_at w R g all i hi', colB_at w R g all i hi', decide_eq_true rfl, decide_eq_true rfl]
    rfl
  · rw [if_neg h7, if_neg h7]
    show (decide (rd (rd_L4 (all ++ colA w R g all :: t) g.f1) i = _) && true) = true
    rw [rdL_new _ _ _ _ (fd h8), colA_at w R g all i hi', decide_eq_true rfl]
    rfl
theorem good_left {w R : Nat} {a b : List (List Int)} (h : Good w R (a ++ b)) : Good w R a := fun c hc => h c (List.mem_append_left _ hc)
/-- All that is run holds. -/
theorem runs_hold {w R : Nat} {cols : Int} : ∀ (l : List S105) (all all' : List (List Int)), runG w R l all = some all' → Good w R all → (walk (w : Int) cols l (all.length : Int)).2 = 0 → ∀ t : List (List Int), l.all (holdsG w R (all' ++ t)) = true
  | [], all, all', h, G, hw => fun t => rfl
  | g :: gs, all, all', h, G, hw => by
    intro t
    unfold walk at hw
    by_cases hg : gErr (w : Int) cols g (all.length : Int) = 0
    case neg => simp only [hg, if_false] at hw
    simp only [hg, if_true] at hw
    obtain ⟨f1, f8, f2, f2', f3, f3', f4, fd, f7, fs, fn⟩ := gate_facts hg (Int.natCast_nonneg _)
    clear fs fn
    unfold runG at h
    rw [List.all_cons, Bool.and_eq_true]
    by_cases h8 : g.f0 = 8
    · have hm0 : makes g.f0 = 0 := by rw [h8]; rfl
      rw [hm0, Int.add_zero] at hw
      rw [if_pos h8] at h
      by_cases heq : rd_L4 all g.f2 = rd_L4 all g.f3
      · rw [if_pos heq] at h
        obtain ⟨e, he⟩ := runG_prefix w R gs all all' h
        refine ⟨?_, runs_hold gs all all' h G hw t⟩
        unfold holdsG
        rw [if_pos h8, he, List.append_assoc, rdL_left _ _ _ f2 f2', rdL_left _ _ _ f3 f3']
        exact decide_eq_true heq
      · rw [if_neg heq] at h; cases h
    · rw [← new_len w R g all h8] at hw
      rw [if_neg h8] at h
      have G' := good_new G g f2 f2' f3 f3'
      obtain ⟨e, he⟩ := runG_prefix w R gs _ all' h
      refine ⟨?_, runs_hold gs _ all' h G' hw t⟩
      rw [he, List.append_assoc]
      exact holds_new g all (e ++ t) G h8 hg
/-- Columns with one word turned. -/
def flip (M : List (List Int)) (k row : Nat) (v : Int) : List (List Int) := M.set k ((M.getD k []).set row v)
theorem flip_left (a t : List (List Int)) (k row : Nat) (v : Int) (h : a.length ≤ k) (x : Int) (h0 : 0 ≤ x) (hx : x < a.length) : rd_L4 (flip (a ++ t) k row v) x = rd_L4 a x := by
  obtain ⟨n, rfl⟩ := Int.eq_ofNat_of_zero_le h0
  unfold flip
  have hn : n < a.length := by omega
  rw [rdL_nat a n hn, rdL_nat _ n (by rw [List.length_set, List.length_append]; omega), List.getElem_set_ne (by omega), List.getElem_append_left hn]
theorem rd_flip (M : List (List Int)) (k row : Nat) (v : Int) (hk : k < M.length) (hr : row < (M.getD k []).length) : rd (rd_L4 (flip M k row v) (k : Int)) (row : Int) = v := by
  unfold flip
  rw [rdL_nat _ k (by rw [List.length_set]; exact hk), List.getElem_set_self, rd_nat _ row (by rw [List.length_set]; exact hr), List.getElem_set_self]
/-- With one word turned of a column that a gate has just made, it does not hold. -/
theorem flip_new {w R : Nat} {cols : Int} (g : S105) (all t : List (List Int)) (G : Good w R all) (h8 : g.f0 ≠ 8) (hg : gErr (w : Int) cols g (all.length : Int) = 0) (k row : Nat) (hk : all.length ≤ k) (hk' : k < (all ++ newC w R g all).length) (hr : row < R) (v : Int)
    (hv : v ≠ rd (((all ++ newC w R g all) ++ t).getD k []) row) : holdsG w R (flip ((all ++ newC w R g all) ++ t) k row v) g = false := by
  obtain ⟨f1, f8, f2, f2', f3, f3', f4, fd, f7, fs, fn⟩ := gate_facts hg (Int.natCast_nonneg _)
  clear hg fs fn
  unfold holdsG
  rw [if_neg h8, List.all_eq_false]
  refine ⟨row, List.mem_range.mpr hr, ?_⟩
  rw [List.append_assoc] at hv ⊢
  have eA : atA w g (flip (all ++ (newC w R g all ++ t)) k row v) row = atA w g all row := by unfold atA; rw [flip_left _ _ _ _ _ hk _ f2 f2', flip_left _ _ _ _ _ hk _ f3 f3']
  have eB : atB w g (flip (all ++ (newC w R g all ++ t)) k row v) row = atB w g all row := by unfold atB; rw [flip_left _ _ _ _ _ hk _ f2 f2', flip_left _ _ _ _ _ hk _ f3 f3']
  unfold holdsR
  rw [eA, eB]
  have hl : k < (all ++ (newC w R g all ++ t)).length := by rw [← List.append_assoc, List.length_append]; omega
  have hgd : ∀ (P : List Int) (rest : List (List Int)), (all ++ P :: rest).getD all.length [] = P := fun P rest => by rw [List.getD_eq_getElem?_getD]; simp
  have hgd2 : ∀ (P Q : List Int) (rest : List (List Int)), (all ++ P :: Q :: rest).getD (all.length + 1) [] = Q := fun P Q rest => by
    have := List.getElem?_append_right (l₁ := all) (l₂ := P :: Q :: rest) (i := all.length + 1) (by omega)
    rw [List.getD_eq_getElem?_getD, this, show all.length + 1 - all.length = 1 from by omega]; rfl
  have hnl := new_nat w R g all h8
  by_cases h7 : g.f0 = 7
  · rw [if_pos h7] at hnl
    have en : newC w R g all ++ t = colA w R g all :: colB w R g all :: t := by unfold newC; rw [if_pos h7]; rfl
    rw [en] at hv hl ⊢
    rw [if_pos h7]
    have hkk : k = all.length ∨ k = all.length + 1 := by omega
    rcases hkk with rfl | rfl
    · have hf := rd_flip (all ++ colA w R g all :: colB w R g all :: t) all.length row v hl (by rw [hgd]; simp [colA, hr])
      rw [hgd, colA_at w R g all row hr] at hv
      rw [fd h8, hf, decide_eq_false hv]
      simp
    · have hf := rd_flip (all ++ colA w R g all :: colB w R g all :: t) (all.length + 1) row v hl (by rw [hgd2]; simp [colB, hr])
      rw [hgd2, colB_at w R g all row hr] at hv
      rw [f7 h7, show (all.length : Int) + 1 = ((all.length + 1 : Nat) : Int) from rfl, hf, decide_eq_false hv]
      simp
  · rw [if_neg h7] at hnl
    have en : newC w R g all ++ t = colA w R g all :: t := by unfold newC; rw [if_neg h7]; rfl
    rw [en] at hv hl ⊢
    have hkk : k = all.length := by omega
    subst hkk
    have hf := rd_flip (all ++ colA w R g all :: t) all.length row v hl (by rw [hgd]; simp [colA, hr])
    rw [hgd, colA_at w R g all row hr] at hv
    rw [fd h8, hf, decide_eq_false hv]
    simp
/-- With one word turned of any column that is made, not all gates hold. -/
theorem flips_fall {w R : Nat} {cols : Int} : ∀ (l : List S105) (all all' : List (List Int)), runG w R l all = some all' → Good w R all → (walk (w : Int) cols l (all.length : Int)).2 = 0 → ∀ (t : List (List Int)) (k row : Nat) (v : Int), all.length ≤ k → k < all'.length → row < R → v ≠ rd ((all' ++ t).getD k []) row → l.all (holdsG w R (flip (all' ++ t) k row v)) = false
  | [], all, all', h, G, hw => by
    intro t k row v hk hk' hr hv
    obtain rfl := Option.some.inj h
    omega
  | g :: gs, all, all', h, G, hw => by
    intro t k row v hk hk' hr hv
    unfold walk at hw
    by_cases hg : gErr (w : Int) cols g (all.length : Int) = 0
    case neg => simp only [hg, if_false] at hw
    simp only [hg, if_true] at hw
    obtain ⟨f1, f8, f2, f2', f3, f3', f4, fd, f7, fs, fn⟩ := gate_facts hg (Int.natCast_nonneg _)
    clear fs fn fd f7
    unfold runG at h
    rw [List.all_cons]
    by_cases h8 : g.f0 = 8
    · have hm0 : makes g.f0 = 0 := by rw [h8]; rfl
      rw [hm0, Int.add_zero] at hw
      rw [if_pos h8] at h
      by_cases heq : rd_L4 all g.f2 = rd_L4 all g.f3
      · rw [if_pos heq] at h
        rw [flips_fall gs all all' h G hw t k row v hk hk' hr hv, Bool.and_false]
      · rw [if_neg heq] at h; cases h
    · rw [← new_len w R g all h8] at hw
      rw [if_neg h8] at h
      have G' := good_new G g f2 f2' f3 f3'
      by_cases hkn : k < (all ++ newC w R g all).length
      · obtain ⟨e, he⟩ := runG_prefix w R gs _ all' h
        rw [he, List.append_assoc] at hv ⊢
        rw [flip_new g all (e ++ t) G h8 hg k row hk hkn hr v hv, Bool.false_and]
      · rw [flips_fall gs _ all' h G' hw t k row v (Nat.le_of_not_lt hkn) hk' hr hv, Bool.and_false]
end Go.Proofs.Ythiiodgpdoljoaa.Bit
