import Derived.Test.YthiiodgpdoljoaaKl4
import Derived.Test.YthiiodgpdoljoaaKl1
import Derived.Test.YthiiodgpdoljoaaKl0
import Derived.Test.YthiiodgpdoljoaaKl2
import Derived.Test.YthiiodgpdoljoaaKl3
-- Words and walks that the kit's print has laid for this seat, cut down, and our own texts, merged.
namespace Go.Proofs.Ythiiodgpdoljoaa.Pure
open Go.RowKit Go.Proofs.Ythiiodgpdoljoaa.PLc Go.Proofs.YthiiodgpdoljoaaW.PrintWords Go.Proofs.YthiiodgpdoljoaaW.PrintLast
set_option linter.unusedVariables false
set_option linter.unusedSimpArgs false
theorem len2 {α : Type} {l : List α} (h : l.length = 2) : ∃ a b, l = [a, b] := by
  match l, h with | [a, b], _ => exact ⟨a, b, rfl⟩
theorem len3 {α : Type} {l : List α} (h : l.length = 3) : ∃ a b c, l = [a, b, c] := by
  match l, h with | [a, b, c], _ => exact ⟨a, b, c, rfl⟩
theorem len4 {α : Type} {l : List α} (h : l.length = 4) : ∃ a b c d, l = [a, b, c, d] := by
  match l, h with | [a, b, c, d], _ => exact ⟨a, b, c, d, rfl⟩
theorem len5 {α : Type} {l : List α} (h : l.length = 5) : ∃ a b c d e, l = [a, b, c, d, e] := by
  match l, h with | [a, b, c, d, e], _ => exact ⟨a, b, c, d, e, rfl⟩
theorem refLaid (m : Nat) (w a1 a2 a3 a4 : Int) (l : List S106) (g : S105) (ws : List Int) (h1 : 1 ≤ g.f0) (h8 : g.f0 ≤ 8) (hw : 0 ≤ w) (hl : ws.length = (own w g).length) :
    steepleref25_System_Laid.f (m + 1) w a1 a2 a3 a4 l (toG g).f0 (toG g).f1 (toG g).f2 (toG g).f3 (toG g).f4 ws = some ((conds w g ws).map (·.map toO)) := by
  obtain ⟨f0, f1, f2, f3, f4⟩ := g
  simp only at h1 h8
  have hf : f0 = 1 ∨ f0 = 2 ∨ f0 = 3 ∨ f0 = 4 ∨ f0 = 5 ∨ f0 = 6 ∨ f0 = 7 ∨ f0 = 8 := by omega
  rcases hf with rfl | rfl | rfl | rfl | rfl | rfl | rfl | rfl
  case inr.inr.inr.inr.inr.inr.inl =>
    by_cases hw0 : w = 0
    · subst hw0
      obtain ⟨a, b, c, d, rfl⟩ := len4 (l := ws) (by simpa [own] using hl)
      simp [steepleref25_System_Laid.f, steepleref25_System_Laid.j0, steepleref25_shifts.f, steepleref25_v.f, steepleref25_plus.f, steepleref25_times.f, rd, conds, toG, toO, at_, opV, opS, opP]
    · obtain ⟨a, b, c, d, e, rfl⟩ := len5 (l := ws) (by simpa [own, hw0] using hl)
      simp [steepleref25_System_Laid.f, steepleref25_System_Laid.j0, steepleref25_shifts.f, steepleref25_v.f, steepleref25_plus.f, steepleref25_times.f, rd, conds, toG, toO, at_, opV, opS, opP, hw0]
  case inl => obtain ⟨a, b, c, rfl⟩ := len3 (l := ws) (by simpa [own] using hl); simp [steepleref25_System_Laid.f, steepleref25_System_Laid.j0, steepleref25_shifts.f, steepleref25_v.f, steepleref25_plus.f, steepleref25_times.f, rd, conds, toG, toO, at_, opV, opS, opP]
  case inr.inl => obtain ⟨a, b, c, rfl⟩ := len3 (l := ws) (by simpa [own] using hl); simp [steepleref25_System_Laid.f, steepleref25_System_Laid.j0, steepleref25_shifts.f, steepleref25_v.f, steepleref25_plus.f, steepleref25_times.f, rd, conds, toG, toO, at_, opV, opS, opP]
  all_goals (obtain ⟨a, b, rfl⟩ := len2 (l := ws) (by simpa [own] using hl); simp [steepleref25_System_Laid.f, steepleref25_System_Laid.j0, steepleref25_shifts.f, steepleref25_v.f, steepleref25_plus.f, steepleref25_times.f, rd, conds, toG, toO, at_, opV, opS, opP])
/-! What is among the wires. -/
theorem fold_mem (xs : List S76) : ∀ (ws : List S76) (x : S76), x ∈ xs → wIdx (xs.foldl wAdd ws) x < (xs.foldl wAdd ws).length := by
  induction xs with
  | nil => intro ws x h; cases h
  | cons y xs ih =>
    intro ws x h
    rw [List.foldl_cons]
    rcases List.mem_cons.mp h with rfl | h
    · have h1 := wIdx_add ws x
      obtain ⟨t, ht⟩ := fold_ext xs (wAdd ws x)
      rw [ht, wIdx_ext _ (by rw [h1.1]; exact h1.2), List.length_append, h1.1]
      omega
    · exact ih _ x h
theorem wires_mem (w : Int) (l : List S105) : ∀ (ws : List S76) (g : S105) (x : S76), g ∈ l → x ∈ own w g → wIdx (wiresOf w l ws) x < (wiresOf w l ws).length := by
  induction l with
  | nil => intro ws g x h; cases h
  | cons y l ih =>
    intro ws g x h hx
    have e : wiresOf w (y :: l) ws = wiresOf w l ((own w y).foldl wAdd ws) := rfl
    rw [e]
    rcases List.mem_cons.mp h with rfl | h
    · have h1 := fold_mem (own w g) ws x hx
      obtain ⟨t, ht⟩ := wiresOf_ext w l ((own w g).foldl wAdd ws)
      rw [ht, wIdx_ext _ h1, List.length_append]
      omega
    · exact ih _ g x h hx
theorem wires_zv (w : Int) (l : List S105) : ∀ ws : List S76, (∀ y ∈ ws, zv y) → (∀ y ∈ wiresOf w l ws, zv y) ∧ (wiresOf w l ws).length ≤ ws.length + 5 * l.length := by
  induction l with
  | nil => exact fun ws h => ⟨h, by simp [wiresOf]⟩
  | cons g l ih =>
    intro ws h
    have h1 := fold_zv (own w g) ws h (own_zv w g)
    have h2 := ih ((own w g).foldl wAdd ws) h1.1
    have h3 := own_len w g
    have e : wiresOf w (g :: l) ws = wiresOf w l ((own w g).foldl wAdd ws) := rfl
    rw [e, List.length_cons]
    exact ⟨h2.1, by omega⟩
theorem conds_len (w : Int) (g : S105) (ws : List Int) : (conds w g ws).length ≤ 2 := by
  unfold conds
  split; · simp
  split; · simp
  split; · simp
  split; · simp
  split <;> simp
/-! The reference's conditions. -/
theorem rcCopy (w a1 a2 a3 a4 : Int) (l : List S106) (x4 : List S47) (x5 : Int) (t : List (List S52)) (ht : t.length ≤ 10) (d : Nat) : ∀ (K j : Nat) (acc : List (List S52)), t.length - j = d → j ≤ t.length → acc.length + d ≤ 1000 →
    steepleref25_Conds.l2 (K + d + 1) acc x4 x5 t (j : Int) w a1 a2 a3 a4 l = steepleref25_Conds.l0 K (acc ++ t.drop j) x4 (wrap64 (x5 + 1)) w a1 a2 a3 a4 l := by
  induction d with
  | zero =>
    intro K j acc hd hj hb
    simp only [Nat.add_zero, steepleref25_Conds.l2]
    rw [if_neg (by omega), List.drop_of_length_le (by omega), List.append_nil]
  | succ d ih =>
    intro K j acc hd hj hb
    have hlt : j < t.length := by omega
    have hr := ih K (j + 1) (acc ++ [t[j]]) (by omega) (by omega) (by simp; omega)
    obtain ⟨q, hq⟩ : ∃ q, K + d + 1 = q := ⟨_, rfl⟩
    rw [show K + (d + 1) + 1 = q + 1 from by omega]
    rw [hq] at hr
    simp only [steepleref25_Conds.l2]
    rw [if_pos (by omega), if_pos (by omega), if_pos (by omega), w64 (x := (j : Int) + 1) (by omega) (by omega)]
    have e : rd_L16 t (j : Int) = t[j] := by simp [rd_L16, List.getD_eq_getElem?_getD, hlt]
    rw [e, List.drop_eq_getElem_cons hlt]
    have e2 : acc ++ t[j] :: List.drop (j + 1) t = (acc ++ [t[j]]) ++ List.drop (j + 1) t := by simp
    rw [e2]
    exact hr
theorem rcIdx (w a1 a2 a3 a4 : Int) (l : List S105) (W : List S76) (hz : ∀ y ∈ W, zv y) (hW : W.length ≤ 900) (i : Nat) (hi : i < l.length) (hl : l.length ≤ 40) (hg1 : 1 ≤ l[i].f0) (hg8 : l[i].f0 ≤ 8) (hw : 0 ≤ w) (hm : ∀ x ∈ own w l[i], wIdx W x < W.length) (d : Nat) : ∀ (K j : Nat) (acc : List (List S52)) (v : List Int), (own w l[i]).length - j = d → j ≤ (own w l[i]).length → acc.length ≤ 900 → v = ((own w l[i]).take j).map (fun x => (wIdx W x : Int)) → W.length + 10 < K →
    steepleref25_Conds.l1 (K + 3 + d + 1) acc (W.map toC) (i : Int) ((own w l[i]).map toC) v (j : Int) w a1 a2 a3 a4 (l.map toG) =
      steepleref25_Conds.l0 (K + 2 - (conds w l[i] ((own w l[i]).map (fun x => (wIdx W x : Int)))).length) (acc ++ (conds w l[i] ((own w l[i]).map (fun x => (wIdx W x : Int)))).map (·.map toO)) (W.map toC) (wrap64 ((i : Int) + 1)) w a1 a2 a3 a4 (l.map toG) := by
  have ho := own_len w l[i]
  have hoz := own_zv w l[i]
  induction d with
  | zero =>
    intro K j acc v hd hj hb hv hK
    have hjl : j = (own w l[i]).length := by omega
    subst hjl
    rw [List.take_length] at hv
    subst hv
    simp only [Nat.add_zero, steepleref25_Conds.l1, List.length_map]
    rw [if_neg (by omega), if_pos (by omega), if_pos (by omega), rd106' l i hi]
    have hL := refLaid (K + 2) w a1 a2 a3 a4 (l.map toG) l[i] ((own w l[i]).map (fun x => (wIdx W x : Int))) hg1 hg8 hw (by simp)
    rw [show K + 3 = K + 2 + 1 from rfl, hL]
    simp only [Option.bind_some]
    have hc := conds_len w l[i] ((own w l[i]).map (fun x => (wIdx W x : Int)))
    generalize conds w l[i] ((own w l[i]).map (fun x => (wIdx W x : Int))) = C at hc ⊢
    have := rcCopy w a1 a2 a3 a4 (l.map toG) (W.map toC) (i : Int) (C.map (·.map toO)) (by simp; omega) C.length (K + 2 - C.length) 0 acc (by simp) (by omega) (by omega)
    rw [List.drop_zero] at this
    rw [← this]
    congr 1
    omega
  | succ d ih =>
    intro K j acc v hd hj hb hv hK
    have hlt : j < (own w l[i]).length := by omega
    have hx := hoz (own w l[i])[j] (List.getElem_mem hlt)
    have hr := ih K (j + 1) acc (v ++ [(wIdx W (own w l[i])[j] : Int)]) (by omega) (by omega) hb (by rw [hv, List.take_succ_eq_append_getElem hlt, List.map_append]; rfl) hK
    obtain ⟨q, hq⟩ : ∃ q, K + 3 + d + 1 = q := ⟨_, rfl⟩
    rw [show K + 3 + (d + 1) + 1 = q + 1 from by omega]
    rw [hq] at hr
    simp only [steepleref25_Conds.l1, List.length_map]
    rw [if_pos (by omega), if_pos (by omega), rd47 (own w l[i]) j hlt, refFind q (own w l[i])[j] hx W hz (by omega) (by omega), w64 (x := (j : Int) + 1) (by omega) (by omega)]
    simp only [Option.bind_some]
    rw [if_pos (by rw [hv]; simp; omega)]
    have e : refIdx W (own w l[i])[j] = (wIdx W (own w l[i])[j] : Int) := if_pos (hm _ (List.getElem_mem hlt))
    rw [e]
    exact hr
theorem rcOuter (w a1 a2 a3 a4 : Int) (l : List S105) (hk : ∀ g ∈ l, 1 ≤ g.f0 ∧ g.f0 ≤ 8) (hw : 0 ≤ w) (hl : l.length ≤ 40) (W : List S76) (hz : ∀ y ∈ W, zv y) (hW : W.length ≤ 900) (hm : ∀ g ∈ l, ∀ x ∈ own w g, wIdx W x < W.length) (d : Nat) : ∀ (k i : Nat) (acc : List (List S52)), l.length - i = d → i ≤ l.length → acc.length + 2 * d ≤ 600 → 12 * d + 1200 < k →
    steepleref25_Conds.l0 k acc (W.map toC) (i : Int) w a1 a2 a3 a4 (l.map toG) = some (acc ++ ((l.drop i).flatMap (fun g => conds w g ((own w g).map (fun x => (wIdx W x : Int))))).map (·.map toO)) := by
  induction d with
  | zero =>
    intro k i acc hd hi hb hK
    obtain ⟨k, rfl⟩ : ∃ m, k = m + 1 := ⟨k - 1, by omega⟩
    simp only [steepleref25_Conds.l0, List.length_map]
    rw [if_neg (by omega), List.drop_of_length_le (by omega)]
    simp
  | succ d ih =>
    intro k i acc hd hi hb hK
    have hlt : i < l.length := by omega
    have hmem := List.getElem_mem hlt
    have hg := hk l[i] hmem
    have ho := own_len w l[i]
    obtain ⟨k, rfl⟩ : ∃ m, k = m + 3 + (own w l[i]).length + 1 + 1 := ⟨k - (3 + (own w l[i]).length + 1 + 1), by omega⟩
    simp only [steepleref25_Conds.l0, List.length_map]
    rw [if_pos (by omega), if_pos (by omega), rd106' l i hlt, refOwn _ w a1 a2 a3 a4 _ l[i] hg.1 hg.2 hw]
    simp only [Option.bind_some]
    have hr := rcIdx w a1 a2 a3 a4 l W hz hW i hlt hl hg.1 hg.2 hw (hm l[i] hmem) (own w l[i]).length k 0 acc [] (by omega) (by omega) (by omega) (by simp) (by omega)
    rw [show ((0 : Nat) : Int) = 0 from rfl] at hr
    rw [hr, w64 (by omega) (by omega), List.drop_eq_getElem_cons hlt, List.flatMap_cons, List.map_append, ← List.append_assoc]
    have hc := conds_len w l[i] ((own w l[i]).map (fun x => (wIdx W x : Int)))
    exact ih _ (i + 1) _ (by omega) (by omega) (by simp; omega) (by omega)
theorem refConds (k : Nat) (w a1 a2 a3 a4 : Int) (l : List S105) (hk : ∀ g ∈ l, 1 ≤ g.f0 ∧ g.f0 ≤ 8) (hw : 0 ≤ w) (hl : l.length ≤ 40) (hK : 2000 < k) :
    steepleref25_Conds.f k w a1 a2 a3 a4 (l.map toG) = some ((l.flatMap (fun g => conds w g ((own w g).map (fun x => (wIdx (wiresOf w l []) x : Int))))).map (·.map toO)) := by
  unfold steepleref25_Conds.f
  rw [refWires k w a1 a2 a3 a4 l hk hw hl (by omega)]
  simp only [Option.bind_some]
  have hz := wires_zv w l [] (by simp)
  have := rcOuter w a1 a2 a3 a4 l hk hw hl (wiresOf w l []) hz.1 (by simp at hz; omega) (fun g hg x hx => wires_mem w l [] g x hg hx) l.length k 0 [] (by omega) (by omega) (by simp; omega) (by omega)
  simpa using this
end Go.Proofs.Ythiiodgpdoljoaa.Pure
namespace Go.Proofs.Ythiiodgpdoljoaa.PLc
open Go.RowKit Go.Proofs.YthiiodgpdoljoaaW.PrintWords Go.Proofs.YthiiodgpdoljoaaW.PrintLast Go.Proofs.YthiiodgpdoljoaaW.PrintMore
attribute [local go_sem] max2_int min2_int max_two min_two max_three min_three max_four min_four   -- for this text's walks alone
set_option linter.unusedVariables false
set_option linter.unusedSimpArgs false
/-! ### circuit_lay: function 58 -/
/-- What lay answers: the error, or the board. -/
def layErr (w : Int) (l : List S105) (e : Int) : Int := if e ≠ 0 then e else if (gateAll w l).cs.length > 40 then 2 else 0
def layBd (w : Int) (l : List S105) (e : Int) : Bd := if layErr w l e = 0 then gateAll w l else ⟨[], [], []⟩
def LayPost (w : World) (b : Bd) (r : Int) (e : Ending) (w' : World) : Prop :=
 ∃ (vw vc : Value) (Al : Option Addr) (nl kl : Nat), e = .returned (.tuple #[.agg #[vw, vc, .slice Al nl kl], .int .i64 r]) ∧ Kd.R k76 76 w' w.heap.size (fun _ => True) vw b.ws ∧ Kd.R (Kd.slice 118 k118) 50 w' w.heap.size (fun _ => True) vc b.cs ∧ Below w.heap.size w w'
theorem ne_new {w : World} {g g' : Nat} {o : Obj} (h : w.heap[g]? = some o) (hg : g' = w.heap.size) : g ≠ g' := by have := blk_lt h; omega
set_option maxHeartbeats 4000000 in
set_option maxRecDepth 100000 in
theorem lay_err (k : Nat) (s0 s1 s2 s3 s4 : Int) (As : Option Addr) (cs : Nat) (gates : List S105) (e0 : Int) (w : World) (hr : Kd.C k105 w As gates.length gates) (hc : gates.length ≤ cs) (h : circuit_Check.f k s0 s1 s2 s3 s4 gates = some e0) (he : (e0 != 0) = true) :
  Calls Try.prog 58 #[.agg #[.int .i64 s0, .int .i64 s1, .int .i64 s2, .int .i64 s3, .int .i64 s4, .slice As gates.length cs]] w (LayPost w ⟨[], [], []⟩ e0) := by
 have HE := Aside0.mk he; clear he
 have HRD := Aside0.mk hr; have HC := Aside0.mk hc; have HCK := Aside0.mk h
 clear hr hc h; have hu24 := Try.underlying24; have hu108 := Try.underlying108; have hu105 := Try.underlying105
 go_enter Try.func58, Try.ntmps58
 have hne := HE.out
 go_wp2_with (first | ((with_reducible refine gate_dst (N := 1) rfl ?_); refine box_event rfl (N := 1) rfl (cs := #[.int .i64 s0, .int .i64 s1, .int .i64 s2, .int .i64 s3, .int .i64 s4, .slice As gates.length cs]) (t := 24) (by first | (go_simp; done) | (go_simp; rfl)) ?_; intro gs hgs wgs hbox hb; have BKgs := Aside0.mk hbox; have HBgs := Aside0.mk hb; clear hbox hb hgs; have hcs0 := (blk_cell BKgs.out 0).trans rfl; have hcs1 := (blk_cell BKgs.out 1).trans rfl; have hcs2 := (blk_cell BKgs.out 2).trans rfl; have hcs3 := (blk_cell BKgs.out 3).trans rfl; have hcs4 := (blk_cell BKgs.out 4).trans rfl; have hcs5 := (blk_cell BKgs.out 5).trans rfl; have HBW := Aside0.mk HBgs.out) | ((with_reducible refine gate_dst (N := 2) rfl ?_); refine box_event rfl (N := 2) rfl (cs := #[.slice none 0 0, .slice none 0 0, .slice none 0 0]) (t := 108) (by first | (go_simp; done) | (go_simp; rfl)) ?_; intro gr hgr wgr hbox hb; have GEr := Aside0.mk (by rw [hgr]; exact below_size HBW.out : w.heap.size ≤ gr); have NSR := Aside0.mk (ne_new BKgs.out hgr); have BKgr := Aside0.mk hbox; have HBgr := Aside0.mk hb; clear hbox hb hgr; replace BKgs := Aside0.mk (blk_below BKgs.out HBgr.out); replace HBW := Aside0.mk (below_step HBW.out HBgr.out); have hcs0 := (blk_cell BKgs.out 0).trans rfl; have hcs1 := (blk_cell BKgs.out 1).trans rfl; have hcs2 := (blk_cell BKgs.out 2).trans rfl; have hcs3 := (blk_cell BKgs.out 3).trans rfl; have hcs4 := (blk_cell BKgs.out 4).trans rfl; have hcs5 := (blk_cell BKgs.out 5).trans rfl) | ((with_reducible refine gate_dst (N := 4) rfl ?_); refine box_event rfl (N := 4) rfl (cs := #[.slice none 0 0, .slice none 0 0, .slice none 0 0]) (t := 108) (by first | (go_simp; done) | (go_simp; rfl)) ?_; intro gb hgb wgb hbox hb; have GEb := Aside0.mk (by rw [hgb]; exact below_size HBW.out : w.heap.size ≤ gb); have NER := Aside0.mk (ne_new BKgr.out hgb); have NES := Aside0.mk (ne_new BKgs.out hgb); have BKgb := Aside0.mk hbox; have HBgb := Aside0.mk hb; clear hbox hb hgb; replace BKgs := Aside0.mk (blk_below BKgs.out HBgb.out); replace BKgr := Aside0.mk (blk_below BKgr.out HBgb.out); replace HBW := Aside0.mk (below_step HBW.out HBgb.out); have hcs0 := (blk_cell BKgs.out 0).trans rfl; have hcs1 := (blk_cell BKgs.out 1).trans rfl; have hcs2 := (blk_cell BKgs.out 2).trans rfl; have hcs3 := (blk_cell BKgs.out 3).trans rfl; have hcs4 := (blk_cell BKgs.out 4).trans rfl; have hcs5 := (blk_cell BKgs.out 5).trans rfl) | (go_at_call 21; (with_reducible refine (circuit_Check.calls k s0 s1 s2 s3 s4 As cs gates e0 _ (Kd.C_below HRD.out HBW.out) HC.out HCK.out).mono ?_); rintro e w' ⟨rfl, hb⟩; replace BKgs := Aside0.mk (blk_below BKgs.out hb); replace BKgr := Aside0.mk (blk_below BKgr.out hb); replace BKgb := Aside0.mk (blk_below BKgb.out hb); replace HBW := Aside0.mk (below_step HBW.out hb); clear hb; have hcs0 := (blk_cell BKgs.out 0).trans rfl; have hcs1 := (blk_cell BKgs.out 1).trans rfl; have hcs2 := (blk_cell BKgs.out 2).trans rfl; have hcs3 := (blk_cell BKgs.out 3).trans rfl; have hcs4 := (blk_cell BKgs.out 4).trans rfl; have hcs5 := (blk_cell BKgs.out 5).trans rfl; have hcgb0 := (blk_cell BKgb.out 0).trans rfl; have hfgb0 := blk_frozen BKgb.out 0; have hcgb1 := (blk_cell BKgb.out 1).trans rfl; have hfgb1 := blk_frozen BKgb.out 1; have hcgb2 := (blk_cell BKgb.out 2).trans rfl; have hfgb2 := blk_frozen BKgb.out 2; have hcgr0 := (blk_cell BKgr.out 0).trans rfl; have hfgr0 := blk_frozen BKgr.out 0; have hcgr1 := (blk_cell BKgr.out 1).trans rfl; have hfgr1 := blk_frozen BKgr.out 1; have hcgr2 := (blk_cell BKgr.out 2).trans rfl; have hfgr2 := blk_frozen BKgr.out 2))
 refine bodyPost_ret (results_ct rfl _ _ gr 108 #[.slice none 0 0, .slice none 0 0, .slice none 0 0] (0, 0) _ rfl (blk_set (blk_set (blk_set BKgr.out 0 _) 1 _) 2 _) Try.underlying108 rfl (by kernel_rfl)) rfl ?_
 exact ⟨_, _, _, _, _, rfl, Kd.R_nil _ _ _ _ _, Kd.R_nil _ _ _ _ _, ((HBW.out.setCell GEr.out _).setCell GEr.out _).setCell GEr.out _⟩
theorem BrdS.setOther {base : Nat} {w0 w : World} {g n : Nat} {b : Bd} (h : BrdS base w0 w g b n) {k : Nat} {cells : Array Value} (hk : w.heap[k]? = some (.cells cells 105 (0, 0))) (hb : base ≤ k) (h0 : w0.heap.size ≤ k) (j : Nat) (v : Value) : BrdS base w0 (w.setCell ⟨k, j, none⟩ v) g b n := by
 obtain ⟨⟨vw, vc, vl, bg, hbg, rw, rc, rl⟩, hB, hS, hT⟩ := h
 refine ⟨⟨vw, vc, vl, blk_far bg (blk_ne bg hk (by decide)) v, hbg, Kd.R_set rw hk (by decide) j v, Kd.R_set rc hk (by decide) j v, Kd.R_set rl hk (by decide) j v⟩, hB.setCell hb _, hS, fun k' cells' t hk' a b' c d => blk_far (hT k' cells' t hk' a b' c d) (by have := blk_lt hk'; show k' ≠ k; omega) v⟩
theorem below_size0 {base : Nat} {w w' : World} (h : Below base w w') (hz : base ≤ w.heap.size) : w.heap.size ≤ w'.heap.size := h.size
set_option maxHeartbeats 4000000 in
set_option maxRecDepth 100000 in
theorem lay_ok (k : Nat) (s0 s1 s2 s3 s4 : Int) (As : Option Addr) (cs : Nat) (gates : List S105) (e0 : Int) (w : World) (hr : Kd.C k105 w As gates.length gates) (hc : gates.length ≤ cs) (h : circuit_Check.f k s0 s1 s2 s3 s4 gates = some e0) (he : e0 = 0) (hk : ∀ g ∈ gates, 1 ≤ g.f0 ∧ g.f0 ≤ 8) (hlen : gates.length ≤ 100) :
  Calls Try.prog 58 #[.agg #[.int .i64 s0, .int .i64 s1, .int .i64 s2, .int .i64 s3, .int .i64 s4, .slice As gates.length cs]] w (LayPost w (layBd s0 gates 0) (layErr s0 gates 0)) := by
 subst he
 have HKK := Aside0.mk hk; clear hk
 have HRD := Aside0.mk hr; have HC := Aside0.mk hc; have HCK := Aside0.mk h
 clear hr hc h; have hu24 := Try.underlying24; have hu108 := Try.underlying108; have hu105 := Try.underlying105
 go_enter Try.func58, Try.ntmps58
 go_wp2_with (first | ((with_reducible refine gate_dst (N := 1) rfl ?_); refine box_event rfl (N := 1) rfl (cs := #[.int .i64 s0, .int .i64 s1, .int .i64 s2, .int .i64 s3, .int .i64 s4, .slice As gates.length cs]) (t := 24) (by first | (go_simp; done) | (go_simp; rfl)) ?_; intro gs hgs wgs hbox hb; have BKgs := Aside0.mk hbox; have HBgs := Aside0.mk hb; clear hbox hb hgs; have hcs0 := (blk_cell BKgs.out 0).trans rfl; have hcs1 := (blk_cell BKgs.out 1).trans rfl; have hcs2 := (blk_cell BKgs.out 2).trans rfl; have hcs3 := (blk_cell BKgs.out 3).trans rfl; have hcs4 := (blk_cell BKgs.out 4).trans rfl; have hcs5 := (blk_cell BKgs.out 5).trans rfl; have HBW := Aside0.mk HBgs.out) | ((with_reducible refine gate_dst (N := 2) rfl ?_); refine box_event rfl (N := 2) rfl (cs := #[.slice none 0 0, .slice none 0 0, .slice none 0 0]) (t := 108) (by first | (go_simp; done) | (go_simp; rfl)) ?_; intro gr hgr wgr hbox hb; have GEr := Aside0.mk (by rw [hgr]; exact below_size HBW.out : w.heap.size ≤ gr); have NSR := Aside0.mk (ne_new BKgs.out hgr); have BKgr := Aside0.mk hbox; have HBgr := Aside0.mk hb; clear hbox hb hgr; replace BKgs := Aside0.mk (blk_below BKgs.out HBgr.out); replace HBW := Aside0.mk (below_step HBW.out HBgr.out); have hcs0 := (blk_cell BKgs.out 0).trans rfl; have hcs1 := (blk_cell BKgs.out 1).trans rfl; have hcs2 := (blk_cell BKgs.out 2).trans rfl; have hcs3 := (blk_cell BKgs.out 3).trans rfl; have hcs4 := (blk_cell BKgs.out 4).trans rfl; have hcs5 := (blk_cell BKgs.out 5).trans rfl) | ((with_reducible refine gate_dst (N := 4) rfl ?_); refine box_event rfl (N := 4) rfl (cs := #[.slice none 0 0, .slice none 0 0, .slice none 0 0]) (t := 108) (by first | (go_simp; done) | (go_simp; rfl)) ?_; intro gb hgb wgb hbox hb; have GEb := Aside0.mk (by rw [hgb]; exact below_size HBW.out : w.heap.size ≤ gb); have NER := Aside0.mk (ne_new BKgr.out hgb); have NES := Aside0.mk (ne_new BKgs.out hgb); have BKgb := Aside0.mk hbox; have HBgb := Aside0.mk hb; clear hbox hb hgb; replace BKgs := Aside0.mk (blk_below BKgs.out HBgb.out); replace BKgr := Aside0.mk (blk_below BKgr.out HBgb.out); replace HBW := Aside0.mk (below_step HBW.out HBgb.out); have hcs0 := (blk_cell BKgs.out 0).trans rfl; have hcs1 := (blk_cell BKgs.out 1).trans rfl; have hcs2 := (blk_cell BKgs.out 2).trans rfl; have hcs3 := (blk_cell BKgs.out 3).trans rfl; have hcs4 := (blk_cell BKgs.out 4).trans rfl; have hcs5 := (blk_cell BKgs.out 5).trans rfl) | (go_at_call 21; (with_reducible refine (circuit_Check.calls k s0 s1 s2 s3 s4 As cs gates 0 _ (Kd.C_below HRD.out HBW.out) HC.out HCK.out).mono ?_); rintro e wS ⟨rfl, hb⟩; replace BKgs := Aside0.mk (blk_below BKgs.out hb); replace BKgr := Aside0.mk (blk_below BKgr.out hb); replace BKgb := Aside0.mk (blk_below BKgb.out hb); replace HBW := Aside0.mk (below_step HBW.out hb); clear hb; have hcs0 := (blk_cell BKgs.out 0).trans rfl; have hcs1 := (blk_cell BKgs.out 1).trans rfl; have hcs2 := (blk_cell BKgs.out 2).trans rfl; have hcs3 := (blk_cell BKgs.out 3).trans rfl; have hcs4 := (blk_cell BKgs.out 4).trans rfl; have hcs5 := (blk_cell BKgs.out 5).trans rfl; have hcgb0 := (blk_cell BKgb.out 0).trans rfl; have hfgb0 := blk_frozen BKgb.out 0; have hcgb1 := (blk_cell BKgb.out 1).trans rfl; have hfgb1 := blk_frozen BKgb.out 1; have hcgb2 := (blk_cell BKgb.out 2).trans rfl; have hfgb2 := blk_frozen BKgb.out 2; have hcgr0 := (blk_cell BKgr.out 0).trans rfl; have hfgr0 := blk_frozen BKgr.out 0; have hcgr1 := (blk_cell BKgr.out 1).trans rfl; have hfgr1 := blk_frozen BKgr.out 1; have hcgr2 := (blk_cell BKgr.out 2).trans rfl; have hfgr2 := blk_frozen BKgr.out 2))
 have HS0 : Aside0 (BrdS w.heap.size wS wS gb (gateAll s0 (gates.take 0)) (60 * 0)) := Aside0.mk ⟨⟨_, _, _, BKgb.out, GEb.out, Kd.R_nil _ _ _ _ _, Kd.R_nil _ _ _ _ _, Kd.R_nil _ _ _ _ _⟩, Below.refl _ _, ⟨by simp [gateAll], by simp [gateAll], by simp [gateAll]⟩, TK.refl _ _⟩
 have NGs := Aside0.mk (blk_ne BKgs.out BKgb.out (by decide))
 have HZS := Aside0.mk (below_size HBW.out); clear hcgb0 hcgr0 hfgb0 hfgr0; clear hcgb1 hcgr1 hfgb1 hfgr1; clear hcgb2 hcgr2 hfgb2 hfgr2
 go_loopg [17] (gates.length + 1) (fun kq v17 wc => ∃ i : Nat, v17 = .int .i64 (i : Int) ∧ i + kq = gates.length + 1 ∧ i ≤ gates.length ∧ Aside0 (BrdS w.heap.size wS wc gb (gateAll s0 (gates.take i)) (60 * i)))
 case atStart => exact ⟨0, rfl, by omega, by omega, HS0⟩
 case round =>
  obtain ⟨i, rfl, hi, hile, HS⟩ := hrel
  have BKs_ := Aside0.mk (HS.out.kept gs _ 24 BKgs.out (by decide) (by decide) (by decide) NGs.out)
  have BKr_ := Aside0.mk (HS.out.kept gr _ 108 BKgr.out (by decide) (by decide) (by decide) (fun e => NER.out e))
  clear HS0
  by_cases hlt : i < gates.length
  ·have hd1 : decide ((i : Int) < (gates.length : Int)) = true := by simp; omega
   have hd2 : decide (i < gates.length) = true := by simp; omega
   have HX := Kd.C_below HRD.out (HBW.out.trans HS.out.below)
   obtain ⟨ad, eA, hx0, hx1, hx2, hx3, hx4⟩ := at_T105 HX (i : Int) (by omega) (by omega)
   subst eA
   simp only [Int.toNat_natCast] at hx0 hx1 hx2 hx3 hx4
   have hp := eq_true (show (0 : Int) ≤ (i : Int) by omega)
   have hq := eq_true (show (i : Int) < (gates.length : Int) by omega)
   have hmem : rd_T105 gates (i : Int) = gates[i] := by simp [rd_T105, List.getD_eq_getElem?_getD, hlt]
   have hk1 : 1 ≤ (rd_T105 gates (i : Int)).f0 := by rw [hmem]; exact (HKK.out _ (List.getElem_mem hlt)).1
   have hk8 : (rd_T105 gates (i : Int)).f0 ≤ 8 := by rw [hmem]; exact (HKK.out _ (List.getElem_mem hlt)).2
   have HMEM := Aside0.mk hmem; clear hmem HX
   have hcs0 := (blk_cell BKs_.out 0).trans rfl; have hcs1 := (blk_cell BKs_.out 1).trans rfl; have hcs2 := (blk_cell BKs_.out 2).trans rfl; have hcs3 := (blk_cell BKs_.out 3).trans rfl; have hcs4 := (blk_cell BKs_.out 4).trans rfl; have hcs5 := (blk_cell BKs_.out 5).trans rfl
   go_wp2_with (first | ((with_reducible refine gate_dst (N := 7) rfl ?_); refine box_event rfl (N := 7) rfl (cs := #[.int .i64 0, .int .i64 0, .int .i64 0, .int .i64 0, .int .i64 0]) (t := 105) (by first | (go_simp; done) | (go_simp; rfl)) ?_; intro gg hgg wgg hbox hb; have GEg := Aside0.mk (by rw [hgg]; exact below_size (HBW.out.trans HS.out.below) : w.heap.size ≤ gg); have GSg := Aside0.mk (by rw [hgg]; exact below_size0 HS.out.below HZS.out : wS.heap.size ≤ gg); have hne1 : gs ≠ gg := ne_new BKs_.out hgg; have hne2 : gg ≠ gs := fun e_ => hne1 e_.symm; replace BKs_ := Aside0.mk (blk_below BKs_.out hb); replace HS := Aside0.mk (HS.out.step hb); have BKgg := Aside0.mk hbox; have hcg := (blk_cell BKgg.out 0).trans rfl; clear hbox hb hgg; have hcs0 := (blk_cell BKs_.out 0).trans rfl; have hcs1 := (blk_cell BKs_.out 1).trans rfl; have hcs2 := (blk_cell BKs_.out 2).trans rfl; have hcs3 := (blk_cell BKs_.out 3).trans rfl; have hcs4 := (blk_cell BKs_.out 4).trans rfl; have hcs5 := (blk_cell BKs_.out 5).trans rfl; have hcg0 := (blk_cell BKgg.out 0).trans rfl; have hfg0 := blk_frozen BKgg.out 0; have hcg1 := (blk_cell BKgg.out 1).trans rfl; have hfg1 := blk_frozen BKgg.out 1; have hcg2 := (blk_cell BKgg.out 2).trans rfl; have hfg2 := blk_frozen BKgg.out 2; have hcg3 := (blk_cell BKgg.out 3).trans rfl; have hfg3 := blk_frozen BKgg.out 3; have hcg4 := (blk_cell BKgg.out 4).trans rfl; have hfg4 := blk_frozen BKgg.out 4) | (go_at_call 88; (with_reducible refine (circuit_board_gate.calls s0 s1 s2 s3 s4 (some ad) gates.length cs (rd_T105 gates (i : Int)) ((((((HS.out).setOther (BKgg.out) GEg.out GSg.out 0 (.int .i64 (rd_T105 gates (i : Int)).f0)).setOther (blk_set (BKgg.out) 0 (.int .i64 (rd_T105 gates (i : Int)).f0)) GEg.out GSg.out 1 (.int .i64 (rd_T105 gates (i : Int)).f1)).setOther (blk_set (blk_set (BKgg.out) 0 (.int .i64 (rd_T105 gates (i : Int)).f0)) 1 (.int .i64 (rd_T105 gates (i : Int)).f1)) GEg.out GSg.out 2 (.int .i64 (rd_T105 gates (i : Int)).f2)).setOther (blk_set (blk_set (blk_set (BKgg.out) 0 (.int .i64 (rd_T105 gates (i : Int)).f0)) 1 (.int .i64 (rd_T105 gates (i : Int)).f1)) 2 (.int .i64 (rd_T105 gates (i : Int)).f2)) GEg.out GSg.out 3 (.int .i64 (rd_T105 gates (i : Int)).f3)).setOther (blk_set (blk_set (blk_set (blk_set (BKgg.out) 0 (.int .i64 (rd_T105 gates (i : Int)).f0)) 1 (.int .i64 (rd_T105 gates (i : Int)).f1)) 2 (.int .i64 (rd_T105 gates (i : Int)).f2)) 3 (.int .i64 (rd_T105 gates (i : Int)).f3)) GEg.out GSg.out 4 (.int .i64 (rd_T105 gates (i : Int)).f4)) (by omega) hk1 hk8).mono ?_); rintro e w' ⟨rfl, hb⟩; have HS' := Aside0.mk hb; clear hb))
   go_roundg (gates.length - i)
   case measure => omega
   case rel =>
    refine ⟨i + 1, by first | rfl | go_num, by omega, by omega, ⟨?_⟩⟩
    have h := HS'.out
    rw [HMEM.out] at h
    rw [List.take_add_one, List.getElem?_eq_getElem hlt]
    unfold gateAll
    rw [List.foldl_append]
    exact h.more (by omega)
  ·have hd1 : decide ((i : Int) < (gates.length : Int)) = false := by simp; omega
   have hd2 : decide (i < gates.length) = false := by simp; omega
   have hi2 : i = gates.length := by omega
   subst hi2
   rw [List.take_length] at HS
   obtain ⟨⟨vw, vc, vl, bg, hbg, rw_, rc, rl⟩, hB, hS, hT⟩ := HS.out
   obtain ⟨Aw, cw, ew⟩ := Kd.R_slice rw_; obtain ⟨Ac, cc, ec⟩ := Kd.R_slice rc; obtain ⟨Al, cl_, el⟩ := Kd.R_slice rl
   subst ew ec el
   have BG := Aside0.mk bg; have RW := Aside0.mk rw_; have RC := Aside0.mk rc; have HB := Aside0.mk (HBW.out.trans hB)
   have hcb0 := (blk_cell BG.out 0).trans rfl; have hcb1 := (blk_cell BG.out 1).trans rfl; have hcb2 := (blk_cell BG.out 2).trans rfl
   have hcr0 := (blk_cell BKr_.out 0).trans rfl; have hcr1 := (blk_cell BKr_.out 1).trans rfl; have hcr2 := (blk_cell BKr_.out 2).trans rfl
   have hfr0 := blk_frozen BKr_.out 0; have hfr1 := blk_frozen BKr_.out 1; have hfr2 := blk_frozen BKr_.out 2
   have hsm := hS.2.1; clear bg rw_ rc rl hB hS hT hbg
   by_cases h40 : (gateAll s0 gates).cs.length > 40
   ·have hz1 : decide ((40 : Int) < ((gateAll s0 gates).cs.length : Int)) = true := by simp; omega
    have hz2 : decide (40 < (gateAll s0 gates).cs.length) = true := by simp; omega
    have H40 := Aside0.mk h40; clear h40
    go_wp2
    have hfin : layBd s0 gates 0 = ⟨[], [], []⟩ ∧ layErr s0 gates 0 = 2 := by
     have h0 : layErr s0 gates 0 = 2 := by unfold layErr; rw [if_neg (by decide), if_pos H40.out]
     exact ⟨by unfold layBd; rw [h0]; rfl, h0⟩
    rw [hfin.1, hfin.2]
    refine bodyPost_ret (results_ct rfl _ _ gr 108 #[.slice none 0 0, .slice none 0 0, .slice none 0 0] (0, 0) _ rfl (blk_set (blk_set (blk_set BKr_.out 0 _) 1 _) 2 _) Try.underlying108 rfl (by kernel_rfl)) rfl ?_
    exact ⟨_, _, _, _, _, rfl, Kd.R_nil _ _ _ _ _, Kd.R_nil _ _ _ _ _, ((HB.out.setCell GEr.out _).setCell GEr.out _).setCell GEr.out _⟩
   ·have hz1 : decide ((40 : Int) < ((gateAll s0 gates).cs.length : Int)) = false := by simp; omega
    have hz2 : decide (40 < (gateAll s0 gates).cs.length) = false := by simp; omega
    have H40 := Aside0.mk h40; clear h40
    go_wp2
    have hfin : layBd s0 gates 0 = gateAll s0 gates ∧ layErr s0 gates 0 = 0 := by
     have h0 : layErr s0 gates 0 = 0 := by unfold layErr; rw [if_neg (by decide), if_neg H40.out]
     exact ⟨by unfold layBd; rw [h0]; rfl, h0⟩
    rw [hfin.1, hfin.2]
    refine bodyPost_ret (results_ct rfl _ _ gr 108 #[(.slice Aw (gateAll s0 gates).ws.length cw), (.slice Ac (gateAll s0 gates).cs.length cc), (.slice Al (gateAll s0 gates).l.length cl_)] (0, 0) _ rfl (blk_set (blk_set (blk_set BKr_.out 0 _) 1 _) 2 _) Try.underlying108 rfl (by kernel_rfl)) rfl ?_
    exact ⟨_, _, _, _, _, rfl, Kd.R_mono (Kd.R_set (Kd.R_set (Kd.R_set RW.out BKr_.out (by decide) 0 _) (blk_set BKr_.out 0 _) (by decide) 1 _) (blk_set (blk_set BKr_.out 0 _) 1 _) (by decide) 2 _) (fun _ _ => trivial), Kd.R_mono (Kd.R_set (Kd.R_set (Kd.R_set RC.out BKr_.out (by decide) 0 _) (blk_set BKr_.out 0 _) (by decide) 1 _) (blk_set (blk_set BKr_.out 0 _) 1 _) (by decide) 2 _) (fun _ _ => trivial), ((HB.out.setCell GEr.out _).setCell GEr.out _).setCell GEr.out _⟩
theorem lay_any (k : Nat) (s0 s1 s2 s3 s4 : Int) (As : Option Addr) (cs : Nat) (gates : List S105) (e0 : Int) (w : World) (hr : Kd.C k105 w As gates.length gates) (hc : gates.length ≤ cs) (h : circuit_Check.f k s0 s1 s2 s3 s4 gates = some e0) (hk : e0 = 0 → (∀ g ∈ gates, 1 ≤ g.f0 ∧ g.f0 ≤ 8) ∧ gates.length ≤ 100) :
  Calls Try.prog 58 #[.agg #[.int .i64 s0, .int .i64 s1, .int .i64 s2, .int .i64 s3, .int .i64 s4, .slice As gates.length cs]] w (LayPost w (layBd s0 gates e0) (layErr s0 gates e0)) := by
 by_cases he : e0 = 0
 ·subst he
  exact lay_ok k s0 s1 s2 s3 s4 As cs gates 0 w hr hc h rfl (hk rfl).1 (hk rfl).2
 ·have h1 : layErr s0 gates e0 = e0 := by unfold layErr; rw [if_pos he]
  have h2 : layBd s0 gates e0 = ⟨[], [], []⟩ := by unfold layBd; rw [h1, if_neg he]
  rw [h1, h2]
  exact lay_err k s0 s1 s2 s3 s4 As cs gates e0 w hr hc h (by simpa using he)
def kindsOk (l : List S105) : Bool := l.all (fun g => decide (1 ≤ g.f0 ∧ g.f0 ≤ 8)) && decide (l.length ≤ 100)
theorem below_lower {base base' : Nat} {w w' : World} (h : Below base' w w') (hb : base ≤ base') : Below base w w' := ⟨h.os, h.tape, h.output, h.size, fun i hi => h.block i (Nat.lt_of_lt_of_le hi hb)⟩
/-! ### circuit_Wires: function 14 -/
def circuit_Wires.f (k : Nat) (a0_0 a0_1 a0_2 a0_3 a0_4 : Int) (l0_5 : List S105) : Option (List S76 × Int) := (circuit_Check.f k a0_0 a0_1 a0_2 a0_3 a0_4 l0_5).bind fun e => if e = 0 ∧ kindsOk l0_5 = false then none else some ((layBd a0_0 l0_5 e).ws, layErr a0_0 l0_5 e)
theorem circuit_Wires.mono : ∀ (a0_0 a0_1 a0_2 a0_3 a0_4 : Int) (l0_5 : List S105) (k : Nat), LeO (circuit_Wires.f k a0_0 a0_1 a0_2 a0_3 a0_4 l0_5) (circuit_Wires.f (k + 1) a0_0 a0_1 a0_2 a0_3 a0_4 l0_5) := fun _ _ _ _ _ _ k => LeO.bind (circuit_Check.mono _ _ _ _ _ _ k) (fun _ => LeO.refl _)
set_option maxHeartbeats 4000000 in
set_option maxRecDepth 100000 in
theorem circuit_Wires.calls (k : Nat) (a0_0 : Int) (a0_1 : Int) (a0_2 : Int) (a0_3 : Int) (a0_4 : Int) (A0_5 : Option Addr) (c0_5 : Nat) (l0_5 : List S105) (r1 : List S76) (r2 : Int) (w : World) (hr0_5 : Kd.C k105 w A0_5 l0_5.length l0_5) (hc0_5 : l0_5.length ≤ c0_5) (h : circuit_Wires.f k a0_0 a0_1 a0_2 a0_3 a0_4 l0_5 = some (r1, r2)) :
  Calls Try.prog 14 #[.agg #[.int .i64 a0_0, .int .i64 a0_1, .int .i64 a0_2, .int .i64 a0_3, .int .i64 a0_4, .slice A0_5 l0_5.length c0_5]] w fun e w' => ∃ v0_ : Value, e = .returned (.tuple #[v0_, .int .i64 r2]) ∧ Kd.R k76 76 w' w.heap.size (fun _ => True) v0_ r1 ∧ Below w.heap.size w w' := by
 obtain ⟨e0, hC, h2⟩ := Option.bind_eq_some_iff.1 h
 have h3 : ¬ (e0 = 0 ∧ kindsOk l0_5 = false) ∧ r1 = (layBd a0_0 l0_5 e0).ws ∧ r2 = layErr a0_0 l0_5 e0 := by
  by_cases hq : e0 = 0 ∧ kindsOk l0_5 = false
  ·rw [if_pos hq] at h2; cases h2
  ·rw [if_neg hq] at h2; injection h2 with h2; injection h2 with ha hb; exact ⟨hq, ha.symm, hb.symm⟩
 obtain ⟨hq, rfl, rfl⟩ := h3
 have hk : e0 = 0 → (∀ g ∈ l0_5, 1 ≤ g.f0 ∧ g.f0 ≤ 8) ∧ l0_5.length ≤ 100 := by
  intro he
  have : kindsOk l0_5 = true := by cases hb : kindsOk l0_5 with | true => rfl | false => exact absurd ⟨he, hb⟩ hq
  simpa [kindsOk] using this
 have HRD := Aside0.mk hr0_5; have HC := Aside0.mk hc0_5; have HCK := Aside0.mk hC; have HK := Aside0.mk hk
 clear h h2 hq hr0_5 hc0_5 hC hk; have hu24 := Try.underlying24; have hu108 := Try.underlying108
 go_enter Try.func14, Try.ntmps14
 go_wp2_with (first | ((with_reducible refine gate_dst (N := 1) rfl ?_); refine box_event rfl (N := 1) rfl (cs := #[.int .i64 a0_0, .int .i64 a0_1, .int .i64 a0_2, .int .i64 a0_3, .int .i64 a0_4, .slice A0_5 l0_5.length c0_5]) (t := 24) (by first | (go_simp; done) | (go_simp; rfl)) ?_; intro gs hgs wgs hbox hb; have BKgs := Aside0.mk hbox; have HBgs := Aside0.mk hb; clear hbox hb hgs; have hcs0 := (blk_cell BKgs.out 0).trans rfl; have hcs1 := (blk_cell BKgs.out 1).trans rfl; have hcs2 := (blk_cell BKgs.out 2).trans rfl; have hcs3 := (blk_cell BKgs.out 3).trans rfl; have hcs4 := (blk_cell BKgs.out 4).trans rfl; have hcs5 := (blk_cell BKgs.out 5).trans rfl; have HBW := Aside0.mk HBgs.out) | (go_at_call 58; (with_reducible refine (lay_any k a0_0 a0_1 a0_2 a0_3 a0_4 A0_5 c0_5 l0_5 e0 _ (Kd.C_below HRD.out HBW.out) HC.out HCK.out HK.out).mono ?_); rintro e w' ⟨vw, vc, Al, nl, kl, rfl, hw_, hc_, hb⟩; obtain ⟨Aw, cw, ew⟩ := Kd.R_slice hw_; obtain ⟨Ac, cc, ec⟩ := Kd.R_slice hc_; subst ew ec; have RWW := Aside0.mk hw_; have RCC := Aside0.mk hc_; have HB2 := Aside0.mk (HBW.out.trans (below_lower hb (below_size HBW.out))); clear hw_ hc_ hb) | ((with_reducible refine gate_dst (N := 4) rfl ?_); refine box_event rfl (N := 4) rfl (cs := #[.slice none 0 0, .slice none 0 0, .slice none 0 0]) (t := 108) (by first | (go_simp; done) | (go_simp; rfl)) ?_; intro gb hgb wgb hbox hb; have BKgb := Aside0.mk hbox; have HBgb := Aside0.mk hb; have HGB := Aside0.mk hgb; clear hbox hb hgb; have GEb := Aside0.mk (by rw [HGB.out]; exact below_size HB2.out : w.heap.size ≤ gb); have hcb0 := (blk_cell BKgb.out 0).trans rfl; have hfb0 := blk_frozen BKgb.out 0; have hcb1 := (blk_cell BKgb.out 1).trans rfl; have hfb1 := blk_frozen BKgb.out 1; have hcb2 := (blk_cell BKgb.out 2).trans rfl; have hfb2 := blk_frozen BKgb.out 2))
 go_ret2
 refine ⟨_, rfl, ?_, ?_⟩
 ·exact (Kd.R_lower (Kd.R_mono (Kd.R_set (Kd.R_set (Kd.R_set (Kd.R_below RWW.out HBgb.out) BKgb.out (by decide) 0 _) (blk_set BKgb.out 0 _) (by decide) 1 _) (blk_set (blk_set BKgb.out 0 _) 1 _) (by decide) 2 _) (fun _ _ => trivial)) (below_size HBW.out))
 ·exact ((((below_step HB2.out HBgb.out).setCell GEb.out _).setCell GEb.out _).setCell GEb.out _)
/-! ### circuit_Conds: function 15 -/
def circuit_Conds.f (k : Nat) (a0_0 a0_1 a0_2 a0_3 a0_4 : Int) (l0_5 : List S105) : Option (List (List S118) × Int) := (circuit_Check.f k a0_0 a0_1 a0_2 a0_3 a0_4 l0_5).bind fun e => if e = 0 ∧ kindsOk l0_5 = false then none else some ((layBd a0_0 l0_5 e).cs, layErr a0_0 l0_5 e)
theorem circuit_Conds.mono : ∀ (a0_0 a0_1 a0_2 a0_3 a0_4 : Int) (l0_5 : List S105) (k : Nat), LeO (circuit_Conds.f k a0_0 a0_1 a0_2 a0_3 a0_4 l0_5) (circuit_Conds.f (k + 1) a0_0 a0_1 a0_2 a0_3 a0_4 l0_5) := fun _ _ _ _ _ _ k => LeO.bind (circuit_Check.mono _ _ _ _ _ _ k) (fun _ => LeO.refl _)
set_option maxHeartbeats 4000000 in
set_option maxRecDepth 100000 in
theorem circuit_Conds.calls (k : Nat) (a0_0 : Int) (a0_1 : Int) (a0_2 : Int) (a0_3 : Int) (a0_4 : Int) (A0_5 : Option Addr) (c0_5 : Nat) (l0_5 : List S105) (r1 : List (List S118)) (r2 : Int) (w : World) (hr0_5 : Kd.C k105 w A0_5 l0_5.length l0_5) (hc0_5 : l0_5.length ≤ c0_5) (h : circuit_Conds.f k a0_0 a0_1 a0_2 a0_3 a0_4 l0_5 = some (r1, r2)) :
  Calls Try.prog 15 #[.agg #[.int .i64 a0_0, .int .i64 a0_1, .int .i64 a0_2, .int .i64 a0_3, .int .i64 a0_4, .slice A0_5 l0_5.length c0_5]] w fun e w' => ∃ v0_ : Value, e = .returned (.tuple #[v0_, .int .i64 r2]) ∧ Kd.N (Kd.slice 118 k118) 50 w' w.heap.size (fun k_ => (w.heap.size ≤ k_)) v0_ r1 ∧ Below w.heap.size w w' := by
 obtain ⟨e0, hC, h2⟩ := Option.bind_eq_some_iff.1 h
 have h3 : ¬ (e0 = 0 ∧ kindsOk l0_5 = false) ∧ r1 = (layBd a0_0 l0_5 e0).cs ∧ r2 = layErr a0_0 l0_5 e0 := by
  by_cases hq : e0 = 0 ∧ kindsOk l0_5 = false
  ·rw [if_pos hq] at h2; cases h2
  ·rw [if_neg hq] at h2; injection h2 with h2; injection h2 with ha hb; exact ⟨hq, ha.symm, hb.symm⟩
 obtain ⟨hq, rfl, rfl⟩ := h3
 have hk : e0 = 0 → (∀ g ∈ l0_5, 1 ≤ g.f0 ∧ g.f0 ≤ 8) ∧ l0_5.length ≤ 100 := by
  intro he
  have : kindsOk l0_5 = true := by cases hb : kindsOk l0_5 with | true => rfl | false => exact absurd ⟨he, hb⟩ hq
  simpa [kindsOk] using this
 have HRD := Aside0.mk hr0_5; have HC := Aside0.mk hc0_5; have HCK := Aside0.mk hC; have HK := Aside0.mk hk
 clear h h2 hq hr0_5 hc0_5 hC hk; have hu24 := Try.underlying24; have hu108 := Try.underlying108
 go_enter Try.func15, Try.ntmps15
 go_wp2_with (first | ((with_reducible refine gate_dst (N := 1) rfl ?_); refine box_event rfl (N := 1) rfl (cs := #[.int .i64 a0_0, .int .i64 a0_1, .int .i64 a0_2, .int .i64 a0_3, .int .i64 a0_4, .slice A0_5 l0_5.length c0_5]) (t := 24) (by first | (go_simp; done) | (go_simp; rfl)) ?_; intro gs hgs wgs hbox hb; have BKgs := Aside0.mk hbox; have HBgs := Aside0.mk hb; clear hbox hb hgs; have hcs0 := (blk_cell BKgs.out 0).trans rfl; have hcs1 := (blk_cell BKgs.out 1).trans rfl; have hcs2 := (blk_cell BKgs.out 2).trans rfl; have hcs3 := (blk_cell BKgs.out 3).trans rfl; have hcs4 := (blk_cell BKgs.out 4).trans rfl; have hcs5 := (blk_cell BKgs.out 5).trans rfl; have HBW := Aside0.mk HBgs.out) | (go_at_call 58; (with_reducible refine (lay_any k a0_0 a0_1 a0_2 a0_3 a0_4 A0_5 c0_5 l0_5 e0 _ (Kd.C_below HRD.out HBW.out) HC.out HCK.out HK.out).mono ?_); rintro e w' ⟨vw, vc, Al, nl, kl, rfl, hw_, hc_, hb⟩; obtain ⟨Aw, cw, ew⟩ := Kd.R_slice hw_; obtain ⟨Ac, cc, ec⟩ := Kd.R_slice hc_; subst ew ec; have RWW := Aside0.mk hw_; have RCC := Aside0.mk hc_; have HB2 := Aside0.mk (HBW.out.trans (below_lower hb (below_size HBW.out))); clear hw_ hc_ hb) | ((with_reducible refine gate_dst (N := 4) rfl ?_); refine box_event rfl (N := 4) rfl (cs := #[.slice none 0 0, .slice none 0 0, .slice none 0 0]) (t := 108) (by first | (go_simp; done) | (go_simp; rfl)) ?_; intro gb hgb wgb hbox hb; have BKgb := Aside0.mk hbox; have HBgb := Aside0.mk hb; have HGB := Aside0.mk hgb; clear hbox hb hgb; have GEb := Aside0.mk (by rw [HGB.out]; exact below_size HB2.out : w.heap.size ≤ gb); have hcb0 := (blk_cell BKgb.out 0).trans rfl; have hfb0 := blk_frozen BKgb.out 0; have hcb1 := (blk_cell BKgb.out 1).trans rfl; have hfb1 := blk_frozen BKgb.out 1; have hcb2 := (blk_cell BKgb.out 2).trans rfl; have hfb2 := blk_frozen BKgb.out 2))
 go_ret2
 refine ⟨_, rfl, ?_, ?_⟩
 ·exact Kd.R_N (Kd.R_mono (Kd.R_bound (Kd.R_lower (Kd.R_mono (Kd.R_set (Kd.R_set (Kd.R_set (Kd.R_below RCC.out HBgb.out) BKgb.out (by decide) 0 _) (blk_set BKgb.out 0 _) (by decide) 1 _) (blk_set (blk_set BKgb.out 0 _) 1 _) (by decide) 2 _) (fun _ _ => trivial)) (below_size HBW.out))) (fun k hk => hk.2.1))
 ·exact ((((below_step HB2.out HBgb.out).setCell GEb.out _).setCell GEb.out _).setCell GEb.out _)
/-! ### circuit_Used: function 22 -/
def circuit_Used.f (k : Nat) (a0_0 : Int) (a0_1 : Int) (a0_2 : Int) (a0_3 : Int) (a0_4 : Int) (l0_5 : List (S105)) : Option (Int) := (circuit_look.f k a0_0 a0_1 a0_2 a0_3 a0_4 l0_5).bind fun bt119 => (some bt119.1)
theorem circuit_Used.mono : ∀ a0 a1 a2 a3 a4 a5 k, LeO (circuit_Used.f k a0 a1 a2 a3 a4 a5) (circuit_Used.f (k + 1) a0 a1 a2 a3 a4 a5) := by
 intro a0 a1 a2 a3 a4 a5 k
 unfold circuit_Used.f
 repeat' first
   | (with_reducible exact circuit_look.mono _ _ _ _ _ _ _)
   | (with_reducible exact LeO.refl _)
   | (with_reducible exact LeO.none _)
   | (with_reducible refine LeO.ite ?_ ?_)
   | (with_reducible refine LeO.bind ?_ (fun _ => ?_))
   | exact circuit_look.mono _ _ _ _ _ _ _
   | exact LeO.none _
   | refine LeO.ite ?_ ?_
   | refine LeO.bind ?_ (fun _ => ?_)
set_option maxHeartbeats 8000000 in
set_option maxRecDepth 100000 in
theorem circuit_Used.calls (k : Nat) (a0_0 : Int) (a0_1 : Int) (a0_2 : Int) (a0_3 : Int) (a0_4 : Int) (A0_5 : Option Addr) (c0_5 : Nat) (l0_5 : List (S105)) (r : Int) (w : World) (hr0_5 : Kd.C k105 w A0_5 l0_5.length l0_5) (hc0_5 : l0_5.length ≤ c0_5) (h : circuit_Used.f k a0_0 a0_1 a0_2 a0_3 a0_4 l0_5 = some r) :
  Calls Try.prog 22 #[.agg #[.int .i64 a0_0, .int .i64 a0_1, .int .i64 a0_2, .int .i64 a0_3, .int .i64 a0_4, .slice A0_5 l0_5.length c0_5]] w fun e w' => e = .returned (.int .i64 r) ∧ Below w.heap.size w w' := by
 have hu24 := Try.underlying24; have HR0_5 := Aside0.mk hr0_5; have HC0_5 := Aside0.mk hc0_5; clear hr0_5 hc0_5; have HB := Aside0.mk (Below.refl w.heap.size w)
 have H : ((circuit_look.f k a0_0 a0_1 a0_2 a0_3 a0_4 l0_5).bind fun bt119 => (some bt119.1)) = some r := h
 clear h; replace H := Option.bind_eq_some_iff.mp H
 obtain ⟨⟨t119, t120⟩, A20, H⟩ := H
 (try dsimp only at H); have A2 := Aside0.mk A20; clear A20; obtain rfl := Option.some.inj H
 go_enter Try.func22, Try.ntmps22
 go_wp2_with (first | ((with_reducible refine gate_dst (N := 1) rfl ?_); refine box_event ?hg (N := 1) ?hd (cs := #[.int .i64 a0_0, .int .i64 a0_1, .int .i64 a0_2, .int .i64 a0_3, .int .i64 a0_4, .slice A0_5 l0_5.length c0_5]) (t := 24) ?hr ?_; (case hd => rfl); (case hg => rfl); (case hr => first | (go_simp; done) | (go_simp; rfl)); intro gb118 hg w3 hbox hb; have n0_ := Aside0.mk (below_step (blA HB.out) hb); have n1_ := Aside0.mk (hbox); have n2_ := Aside0.mk ((by rw [hg]; exact (below_size (blA HB.out)) : w.heap.size ≤ gb118)); have n3_ := Aside0.mk ((by rw [hg]; exact (below_size (blA HB.out)) : w.heap.size ≤ gb118)); clear HB; have HB := n0_; have BK118 := n1_; have GW118 := n2_; have GE118 := n3_; clear n0_ n1_ n2_ n3_; clear hb hbox hg; have hcz4 := fun i => blk_cell BK118.out i; have hfz4 := fun i => blk_frozen BK118.out i; ) | ((with_reducible refine gate_callee (f := 64) rfl ?_); refine goesL_ (some 7) rfl rfl Try.func64 (by kernel_rfl) rfl #[.agg #[.int .i64 a0_0, .int .i64 a0_1, .int .i64 a0_2, .int .i64 a0_3, .int .i64 a0_4, .slice A0_5 l0_5.length c0_5]] rfl gsA ?_; (with_reducible refine (circuit_look.calls k a0_0 a0_1 a0_2 a0_3 a0_4 _ _ l0_5 t119 t120 _ ?side1 ?side2 A2.out).mono ?_); (case side1 => repeat (first | exact (Kd.C_below HR0_5.out HB.out) | (with_reducible refine Kd.C_alloc ?_ _) | (with_reducible refine Kd.C_drewN ?_ _) | (with_reducible refine Kd.C_drew ?_))); (case side2 => exact HC0_5.out); rintro e w5 ⟨rfl, hb⟩; refine ⟨_, rfl, ?_⟩; have n0_ := Aside0.mk (blk_below (bkA BK118.out) hb); have n1_ := Aside0.mk (below_step (blA HB.out) hb); clear BK118; clear HB; have BK118 := n0_; have HB := n1_; clear n0_ n1_; (try clear hb)))
 go_ret
 exact ⟨by first | rfl | (simp [errW_none, errW_some] <;> rfl) | (simp [*, errW_none, errW_some] <;> rfl), blA HB.out⟩
end Go.Proofs.Ythiiodgpdoljoaa.PLc
namespace Go.Proofs.Ythiiodgpdoljoaa.PLc
open Go.RowKit Go.Proofs.YthiiodgpdoljoaaW.PrintWords Go.Proofs.YthiiodgpdoljoaaW.PrintLast Go.Proofs.YthiiodgpdoljoaaW.PrintMore
attribute [local go_sem] max2_int min2_int max_two min_two max_three min_three max_four min_four   -- for this text's walks alone
set_option linter.unusedVariables false
set_option linter.unusedSimpArgs false
attribute [local go_sem high] eqA76
/-! ### steeplelaw25_awake: function 12 -/
def steeplelaw25_awake.f (k : Nat)  : Option (Bool) := (some (([(⟨2, 2, 0, 1, 0⟩ : S105)] : List (S105)) : List (S105))).bind fun y121 => ((circuit_Wires.f k 0 0 2 2 0 y121).bind fun bt125 => ((circuit_Conds.f k 0 0 2 2 0 y121).bind fun bt129 => (if bt125.2 = 0 then (if bt129.2 = 0 then (if (bt125.1.length : Int) = 3 then (if 0 < (bt125.1.length : Int) then (if (((rd_T76 bt125.1 0).f0) == 2 && (((rd_T76 bt125.1 0).f1) == 0 && (((rd_T76 bt125.1 0).f2) == 0 && ((((rd_T76 bt125.1 0).f3.f0) == 0 && (((rd_T76 bt125.1 0).f3.f1) == 0)))))) = true then (if 1 < (bt125.1.length : Int) then (if (((rd_T76 bt125.1 1).f0) == 0 && (((rd_T76 bt125.1 1).f1) == 0 && (((rd_T76 bt125.1 1).f2) == 0 && ((((rd_T76 bt125.1 1).f3.f0) == 0 && (((rd_T76 bt125.1 1).f3.f1) == 0)))))) = true then (if (bt129.1.length : Int) = 1 then (if 0 < (bt129.1.length : Int) then (if ((rd_L9 bt129.1 0).length : Int) = 5 then ((circuit_Used.f k 0 0 2 2 0 y121).bind fun t136 => (some (t136 == 3))) else (some false)) else (none)) else (some false)) else (some false)) else (none)) else (some false)) else (none)) else (some false)) else (some false)) else (some false))))
theorem steeplelaw25_awake.mono : ∀ k, LeO (steeplelaw25_awake.f k ) (steeplelaw25_awake.f (k + 1) ) := by
 intro  k
 unfold steeplelaw25_awake.f
 repeat' first
   | (with_reducible exact circuit_Conds.mono _ _ _ _ _ _ _)
   | (with_reducible exact circuit_Used.mono _ _ _ _ _ _ _)
   | (with_reducible exact circuit_Wires.mono _ _ _ _ _ _ _)
   | (with_reducible exact LeO.refl _)
   | (with_reducible exact LeO.none _)
   | (with_reducible refine LeO.ite ?_ ?_)
   | (with_reducible refine LeO.bind ?_ (fun _ => ?_))
   | exact circuit_Conds.mono _ _ _ _ _ _ _
   | exact circuit_Used.mono _ _ _ _ _ _ _
   | exact circuit_Wires.mono _ _ _ _ _ _ _
   | exact LeO.none _
   | refine LeO.ite ?_ ?_
   | refine LeO.bind ?_ (fun _ => ?_)
set_option maxHeartbeats 8000000 in
set_option maxRecDepth 100000 in
theorem steeplelaw25_awake.calls (k : Nat)  (r : Bool) (w : World) (h : steeplelaw25_awake.f k  = some r) :
  Calls Try.prog 12 #[] w fun e w' => e = .returned (.bool r) ∧ Below w.heap.size w w' := by
 have hu105 := Try.underlying105; have hu24 := Try.underlying24; have hu76 := Try.underlying76; have HB := Aside0.mk (Below.refl w.heap.size w)
 have H : ((some (([(⟨2, 2, 0, 1, 0⟩ : S105)] : List (S105)) : List (S105))).bind fun y121 => ((circuit_Wires.f k 0 0 2 2 0 y121).bind fun bt125 => ((circuit_Conds.f k 0 0 2 2 0 y121).bind fun bt129 => (if bt125.2 = 0 then (if bt129.2 = 0 then (if (bt125.1.length : Int) = 3 then (if 0 < (bt125.1.length : Int) then (if (((rd_T76 bt125.1 0).f0) == 2 && (((rd_T76 bt125.1 0).f1) == 0 && (((rd_T76 bt125.1 0).f2) == 0 && ((((rd_T76 bt125.1 0).f3.f0) == 0 && (((rd_T76 bt125.1 0).f3.f1) == 0)))))) = true then (if 1 < (bt125.1.length : Int) then (if (((rd_T76 bt125.1 1).f0) == 0 && (((rd_T76 bt125.1 1).f1) == 0 && (((rd_T76 bt125.1 1).f2) == 0 && ((((rd_T76 bt125.1 1).f3.f0) == 0 && (((rd_T76 bt125.1 1).f3.f1) == 0)))))) = true then (if (bt129.1.length : Int) = 1 then (if 0 < (bt129.1.length : Int) then (if ((rd_L9 bt129.1 0).length : Int) = 5 then ((circuit_Used.f k 0 0 2 2 0 y121).bind fun t136 => (some (t136 == 3))) else (some false)) else (none)) else (some false)) else (some false)) else (none)) else (some false)) else (none)) else (some false)) else (some false)) else (some false))))) = some r := h
 clear h
 obtain ⟨y121, hy121⟩ : ∃ y_ : List (S105), y_ = (([(⟨2, 2, 0, 1, 0⟩ : S105)] : List (S105))) := ⟨_, rfl⟩
 replace H : ((circuit_Wires.f k 0 0 2 2 0 y121).bind fun bt125 => ((circuit_Conds.f k 0 0 2 2 0 y121).bind fun bt129 => (if bt125.2 = 0 then (if bt129.2 = 0 then (if (bt125.1.length : Int) = 3 then (if 0 < (bt125.1.length : Int) then (if (((rd_T76 bt125.1 0).f0) == 2 && (((rd_T76 bt125.1 0).f1) == 0 && (((rd_T76 bt125.1 0).f2) == 0 && ((((rd_T76 bt125.1 0).f3.f0) == 0 && (((rd_T76 bt125.1 0).f3.f1) == 0)))))) = true then (if 1 < (bt125.1.length : Int) then (if (((rd_T76 bt125.1 1).f0) == 0 && (((rd_T76 bt125.1 1).f1) == 0 && (((rd_T76 bt125.1 1).f2) == 0 && ((((rd_T76 bt125.1 1).f3.f0) == 0 && (((rd_T76 bt125.1 1).f3.f1) == 0)))))) = true then (if (bt129.1.length : Int) = 1 then (if 0 < (bt129.1.length : Int) then (if ((rd_L9 bt129.1 0).length : Int) = 5 then ((circuit_Used.f k 0 0 2 2 0 y121).bind fun t136 => (some (t136 == 3))) else (some false)) else (none)) else (some false)) else (some false)) else (none)) else (some false)) else (none)) else (some false)) else (some false)) else (some false)))) = some r := by first | (rw [hy121]; with_reducible exact H) | (have H2_ := (Option.bind_some _ _).symm.trans H; rw [hy121]; with_reducible exact H2_) | (have H2_ := (Option.bind_some _ _).symm.trans H; with_reducible exact H2_) | with_reducible exact H | (rw [hy121]; exact H) | exact H
 have Ny121 := Aside0.mk hy121; clear hy121; replace H := Option.bind_eq_some_iff.mp H
 obtain ⟨⟨t125, t128⟩, A10, H⟩ := H
 (try dsimp only at H)
 have A1 := Aside0.mk A10; clear A10; replace H := Option.bind_eq_some_iff.mp H
 obtain ⟨⟨t129, t132⟩, A20, H⟩ := H
 (try dsimp only at H)
 have A2 := Aside0.mk A20; clear A20
 by_cases c3 : t128 = 0
 ·rw [if_pos c3] at H
  have c3b0 : (t128 == 0) = true := beq_iff_eq.mpr c3; have c3b1 : (t128 != 0) = false := bne_eq_false_iff_eq.mpr c3; clear c3
  by_cases c4 : t132 = 0
  ·rw [if_pos c4] at H
   have c4b0 : (t132 == 0) = true := beq_iff_eq.mpr c4; have c4b1 : (t132 != 0) = false := bne_eq_false_iff_eq.mpr c4; clear c4
   by_cases c5 : (t125.length : Int) = 3
   ·rw [if_pos c5] at H
    have c5b0 : ((t125.length : Int) == 3) = true := beq_iff_eq.mpr c5; have c5b1 : ((t125.length : Int) != 3) = false := bne_eq_false_iff_eq.mpr c5; clear c5
    by_cases c6 : 0 < (t125.length : Int)
    ·rw [if_pos c6] at H
     have c6b0 : decide (0 < (t125.length : Int)) = true := decide_eq_true c6
     have c6b1 : decide (0 < t125.length) = true := decide_eq_true (by omega)
     clear c6
     by_cases c7 : (((rd_T76 t125 0).f0) == 2 && (((rd_T76 t125 0).f1) == 0 && (((rd_T76 t125 0).f2) == 0 && ((((rd_T76 t125 0).f3.f0) == 0 && (((rd_T76 t125 0).f3.f1) == 0)))))) = true
     ·rw [if_pos c7] at H
      have c7b0 : (((rd_T76 t125 0).f0) == 2 && (((rd_T76 t125 0).f1) == 0 && (((rd_T76 t125 0).f2) == 0 && ((((rd_T76 t125 0).f3.f0) == 0 && (((rd_T76 t125 0).f3.f1) == 0)))))) = true := c7
      (try (have c7b1 : decide (((rd_T76 t125 0).f0) = 2 && (((rd_T76 t125 0).f1) == 0 && (((rd_T76 t125 0).f2) == 0 && ((((rd_T76 t125 0).f3.f0) == 0 && (((rd_T76 t125 0).f3.f1) == 0)))))) = true := by simpa using c7))
      (try (have c7b2 : (((rd_T76 t125 0).f0) == 2 && (((rd_T76 t125 0).f1) == 0 && (((rd_T76 t125 0).f2) == 0 && ((((rd_T76 t125 0).f3.f0) == 0 && (((rd_T76 t125 0).f3.f1) == 0)))))) = true := by simpa using c7))
      clear c7
      by_cases c8 : 1 < (t125.length : Int)
      ·rw [if_pos c8] at H
       have c8b0 : decide (1 < (t125.length : Int)) = true := decide_eq_true c8
       have c8b1 : decide (1 < t125.length) = true := decide_eq_true (by omega)
       clear c8
       by_cases c9 : (((rd_T76 t125 1).f0) == 0 && (((rd_T76 t125 1).f1) == 0 && (((rd_T76 t125 1).f2) == 0 && ((((rd_T76 t125 1).f3.f0) == 0 && (((rd_T76 t125 1).f3.f1) == 0)))))) = true
       ·rw [if_pos c9] at H
        have c9b0 : (((rd_T76 t125 1).f0) == 0 && (((rd_T76 t125 1).f1) == 0 && (((rd_T76 t125 1).f2) == 0 && ((((rd_T76 t125 1).f3.f0) == 0 && (((rd_T76 t125 1).f3.f1) == 0)))))) = true := c9
        (try (have c9b1 : decide (((rd_T76 t125 1).f0) = 0 && (((rd_T76 t125 1).f1) == 0 && (((rd_T76 t125 1).f2) == 0 && ((((rd_T76 t125 1).f3.f0) == 0 && (((rd_T76 t125 1).f3.f1) == 0)))))) = true := by simpa using c9))
        (try (have c9b2 : (((rd_T76 t125 1).f0) == 0 && (((rd_T76 t125 1).f1) == 0 && (((rd_T76 t125 1).f2) == 0 && ((((rd_T76 t125 1).f3.f0) == 0 && (((rd_T76 t125 1).f3.f1) == 0)))))) = true := by simpa using c9))
        clear c9
        by_cases c10 : (t129.length : Int) = 1
        ·rw [if_pos c10] at H
         have c10b0 : ((t129.length : Int) == 1) = true := beq_iff_eq.mpr c10; have c10b1 : ((t129.length : Int) != 1) = false := bne_eq_false_iff_eq.mpr c10; clear c10
         by_cases c11 : 0 < (t129.length : Int)
         ·rw [if_pos c11] at H
          have c11b0 : decide (0 < (t129.length : Int)) = true := decide_eq_true c11
          have c11b1 : decide (0 < t129.length) = true := decide_eq_true (by omega)
          clear c11
          by_cases c12 : ((rd_L9 t129 0).length : Int) = 5
          ·rw [if_pos c12] at H
           have c12b0 : (((rd_L9 t129 0).length : Int) == 5) = true := beq_iff_eq.mpr c12; have c12b1 : (((rd_L9 t129 0).length : Int) != 5) = false := bne_eq_false_iff_eq.mpr c12; clear c12; replace H := Option.bind_eq_some_iff.mp H; obtain ⟨t136, A130, H⟩ := H; replace H : (some (t136 == 3)) = some r := H; have A13 := Aside0.mk A130; clear A130; obtain rfl := Option.some.inj H
           go_enter Try.func12, Try.ntmps12
           go_wp2_with (first | ((with_reducible refine gate_dst (N := 7) rfl ?_); (try (refine gate_guard (by rfl) ?_; dsimp only)); refine Kd.R_lit k105 _ 105 ?hg (N := 7) ?hd (xs := ([(⟨2, 2, 0, 1, 0⟩ : S105)] : List (S105))) (inner := [.int .i64 2, .int .i64 2, .int .i64 0, .int .i64 1, .int .i64 0]) (ok := fun _ => True) (okp := fun _ => True) ?hr ?hp (fun _ hk => hk) trivial (Below.refl _ _) (Nat.le_refl _) (by simp) ?_; (case hd => rfl); (case hg => rfl); (case hr => first | (go_simp; done) | (go_simp; rfl)); (case hp => exact (Reps.c5 (show Kd.M k105 _ _ _ (⟨2, 2, 0, 1, 0⟩ : S105) [.int .i64 2, .int .i64 2, .int .i64 0, .int .i64 1, .int .i64 0] from (k105_mkM _ _ _ (⟨2, 2, 0, 1, 0⟩ : S105) )) (Reps.none _ _))); intro v122 w14 ho15 hb hg_ hnew_; clear hg_ hnew_; (first | rw [← Ny121.out] at ho15 | (simp only [Int.reduceToNat] at ho15; rw [← Ny121.out] at ho15)); have n0_ := Aside0.mk (Kd.R_lower ho15 (below_size (blA HB.out))); have n1_ := Aside0.mk (below_step (blA HB.out) hb); clear HB; have HO123 := n0_; have HB := n1_; clear n0_ n1_; clear hb ho15; obtain ⟨Ao16, co16, eo16⟩ := Kd.R_slice HO123.out; subst eo16) | ((with_reducible refine gate_dst (N := 1) rfl ?_); (try (refine gate_guard (by rfl) ?_; dsimp only)); refine box_event ?hg (N := 1) ?hd (cs := #[.int .i64 0, .int .i64 0, .int .i64 0, .int .i64 0, .int .i64 0, .slice none 0 0]) (t := 24) ?hr ?_; (case hd => rfl); (case hg => rfl); (case hr => first | (go_simp; done) | (go_simp; rfl)); intro gb124 hg w17 hbox hb; have n0_ := Aside0.mk (Kd.R_below (raA HO123.out) hb); have n1_ := Aside0.mk (below_step (blA HB.out) hb); have n2_ := Aside0.mk (hbox); have n3_ := Aside0.mk ((by rw [hg]; exact (below_size (blA HB.out)) : w.heap.size ≤ gb124)); have n4_ := Aside0.mk ((by rw [hg]; exact (below_size (blA HB.out)) : w.heap.size ≤ gb124)); clear HO123; clear HB; have HO123 := n0_; have HB := n1_; have BK124 := n2_; have GW124 := n3_; have GE124 := n4_; clear n0_ n1_ n2_ n3_ n4_; clear hb hbox hg; have hcz18 := fun i => blk_cell BK124.out i; have hfz18 := fun i => blk_frozen BK124.out i; ) | ((with_reducible refine gate_callee (f := 14) rfl ?_); refine goesL_ (some 11) rfl rfl Try.func14 (by kernel_rfl) rfl #[.agg #[.int .i64 0, .int .i64 0, .int .i64 2, .int .i64 2, .int .i64 0, .slice Ao16 y121.length co16]] rfl gsA ?_; (with_reducible refine (circuit_Wires.calls k 0 0 2 2 0 _ _ y121 t125 t128 _ ?side1 ?side2 A1.out).mono ?_); (case side1 => refine (Kd.R_reads' (e := 105) (base := w.heap.size) (ok := fun k_ => True) (n := y121.length) (c := co16) ?_).2.2; exact (by (with_reducible repeat (first | apply Kd.R_alloc | apply Kd.R_drewN | apply Kd.R_drew)); exact (Kd.R_mono (Kd.R_far (p := ⟨gb124, 5, none⟩) (Kd.R_far (p := ⟨gb124, 4, none⟩) (Kd.R_far (p := ⟨gb124, 3, none⟩) (Kd.R_far (p := ⟨gb124, 2, none⟩) (Kd.R_far (p := ⟨gb124, 1, none⟩) (Kd.R_far (p := ⟨gb124, 0, none⟩) (Kd.R_types HO123.out BK124.out (by decide)) (fun _ hk => hk.2) (.int .i64 0)) (fun _ hk => hk.2) (.int .i64 0)) (fun _ hk => hk.2) (.int .i64 2)) (fun _ hk => hk.2) (.int .i64 2)) (fun _ hk => hk.2) (.int .i64 0)) (fun _ hk => hk.2) (.slice Ao16 y121.length co16)) (fun _ h_ => h_.1)))); (case side2 => exact (Kd.R_reads' HO123.out).2.1); rintro e w19 ⟨v126, rfl, ho0, hb⟩; refine ⟨_, rfl, ?_⟩; have n0_ := Aside0.mk (Kd.R_below (by (with_reducible repeat (first | apply Kd.R_alloc | apply Kd.R_drewN | apply Kd.R_drew)); exact (Kd.R_mono (Kd.R_far (p := ⟨gb124, 5, none⟩) (Kd.R_far (p := ⟨gb124, 4, none⟩) (Kd.R_far (p := ⟨gb124, 3, none⟩) (Kd.R_far (p := ⟨gb124, 2, none⟩) (Kd.R_far (p := ⟨gb124, 1, none⟩) (Kd.R_far (p := ⟨gb124, 0, none⟩) (Kd.R_types HO123.out BK124.out (by decide)) (fun _ hk => hk.2) (.int .i64 0)) (fun _ hk => hk.2) (.int .i64 0)) (fun _ hk => hk.2) (.int .i64 2)) (fun _ hk => hk.2) (.int .i64 2)) (fun _ hk => hk.2) (.int .i64 0)) (fun _ hk => hk.2) (.slice Ao16 y121.length co16)) (fun _ h_ => h_.1))) hb); have n1_ := Aside0.mk (Kd.R_lower ho0 (below_size (blA HB.out))); have n2_ := Aside0.mk (blk_below (g := gb124) (o := .cells #[.int .i64 0, .int .i64 0, .int .i64 2, .int .i64 2, .int .i64 0, .slice Ao16 y121.length co16] 24 (0, 0)) (by refine bkA ?_; refine blk_put (cs := #[.int .i64 0, .int .i64 0, .int .i64 2, .int .i64 2, .int .i64 0, .slice none 0 0]) ?_ 5 _ rfl; refine bkA ?_; refine blk_put (cs := #[.int .i64 0, .int .i64 0, .int .i64 2, .int .i64 2, .int .i64 0, .slice none 0 0]) ?_ 4 _ rfl; refine bkA ?_; refine blk_put (cs := #[.int .i64 0, .int .i64 0, .int .i64 2, .int .i64 0, .int .i64 0, .slice none 0 0]) ?_ 3 _ rfl; refine bkA ?_; refine blk_put (cs := #[.int .i64 0, .int .i64 0, .int .i64 0, .int .i64 0, .int .i64 0, .slice none 0 0]) ?_ 2 _ rfl; refine bkA ?_; refine blk_put (cs := #[.int .i64 0, .int .i64 0, .int .i64 0, .int .i64 0, .int .i64 0, .slice none 0 0]) ?_ 1 _ rfl; refine bkA ?_; refine blk_put (cs := #[.int .i64 0, .int .i64 0, .int .i64 0, .int .i64 0, .int .i64 0, .slice none 0 0]) ?_ 0 _ rfl; refine bkA ?_; exact BK124.out) hb); have n3_ := Aside0.mk (below_step (blA HB.out) hb); clear HO123; clear BK124; clear HB; have HO123 := n0_; have HO127 := n1_; have BK124 := n2_; have HB := n3_; clear n0_ n1_ n2_ n3_; (try clear hb); (try clear ho0); have hcz20 := fun i => blk_cell BK124.out i; have hfz20 := fun i => blk_frozen BK124.out i; ) | ((with_reducible refine gate_callee (f := 15) rfl ?_); refine goesL_ (some 16) rfl rfl Try.func15 (by kernel_rfl) rfl #[.agg #[.int .i64 0, .int .i64 0, .int .i64 2, .int .i64 2, .int .i64 0, .slice Ao16 y121.length co16]] rfl gsA ?_; (with_reducible refine (circuit_Conds.calls k 0 0 2 2 0 _ _ y121 t129 t132 _ ?side1 ?side2 A2.out).mono ?_); (case side1 => repeat (first | exact (Kd.R_reads' HO123.out).2.2 | (with_reducible refine Kd.C_alloc ?_ _) | (with_reducible refine Kd.C_drewN ?_ _) | (with_reducible refine Kd.C_drew ?_))); (case side2 => exact (Kd.R_reads' HO123.out).2.1); rintro e w21 ⟨v130, rfl, ho0, hb⟩; refine ⟨_, rfl, ?_⟩; have n0_ := Aside0.mk (Kd.R_below (raA HO123.out) hb); have n1_ := Aside0.mk (Kd.R_below (raA HO127.out) hb); have n2_ := Aside0.mk (Kd.N_lower (Kd.N_mono (ok' := fun k_ => some k_ ≠ (.slice Ao16 y121.length co16 : Value).ownBlock ∧ some k_ ≠ (v126 : Value).ownBlock ∧ k_ ≠ gb124) ho0 (fun k_ hk_ => ⟨(Kd.fresh' (Kd.R_lt (raA HO123.out)) k_ hk_), (Kd.fresh' (Kd.R_lt (raA HO127.out)) k_ hk_), (Kd.freshB (bkA BK124.out) k_ hk_)⟩)) (below_size (blA HB.out))); have n3_ := Aside0.mk (blk_below (bkA BK124.out) hb); have n4_ := Aside0.mk (below_step (blA HB.out) hb); clear HO123; clear HO127; clear BK124; clear HB; have HO123 := n0_; have HO127 := n1_; have HO131 := n2_; have BK124 := n3_; have HB := n4_; clear n0_ n1_ n2_ n3_ n4_; (try clear hb); (try clear ho0); obtain ⟨Ao22, co22, eo22⟩ := Kd.R_slice HO127.out; subst eo22; have p133 : 0 ≤ (0 : Int) := (by omega); have q133 : 0 < (t125.length : Int) := of_decide_eq_true (by first | (with_reducible assumption) | assumption); obtain ⟨ad133, e133, hx133_0, hx133_1, hx133_2, hx133_3, hx133_4⟩ := at_T76 (Kd.R_reads' HO127.out).2.2 0 p133 q133; cases e133; have qi133 : (0 < t125.length) = True := eq_true (by omega); (try rw [show ((0 : Int)).toNat = 0 from rfl] at hx133_0); (try rw [show 0 * 5 = 0 from rfl] at hx133_0); (try rw [Addr.add_zero'] at hx133_0); (try rw [show ((0 : Int)).toNat = 0 from rfl] at hx133_1); (try rw [show 0 * 5 = 0 from rfl] at hx133_1); (try rw [Addr.add_zero'] at hx133_1); (try rw [show ((0 : Int)).toNat = 0 from rfl] at hx133_2); (try rw [show 0 * 5 = 0 from rfl] at hx133_2); (try rw [Addr.add_zero'] at hx133_2); (try rw [show ((0 : Int)).toNat = 0 from rfl] at hx133_3); (try rw [show 0 * 5 = 0 from rfl] at hx133_3); (try rw [Addr.add_zero'] at hx133_3); (try rw [show ((0 : Int)).toNat = 0 from rfl] at hx133_4); (try rw [show 0 * 5 = 0 from rfl] at hx133_4); (try rw [Addr.add_zero'] at hx133_4); replace p133 := eq_true p133; replace q133 := eq_true q133; have p134 : 0 ≤ (1 : Int) := (by omega); have q134 : 1 < (t125.length : Int) := of_decide_eq_true (by first | (with_reducible assumption) | assumption); obtain ⟨ad134, e134, hx134_0, hx134_1, hx134_2, hx134_3, hx134_4⟩ := at_T76 (Kd.R_reads' HO127.out).2.2 1 p134 q134; obtain rfl : ad133 = ad134 := (by injection e134); (try simp only [show (1 : Int).toNat = 1 from rfl, Nat.reduceMul, Nat.reduceEqDiff, Go.Addr.add, ↓reduceIte] at hx134_0); (try simp only [show (1 : Int).toNat = 1 from rfl, Nat.reduceMul, Nat.reduceEqDiff, Go.Addr.add, ↓reduceIte] at hx134_1); (try simp only [show (1 : Int).toNat = 1 from rfl, Nat.reduceMul, Nat.reduceEqDiff, Go.Addr.add, ↓reduceIte] at hx134_2); (try simp only [show (1 : Int).toNat = 1 from rfl, Nat.reduceMul, Nat.reduceEqDiff, Go.Addr.add, ↓reduceIte] at hx134_3); (try simp only [show (1 : Int).toNat = 1 from rfl, Nat.reduceMul, Nat.reduceEqDiff, Go.Addr.add, ↓reduceIte] at hx134_4); have qi134 : (1 < t125.length) = True := eq_true (by omega); (try rw [show ((1 : Int)).toNat = 1 from rfl] at hx134_0); (try rw [show 1 * 5 = 5 from rfl] at hx134_0); (try rw [show ((1 : Int)).toNat = 1 from rfl] at hx134_1); (try rw [show 1 * 5 = 5 from rfl] at hx134_1); (try rw [show ((1 : Int)).toNat = 1 from rfl] at hx134_2); (try rw [show 1 * 5 = 5 from rfl] at hx134_2); (try rw [show ((1 : Int)).toNat = 1 from rfl] at hx134_3); (try rw [show 1 * 5 = 5 from rfl] at hx134_3); (try rw [show ((1 : Int)).toNat = 1 from rfl] at hx134_4); (try rw [show 1 * 5 = 5 from rfl] at hx134_4); replace p134 := eq_true p134; replace q134 := eq_true q134; obtain ⟨Ao23, co23, eo23⟩ := Kd.N_slice HO131.out; subst eo23; have p135 : 0 ≤ (0 : Int) := (by omega); have q135 : 0 < (t129.length : Int) := of_decide_eq_true (by first | (with_reducible assumption) | assumption); obtain ⟨ad135, A135_0, c135_0, e135, hx135_0, hl135_0, hi135_0⟩ := at_L9 (Kd.N_reads' HO131.out).2.2 0 p135 q135; cases e135; obtain ⟨ce135, hce135, hMe135, hcc135⟩ := Kd.N_get HO131.out [] 0 p135 (by first | exact q135 | exact of_decide_eq_true (by first | (with_reducible assumption) | assumption) | (have e_ := (Kd.N_reads' HO131.out).1; omega)); obtain ⟨ua135_0, uc135_0, rfl, ul135_0, ge135_0⟩ := Kd.FK_slice_open hMe135; have hv135_0 := hcc135 0 _ rfl; rw [Nat.add_zero, show ((Kd.slice 118 k118)).sz = 1 from rfl, Nat.mul_one] at hv135_0; replace hv135_0 := Option.some.inj (hv135_0.symm.trans hx135_0); injection hv135_0 with hva_ hvn_ hvc_; rw [hva_] at ge135_0; rw [hvc_] at ul135_0; have HL135_0 := Aside0.mk (show Kd.V k118 118 _ w.heap.size _ _ (rd_L9 t129 0) from Kd.V_mk ul135_0 ge135_0); clear hva_ hvn_ hvc_ ge135_0 ul135_0; clear hcc135 hce135; have qi135 : (0 < t129.length) = True := eq_true (by omega); (try rw [show ((0 : Int)).toNat = 0 from rfl] at hx135_0); (try rw [Addr.add_zero'] at hx135_0); have HR135_0 := Aside0.mk hi135_0; have HC135_0 := Aside0.mk hl135_0; clear hi135_0 hl135_0; replace p135 := eq_true p135; replace q135 := eq_true q135; have hcz24 := fun i => blk_cell BK124.out i; have hfz24 := fun i => blk_frozen BK124.out i; ) | (go_at_call 22; (with_reducible refine (circuit_Used.calls k 0 0 2 2 0 _ _ y121 t136 _ ?side1 ?side2 A13.out).mono ?_); (case side1 => repeat (first | exact (Kd.R_reads' HO123.out).2.2 | (with_reducible refine Kd.C_alloc ?_ _) | (with_reducible refine Kd.C_drewN ?_ _) | (with_reducible refine Kd.C_drew ?_))); (case side2 => exact (Kd.R_reads' HO123.out).2.1); rintro e w25 ⟨rfl, hb⟩; have n0_ := Aside0.mk (Kd.R_below (raA HO123.out) hb); have n1_ := Aside0.mk (Kd.R_below (raA HO127.out) hb); have n2_ := Aside0.mk (Kd.N_below (naA HO131.out) hb); have n3_ := Aside0.mk (Kd.V_below (by (with_reducible repeat (first | apply Kd.V_alloc | apply Kd.V_drewN | apply Kd.V_drew)); exact HL135_0.out) hb); have n4_ := Aside0.mk (blk_below (bkA BK124.out) hb); have n5_ := Aside0.mk (Kd.C_below (by repeat (first | (with_reducible exact HR135_0.out) | (with_reducible refine Kd.C_alloc ?_ _) | (with_reducible refine Kd.C_drewN ?_ _) | (with_reducible refine Kd.C_drew ?_) | exact HR135_0.out)) hb); have n6_ := Aside0.mk (below_step (blA HB.out) hb); clear HO123; clear HO127; clear HO131; clear HL135_0; clear BK124; clear HR135_0; clear HB; have HO123 := n0_; have HO127 := n1_; have HO131 := n2_; have HL135_0 := n3_; have BK124 := n4_; have HR135_0 := n5_; have HB := n6_; clear n0_ n1_ n2_ n3_ n4_ n5_ n6_; (try clear hb)))
           go_ret
           exact ⟨by first | rfl | (simp [errW_none, errW_some] <;> rfl) | (simp [*, errW_none, errW_some] <;> rfl), blA HB.out⟩
          ·rw [if_neg c12] at H
           have c12b0 : (((rd_L9 t129 0).length : Int) == 5) = false := beq_eq_false_iff_ne.mpr c12; have c12b1 : (((rd_L9 t129 0).length : Int) != 5) = true := bne_iff_ne.mpr c12; obtain rfl := Option.some.inj H
           go_enter Try.func12, Try.ntmps12
           go_wp2_with (first | ((with_reducible refine gate_dst (N := 7) rfl ?_); (try (refine gate_guard (by rfl) ?_; dsimp only)); refine Kd.R_lit k105 _ 105 ?hg (N := 7) ?hd (xs := ([(⟨2, 2, 0, 1, 0⟩ : S105)] : List (S105))) (inner := [.int .i64 2, .int .i64 2, .int .i64 0, .int .i64 1, .int .i64 0]) (ok := fun _ => True) (okp := fun _ => True) ?hr ?hp (fun _ hk => hk) trivial (Below.refl _ _) (Nat.le_refl _) (by simp) ?_; (case hd => rfl); (case hg => rfl); (case hr => first | (go_simp; done) | (go_simp; rfl)); (case hp => exact (Reps.c5 (show Kd.M k105 _ _ _ (⟨2, 2, 0, 1, 0⟩ : S105) [.int .i64 2, .int .i64 2, .int .i64 0, .int .i64 1, .int .i64 0] from (k105_mkM _ _ _ (⟨2, 2, 0, 1, 0⟩ : S105) )) (Reps.none _ _))); intro v122 w26 ho27 hb hg_ hnew_; clear hg_ hnew_; (first | rw [← Ny121.out] at ho27 | (simp only [Int.reduceToNat] at ho27; rw [← Ny121.out] at ho27)); have n0_ := Aside0.mk (Kd.R_lower ho27 (below_size (blA HB.out))); have n1_ := Aside0.mk (below_step (blA HB.out) hb); clear HB; have HO123 := n0_; have HB := n1_; clear n0_ n1_; clear hb ho27; obtain ⟨Ao28, co28, eo28⟩ := Kd.R_slice HO123.out; subst eo28) | ((with_reducible refine gate_dst (N := 1) rfl ?_); (try (refine gate_guard (by rfl) ?_; dsimp only)); refine box_event ?hg (N := 1) ?hd (cs := #[.int .i64 0, .int .i64 0, .int .i64 0, .int .i64 0, .int .i64 0, .slice none 0 0]) (t := 24) ?hr ?_; (case hd => rfl); (case hg => rfl); (case hr => first | (go_simp; done) | (go_simp; rfl)); intro gb124 hg w29 hbox hb; have n0_ := Aside0.mk (Kd.R_below (raA HO123.out) hb); have n1_ := Aside0.mk (below_step (blA HB.out) hb); have n2_ := Aside0.mk (hbox); have n3_ := Aside0.mk ((by rw [hg]; exact (below_size (blA HB.out)) : w.heap.size ≤ gb124)); have n4_ := Aside0.mk ((by rw [hg]; exact (below_size (blA HB.out)) : w.heap.size ≤ gb124)); clear HO123; clear HB; have HO123 := n0_; have HB := n1_; have BK124 := n2_; have GW124 := n3_; have GE124 := n4_; clear n0_ n1_ n2_ n3_ n4_; clear hb hbox hg; have hcz30 := fun i => blk_cell BK124.out i; have hfz30 := fun i => blk_frozen BK124.out i; ) | ((with_reducible refine gate_callee (f := 14) rfl ?_); refine goesL_ (some 11) rfl rfl Try.func14 (by kernel_rfl) rfl #[.agg #[.int .i64 0, .int .i64 0, .int .i64 2, .int .i64 2, .int .i64 0, .slice Ao28 y121.length co28]] rfl gsA ?_; (with_reducible refine (circuit_Wires.calls k 0 0 2 2 0 _ _ y121 t125 t128 _ ?side1 ?side2 A1.out).mono ?_); (case side1 => refine (Kd.R_reads' (e := 105) (base := w.heap.size) (ok := fun k_ => True) (n := y121.length) (c := co28) ?_).2.2; exact (by (with_reducible repeat (first | apply Kd.R_alloc | apply Kd.R_drewN | apply Kd.R_drew)); exact (Kd.R_mono (Kd.R_far (p := ⟨gb124, 5, none⟩) (Kd.R_far (p := ⟨gb124, 4, none⟩) (Kd.R_far (p := ⟨gb124, 3, none⟩) (Kd.R_far (p := ⟨gb124, 2, none⟩) (Kd.R_far (p := ⟨gb124, 1, none⟩) (Kd.R_far (p := ⟨gb124, 0, none⟩) (Kd.R_types HO123.out BK124.out (by decide)) (fun _ hk => hk.2) (.int .i64 0)) (fun _ hk => hk.2) (.int .i64 0)) (fun _ hk => hk.2) (.int .i64 2)) (fun _ hk => hk.2) (.int .i64 2)) (fun _ hk => hk.2) (.int .i64 0)) (fun _ hk => hk.2) (.slice Ao28 y121.length co28)) (fun _ h_ => h_.1)))); (case side2 => exact (Kd.R_reads' HO123.out).2.1); rintro e w31 ⟨v126, rfl, ho0, hb⟩; refine ⟨_, rfl, ?_⟩; have n0_ := Aside0.mk (Kd.R_below (by (with_reducible repeat (first | apply Kd.R_alloc | apply Kd.R_drewN | apply Kd.R_drew)); exact (Kd.R_mono (Kd.R_far (p := ⟨gb124, 5, none⟩) (Kd.R_far (p := ⟨gb124, 4, none⟩) (Kd.R_far (p := ⟨gb124, 3, none⟩) (Kd.R_far (p := ⟨gb124, 2, none⟩) (Kd.R_far (p := ⟨gb124, 1, none⟩) (Kd.R_far (p := ⟨gb124, 0, none⟩) (Kd.R_types HO123.out BK124.out (by decide)) (fun _ hk => hk.2) (.int .i64 0)) (fun _ hk => hk.2) (.int .i64 0)) (fun _ hk => hk.2) (.int .i64 2)) (fun _ hk => hk.2) (.int .i64 2)) (fun _ hk => hk.2) (.int .i64 0)) (fun _ hk => hk.2) (.slice Ao28 y121.length co28)) (fun _ h_ => h_.1))) hb); have n1_ := Aside0.mk (Kd.R_lower ho0 (below_size (blA HB.out))); have n2_ := Aside0.mk (blk_below (g := gb124) (o := .cells #[.int .i64 0, .int .i64 0, .int .i64 2, .int .i64 2, .int .i64 0, .slice Ao28 y121.length co28] 24 (0, 0)) (by refine bkA ?_; refine blk_put (cs := #[.int .i64 0, .int .i64 0, .int .i64 2, .int .i64 2, .int .i64 0, .slice none 0 0]) ?_ 5 _ rfl; refine bkA ?_; refine blk_put (cs := #[.int .i64 0, .int .i64 0, .int .i64 2, .int .i64 2, .int .i64 0, .slice none 0 0]) ?_ 4 _ rfl; refine bkA ?_; refine blk_put (cs := #[.int .i64 0, .int .i64 0, .int .i64 2, .int .i64 0, .int .i64 0, .slice none 0 0]) ?_ 3 _ rfl; refine bkA ?_; refine blk_put (cs := #[.int .i64 0, .int .i64 0, .int .i64 0, .int .i64 0, .int .i64 0, .slice none 0 0]) ?_ 2 _ rfl; refine bkA ?_; refine blk_put (cs := #[.int .i64 0, .int .i64 0, .int .i64 0, .int .i64 0, .int .i64 0, .slice none 0 0]) ?_ 1 _ rfl; refine bkA ?_; refine blk_put (cs := #[.int .i64 0, .int .i64 0, .int .i64 0, .int .i64 0, .int .i64 0, .slice none 0 0]) ?_ 0 _ rfl; refine bkA ?_; exact BK124.out) hb); have n3_ := Aside0.mk (below_step (blA HB.out) hb); clear HO123; clear BK124; clear HB; have HO123 := n0_; have HO127 := n1_; have BK124 := n2_; have HB := n3_; clear n0_ n1_ n2_ n3_; (try clear hb); (try clear ho0); have hcz32 := fun i => blk_cell BK124.out i; have hfz32 := fun i => blk_frozen BK124.out i; ) | ((with_reducible refine gate_callee (f := 15) rfl ?_); refine goesL_ (some 16) rfl rfl Try.func15 (by kernel_rfl) rfl #[.agg #[.int .i64 0, .int .i64 0, .int .i64 2, .int .i64 2, .int .i64 0, .slice Ao28 y121.length co28]] rfl gsA ?_; (with_reducible refine (circuit_Conds.calls k 0 0 2 2 0 _ _ y121 t129 t132 _ ?side1 ?side2 A2.out).mono ?_); (case side1 => repeat (first | exact (Kd.R_reads' HO123.out).2.2 | (with_reducible refine Kd.C_alloc ?_ _) | (with_reducible refine Kd.C_drewN ?_ _) | (with_reducible refine Kd.C_drew ?_))); (case side2 => exact (Kd.R_reads' HO123.out).2.1); rintro e w33 ⟨v130, rfl, ho0, hb⟩; refine ⟨_, rfl, ?_⟩; have n0_ := Aside0.mk (Kd.R_below (raA HO123.out) hb); have n1_ := Aside0.mk (Kd.R_below (raA HO127.out) hb); have n2_ := Aside0.mk (Kd.N_lower (Kd.N_mono (ok' := fun k_ => some k_ ≠ (.slice Ao28 y121.length co28 : Value).ownBlock ∧ some k_ ≠ (v126 : Value).ownBlock ∧ k_ ≠ gb124) ho0 (fun k_ hk_ => ⟨(Kd.fresh' (Kd.R_lt (raA HO123.out)) k_ hk_), (Kd.fresh' (Kd.R_lt (raA HO127.out)) k_ hk_), (Kd.freshB (bkA BK124.out) k_ hk_)⟩)) (below_size (blA HB.out))); have n3_ := Aside0.mk (blk_below (bkA BK124.out) hb); have n4_ := Aside0.mk (below_step (blA HB.out) hb); clear HO123; clear HO127; clear BK124; clear HB; have HO123 := n0_; have HO127 := n1_; have HO131 := n2_; have BK124 := n3_; have HB := n4_; clear n0_ n1_ n2_ n3_ n4_; (try clear hb); (try clear ho0); obtain ⟨Ao34, co34, eo34⟩ := Kd.R_slice HO127.out; subst eo34; have p133 : 0 ≤ (0 : Int) := (by omega); have q133 : 0 < (t125.length : Int) := of_decide_eq_true (by first | (with_reducible assumption) | assumption); obtain ⟨ad133, e133, hx133_0, hx133_1, hx133_2, hx133_3, hx133_4⟩ := at_T76 (Kd.R_reads' HO127.out).2.2 0 p133 q133; cases e133; have qi133 : (0 < t125.length) = True := eq_true (by omega); (try rw [show ((0 : Int)).toNat = 0 from rfl] at hx133_0); (try rw [show 0 * 5 = 0 from rfl] at hx133_0); (try rw [Addr.add_zero'] at hx133_0); (try rw [show ((0 : Int)).toNat = 0 from rfl] at hx133_1); (try rw [show 0 * 5 = 0 from rfl] at hx133_1); (try rw [Addr.add_zero'] at hx133_1); (try rw [show ((0 : Int)).toNat = 0 from rfl] at hx133_2); (try rw [show 0 * 5 = 0 from rfl] at hx133_2); (try rw [Addr.add_zero'] at hx133_2); (try rw [show ((0 : Int)).toNat = 0 from rfl] at hx133_3); (try rw [show 0 * 5 = 0 from rfl] at hx133_3); (try rw [Addr.add_zero'] at hx133_3); (try rw [show ((0 : Int)).toNat = 0 from rfl] at hx133_4); (try rw [show 0 * 5 = 0 from rfl] at hx133_4); (try rw [Addr.add_zero'] at hx133_4); replace p133 := eq_true p133; replace q133 := eq_true q133; have p134 : 0 ≤ (1 : Int) := (by omega); have q134 : 1 < (t125.length : Int) := of_decide_eq_true (by first | (with_reducible assumption) | assumption); obtain ⟨ad134, e134, hx134_0, hx134_1, hx134_2, hx134_3, hx134_4⟩ := at_T76 (Kd.R_reads' HO127.out).2.2 1 p134 q134; obtain rfl : ad133 = ad134 := (by injection e134); (try simp only [show (1 : Int).toNat = 1 from rfl, Nat.reduceMul, Nat.reduceEqDiff, Go.Addr.add, ↓reduceIte] at hx134_0); (try simp only [show (1 : Int).toNat = 1 from rfl, Nat.reduceMul, Nat.reduceEqDiff, Go.Addr.add, ↓reduceIte] at hx134_1); (try simp only [show (1 : Int).toNat = 1 from rfl, Nat.reduceMul, Nat.reduceEqDiff, Go.Addr.add, ↓reduceIte] at hx134_2); (try simp only [show (1 : Int).toNat = 1 from rfl, Nat.reduceMul, Nat.reduceEqDiff, Go.Addr.add, ↓reduceIte] at hx134_3); (try simp only [show (1 : Int).toNat = 1 from rfl, Nat.reduceMul, Nat.reduceEqDiff, Go.Addr.add, ↓reduceIte] at hx134_4); have qi134 : (1 < t125.length) = True := eq_true (by omega); (try rw [show ((1 : Int)).toNat = 1 from rfl] at hx134_0); (try rw [show 1 * 5 = 5 from rfl] at hx134_0); (try rw [show ((1 : Int)).toNat = 1 from rfl] at hx134_1); (try rw [show 1 * 5 = 5 from rfl] at hx134_1); (try rw [show ((1 : Int)).toNat = 1 from rfl] at hx134_2); (try rw [show 1 * 5 = 5 from rfl] at hx134_2); (try rw [show ((1 : Int)).toNat = 1 from rfl] at hx134_3); (try rw [show 1 * 5 = 5 from rfl] at hx134_3); (try rw [show ((1 : Int)).toNat = 1 from rfl] at hx134_4); (try rw [show 1 * 5 = 5 from rfl] at hx134_4); replace p134 := eq_true p134; replace q134 := eq_true q134; obtain ⟨Ao35, co35, eo35⟩ := Kd.N_slice HO131.out; subst eo35; have p135 : 0 ≤ (0 : Int) := (by omega); have q135 : 0 < (t129.length : Int) := of_decide_eq_true (by first | (with_reducible assumption) | assumption); obtain ⟨ad135, A135_0, c135_0, e135, hx135_0, hl135_0, hi135_0⟩ := at_L9 (Kd.N_reads' HO131.out).2.2 0 p135 q135; cases e135; obtain ⟨ce135, hce135, hMe135, hcc135⟩ := Kd.N_get HO131.out [] 0 p135 (by first | exact q135 | exact of_decide_eq_true (by first | (with_reducible assumption) | assumption) | (have e_ := (Kd.N_reads' HO131.out).1; omega)); obtain ⟨ua135_0, uc135_0, rfl, ul135_0, ge135_0⟩ := Kd.FK_slice_open hMe135; have hv135_0 := hcc135 0 _ rfl; rw [Nat.add_zero, show ((Kd.slice 118 k118)).sz = 1 from rfl, Nat.mul_one] at hv135_0; replace hv135_0 := Option.some.inj (hv135_0.symm.trans hx135_0); injection hv135_0 with hva_ hvn_ hvc_; rw [hva_] at ge135_0; rw [hvc_] at ul135_0; have HL135_0 := Aside0.mk (show Kd.V k118 118 _ w.heap.size _ _ (rd_L9 t129 0) from Kd.V_mk ul135_0 ge135_0); clear hva_ hvn_ hvc_ ge135_0 ul135_0; clear hcc135 hce135; have qi135 : (0 < t129.length) = True := eq_true (by omega); (try rw [show ((0 : Int)).toNat = 0 from rfl] at hx135_0); (try rw [Addr.add_zero'] at hx135_0); have HR135_0 := Aside0.mk hi135_0; have HC135_0 := Aside0.mk hl135_0; clear hi135_0 hl135_0; replace p135 := eq_true p135; replace q135 := eq_true q135))
           go_ret
           exact ⟨by first | rfl | (simp [errW_none, errW_some] <;> rfl) | (simp [*, errW_none, errW_some] <;> rfl), blA HB.out⟩
         ·rw [if_neg c11] at H
          exact absurd H (by simp)
        ·rw [if_neg c10] at H
         have c10b0 : ((t129.length : Int) == 1) = false := beq_eq_false_iff_ne.mpr c10; have c10b1 : ((t129.length : Int) != 1) = true := bne_iff_ne.mpr c10; obtain rfl := Option.some.inj H
         go_enter Try.func12, Try.ntmps12
         go_wp2_with (first | ((with_reducible refine gate_dst (N := 7) rfl ?_); (try (refine gate_guard (by rfl) ?_; dsimp only)); refine Kd.R_lit k105 _ 105 ?hg (N := 7) ?hd (xs := ([(⟨2, 2, 0, 1, 0⟩ : S105)] : List (S105))) (inner := [.int .i64 2, .int .i64 2, .int .i64 0, .int .i64 1, .int .i64 0]) (ok := fun _ => True) (okp := fun _ => True) ?hr ?hp (fun _ hk => hk) trivial (Below.refl _ _) (Nat.le_refl _) (by simp) ?_; (case hd => rfl); (case hg => rfl); (case hr => first | (go_simp; done) | (go_simp; rfl)); (case hp => exact (Reps.c5 (show Kd.M k105 _ _ _ (⟨2, 2, 0, 1, 0⟩ : S105) [.int .i64 2, .int .i64 2, .int .i64 0, .int .i64 1, .int .i64 0] from (k105_mkM _ _ _ (⟨2, 2, 0, 1, 0⟩ : S105) )) (Reps.none _ _))); intro v122 w36 ho37 hb hg_ hnew_; clear hg_ hnew_; (first | rw [← Ny121.out] at ho37 | (simp only [Int.reduceToNat] at ho37; rw [← Ny121.out] at ho37)); have n0_ := Aside0.mk (Kd.R_lower ho37 (below_size (blA HB.out))); have n1_ := Aside0.mk (below_step (blA HB.out) hb); clear HB; have HO123 := n0_; have HB := n1_; clear n0_ n1_; clear hb ho37; obtain ⟨Ao38, co38, eo38⟩ := Kd.R_slice HO123.out; subst eo38) | ((with_reducible refine gate_dst (N := 1) rfl ?_); (try (refine gate_guard (by rfl) ?_; dsimp only)); refine box_event ?hg (N := 1) ?hd (cs := #[.int .i64 0, .int .i64 0, .int .i64 0, .int .i64 0, .int .i64 0, .slice none 0 0]) (t := 24) ?hr ?_; (case hd => rfl); (case hg => rfl); (case hr => first | (go_simp; done) | (go_simp; rfl)); intro gb124 hg w39 hbox hb; have n0_ := Aside0.mk (Kd.R_below (raA HO123.out) hb); have n1_ := Aside0.mk (below_step (blA HB.out) hb); have n2_ := Aside0.mk (hbox); have n3_ := Aside0.mk ((by rw [hg]; exact (below_size (blA HB.out)) : w.heap.size ≤ gb124)); have n4_ := Aside0.mk ((by rw [hg]; exact (below_size (blA HB.out)) : w.heap.size ≤ gb124)); clear HO123; clear HB; have HO123 := n0_; have HB := n1_; have BK124 := n2_; have GW124 := n3_; have GE124 := n4_; clear n0_ n1_ n2_ n3_ n4_; clear hb hbox hg; have hcz40 := fun i => blk_cell BK124.out i; have hfz40 := fun i => blk_frozen BK124.out i; ) | ((with_reducible refine gate_callee (f := 14) rfl ?_); refine goesL_ (some 11) rfl rfl Try.func14 (by kernel_rfl) rfl #[.agg #[.int .i64 0, .int .i64 0, .int .i64 2, .int .i64 2, .int .i64 0, .slice Ao38 y121.length co38]] rfl gsA ?_; (with_reducible refine (circuit_Wires.calls k 0 0 2 2 0 _ _ y121 t125 t128 _ ?side1 ?side2 A1.out).mono ?_); (case side1 => refine (Kd.R_reads' (e := 105) (base := w.heap.size) (ok := fun k_ => True) (n := y121.length) (c := co38) ?_).2.2; exact (by (with_reducible repeat (first | apply Kd.R_alloc | apply Kd.R_drewN | apply Kd.R_drew)); exact (Kd.R_mono (Kd.R_far (p := ⟨gb124, 5, none⟩) (Kd.R_far (p := ⟨gb124, 4, none⟩) (Kd.R_far (p := ⟨gb124, 3, none⟩) (Kd.R_far (p := ⟨gb124, 2, none⟩) (Kd.R_far (p := ⟨gb124, 1, none⟩) (Kd.R_far (p := ⟨gb124, 0, none⟩) (Kd.R_types HO123.out BK124.out (by decide)) (fun _ hk => hk.2) (.int .i64 0)) (fun _ hk => hk.2) (.int .i64 0)) (fun _ hk => hk.2) (.int .i64 2)) (fun _ hk => hk.2) (.int .i64 2)) (fun _ hk => hk.2) (.int .i64 0)) (fun _ hk => hk.2) (.slice Ao38 y121.length co38)) (fun _ h_ => h_.1)))); (case side2 => exact (Kd.R_reads' HO123.out).2.1); rintro e w41 ⟨v126, rfl, ho0, hb⟩; refine ⟨_, rfl, ?_⟩; have n0_ := Aside0.mk (Kd.R_below (by (with_reducible repeat (first | apply Kd.R_alloc | apply Kd.R_drewN | apply Kd.R_drew)); exact (Kd.R_mono (Kd.R_far (p := ⟨gb124, 5, none⟩) (Kd.R_far (p := ⟨gb124, 4, none⟩) (Kd.R_far (p := ⟨gb124, 3, none⟩) (Kd.R_far (p := ⟨gb124, 2, none⟩) (Kd.R_far (p := ⟨gb124, 1, none⟩) (Kd.R_far (p := ⟨gb124, 0, none⟩) (Kd.R_types HO123.out BK124.out (by decide)) (fun _ hk => hk.2) (.int .i64 0)) (fun _ hk => hk.2) (.int .i64 0)) (fun _ hk => hk.2) (.int .i64 2)) (fun _ hk => hk.2) (.int .i64 2)) (fun _ hk => hk.2) (.int .i64 0)) (fun _ hk => hk.2) (.slice Ao38 y121.length co38)) (fun _ h_ => h_.1))) hb); have n1_ := Aside0.mk (Kd.R_lower ho0 (below_size (blA HB.out))); have n2_ := Aside0.mk (blk_below (g := gb124) (o := .cells #[.int .i64 0, .int .i64 0, .int .i64 2, .int .i64 2, .int .i64 0, .slice Ao38 y121.length co38] 24 (0, 0)) (by refine bkA ?_; refine blk_put (cs := #[.int .i64 0, .int .i64 0, .int .i64 2, .int .i64 2, .int .i64 0, .slice none 0 0]) ?_ 5 _ rfl; refine bkA ?_; refine blk_put (cs := #[.int .i64 0, .int .i64 0, .int .i64 2, .int .i64 2, .int .i64 0, .slice none 0 0]) ?_ 4 _ rfl; refine bkA ?_; refine blk_put (cs := #[.int .i64 0, .int .i64 0, .int .i64 2, .int .i64 0, .int .i64 0, .slice none 0 0]) ?_ 3 _ rfl; refine bkA ?_; refine blk_put (cs := #[.int .i64 0, .int .i64 0, .int .i64 0, .int .i64 0, .int .i64 0, .slice none 0 0]) ?_ 2 _ rfl; refine bkA ?_; refine blk_put (cs := #[.int .i64 0, .int .i64 0, .int .i64 0, .int .i64 0, .int .i64 0, .slice none 0 0]) ?_ 1 _ rfl; refine bkA ?_; refine blk_put (cs := #[.int .i64 0, .int .i64 0, .int .i64 0, .int .i64 0, .int .i64 0, .slice none 0 0]) ?_ 0 _ rfl; refine bkA ?_; exact BK124.out) hb); have n3_ := Aside0.mk (below_step (blA HB.out) hb); clear HO123; clear BK124; clear HB; have HO123 := n0_; have HO127 := n1_; have BK124 := n2_; have HB := n3_; clear n0_ n1_ n2_ n3_; (try clear hb); (try clear ho0); have hcz42 := fun i => blk_cell BK124.out i; have hfz42 := fun i => blk_frozen BK124.out i; ) | ((with_reducible refine gate_callee (f := 15) rfl ?_); refine goesL_ (some 16) rfl rfl Try.func15 (by kernel_rfl) rfl #[.agg #[.int .i64 0, .int .i64 0, .int .i64 2, .int .i64 2, .int .i64 0, .slice Ao38 y121.length co38]] rfl gsA ?_; (with_reducible refine (circuit_Conds.calls k 0 0 2 2 0 _ _ y121 t129 t132 _ ?side1 ?side2 A2.out).mono ?_); (case side1 => repeat (first | exact (Kd.R_reads' HO123.out).2.2 | (with_reducible refine Kd.C_alloc ?_ _) | (with_reducible refine Kd.C_drewN ?_ _) | (with_reducible refine Kd.C_drew ?_))); (case side2 => exact (Kd.R_reads' HO123.out).2.1); rintro e w43 ⟨v130, rfl, ho0, hb⟩; refine ⟨_, rfl, ?_⟩; have n0_ := Aside0.mk (Kd.R_below (raA HO123.out) hb); have n1_ := Aside0.mk (Kd.R_below (raA HO127.out) hb); have n2_ := Aside0.mk (Kd.N_lower (Kd.N_mono (ok' := fun k_ => some k_ ≠ (.slice Ao38 y121.length co38 : Value).ownBlock ∧ some k_ ≠ (v126 : Value).ownBlock ∧ k_ ≠ gb124) ho0 (fun k_ hk_ => ⟨(Kd.fresh' (Kd.R_lt (raA HO123.out)) k_ hk_), (Kd.fresh' (Kd.R_lt (raA HO127.out)) k_ hk_), (Kd.freshB (bkA BK124.out) k_ hk_)⟩)) (below_size (blA HB.out))); have n3_ := Aside0.mk (blk_below (bkA BK124.out) hb); have n4_ := Aside0.mk (below_step (blA HB.out) hb); clear HO123; clear HO127; clear BK124; clear HB; have HO123 := n0_; have HO127 := n1_; have HO131 := n2_; have BK124 := n3_; have HB := n4_; clear n0_ n1_ n2_ n3_ n4_; (try clear hb); (try clear ho0); obtain ⟨Ao44, co44, eo44⟩ := Kd.R_slice HO127.out; subst eo44; have p133 : 0 ≤ (0 : Int) := (by omega); have q133 : 0 < (t125.length : Int) := of_decide_eq_true (by first | (with_reducible assumption) | assumption); obtain ⟨ad133, e133, hx133_0, hx133_1, hx133_2, hx133_3, hx133_4⟩ := at_T76 (Kd.R_reads' HO127.out).2.2 0 p133 q133; cases e133; have qi133 : (0 < t125.length) = True := eq_true (by omega); (try rw [show ((0 : Int)).toNat = 0 from rfl] at hx133_0); (try rw [show 0 * 5 = 0 from rfl] at hx133_0); (try rw [Addr.add_zero'] at hx133_0); (try rw [show ((0 : Int)).toNat = 0 from rfl] at hx133_1); (try rw [show 0 * 5 = 0 from rfl] at hx133_1); (try rw [Addr.add_zero'] at hx133_1); (try rw [show ((0 : Int)).toNat = 0 from rfl] at hx133_2); (try rw [show 0 * 5 = 0 from rfl] at hx133_2); (try rw [Addr.add_zero'] at hx133_2); (try rw [show ((0 : Int)).toNat = 0 from rfl] at hx133_3); (try rw [show 0 * 5 = 0 from rfl] at hx133_3); (try rw [Addr.add_zero'] at hx133_3); (try rw [show ((0 : Int)).toNat = 0 from rfl] at hx133_4); (try rw [show 0 * 5 = 0 from rfl] at hx133_4); (try rw [Addr.add_zero'] at hx133_4); replace p133 := eq_true p133; replace q133 := eq_true q133; have p134 : 0 ≤ (1 : Int) := (by omega); have q134 : 1 < (t125.length : Int) := of_decide_eq_true (by first | (with_reducible assumption) | assumption); obtain ⟨ad134, e134, hx134_0, hx134_1, hx134_2, hx134_3, hx134_4⟩ := at_T76 (Kd.R_reads' HO127.out).2.2 1 p134 q134; obtain rfl : ad133 = ad134 := (by injection e134); (try simp only [show (1 : Int).toNat = 1 from rfl, Nat.reduceMul, Nat.reduceEqDiff, Go.Addr.add, ↓reduceIte] at hx134_0); (try simp only [show (1 : Int).toNat = 1 from rfl, Nat.reduceMul, Nat.reduceEqDiff, Go.Addr.add, ↓reduceIte] at hx134_1); (try simp only [show (1 : Int).toNat = 1 from rfl, Nat.reduceMul, Nat.reduceEqDiff, Go.Addr.add, ↓reduceIte] at hx134_2); (try simp only [show (1 : Int).toNat = 1 from rfl, Nat.reduceMul, Nat.reduceEqDiff, Go.Addr.add, ↓reduceIte] at hx134_3); (try simp only [show (1 : Int).toNat = 1 from rfl, Nat.reduceMul, Nat.reduceEqDiff, Go.Addr.add, ↓reduceIte] at hx134_4); have qi134 : (1 < t125.length) = True := eq_true (by omega); (try rw [show ((1 : Int)).toNat = 1 from rfl] at hx134_0); (try rw [show 1 * 5 = 5 from rfl] at hx134_0); (try rw [show ((1 : Int)).toNat = 1 from rfl] at hx134_1); (try rw [show 1 * 5 = 5 from rfl] at hx134_1); (try rw [show ((1 : Int)).toNat = 1 from rfl] at hx134_2); (try rw [show 1 * 5 = 5 from rfl] at hx134_2); (try rw [show ((1 : Int)).toNat = 1 from rfl] at hx134_3); (try rw [show 1 * 5 = 5 from rfl] at hx134_3); (try rw [show ((1 : Int)).toNat = 1 from rfl] at hx134_4); (try rw [show 1 * 5 = 5 from rfl] at hx134_4); replace p134 := eq_true p134; replace q134 := eq_true q134; obtain ⟨Ao45, co45, eo45⟩ := Kd.N_slice HO131.out; subst eo45))
         go_ret
         exact ⟨by first | rfl | (simp [errW_none, errW_some] <;> rfl) | (simp [*, errW_none, errW_some] <;> rfl), blA HB.out⟩
       ·rw [if_neg c9] at H
        have c9b0 : (((rd_T76 t125 1).f0) == 0 && (((rd_T76 t125 1).f1) == 0 && (((rd_T76 t125 1).f2) == 0 && ((((rd_T76 t125 1).f3.f0) == 0 && (((rd_T76 t125 1).f3.f1) == 0)))))) = false := by simpa using c9
        (try (have c9b1 : decide (((rd_T76 t125 1).f0) = 0 && (((rd_T76 t125 1).f1) == 0 && (((rd_T76 t125 1).f2) == 0 && ((((rd_T76 t125 1).f3.f0) == 0 && (((rd_T76 t125 1).f3.f1) == 0)))))) = false := by simpa using c9))
        (try (have c9b2 : (((rd_T76 t125 1).f0) == 0 && (((rd_T76 t125 1).f1) == 0 && (((rd_T76 t125 1).f2) == 0 && ((((rd_T76 t125 1).f3.f0) == 0 && (((rd_T76 t125 1).f3.f1) == 0)))))) = false := by simpa using c9))
        (try (have c9b3 : ¬ (((rd_T76 t125 1).f0) = 0 && (((rd_T76 t125 1).f1) == 0 && (((rd_T76 t125 1).f2) == 0 && ((((rd_T76 t125 1).f3.f0) == 0 && (((rd_T76 t125 1).f3.f1) == 0)))))) := by simpa using c9))
        clear c9; obtain rfl := Option.some.inj H
        go_enter Try.func12, Try.ntmps12
        go_wp2_with (first | ((with_reducible refine gate_dst (N := 7) rfl ?_); (try (refine gate_guard (by rfl) ?_; dsimp only)); refine Kd.R_lit k105 _ 105 ?hg (N := 7) ?hd (xs := ([(⟨2, 2, 0, 1, 0⟩ : S105)] : List (S105))) (inner := [.int .i64 2, .int .i64 2, .int .i64 0, .int .i64 1, .int .i64 0]) (ok := fun _ => True) (okp := fun _ => True) ?hr ?hp (fun _ hk => hk) trivial (Below.refl _ _) (Nat.le_refl _) (by simp) ?_; (case hd => rfl); (case hg => rfl); (case hr => first | (go_simp; done) | (go_simp; rfl)); (case hp => exact (Reps.c5 (show Kd.M k105 _ _ _ (⟨2, 2, 0, 1, 0⟩ : S105) [.int .i64 2, .int .i64 2, .int .i64 0, .int .i64 1, .int .i64 0] from (k105_mkM _ _ _ (⟨2, 2, 0, 1, 0⟩ : S105) )) (Reps.none _ _))); intro v122 w46 ho47 hb hg_ hnew_; clear hg_ hnew_; (first | rw [← Ny121.out] at ho47 | (simp only [Int.reduceToNat] at ho47; rw [← Ny121.out] at ho47)); have n0_ := Aside0.mk (Kd.R_lower ho47 (below_size (blA HB.out))); have n1_ := Aside0.mk (below_step (blA HB.out) hb); clear HB; have HO123 := n0_; have HB := n1_; clear n0_ n1_; clear hb ho47; obtain ⟨Ao48, co48, eo48⟩ := Kd.R_slice HO123.out; subst eo48) | ((with_reducible refine gate_dst (N := 1) rfl ?_); (try (refine gate_guard (by rfl) ?_; dsimp only)); refine box_event ?hg (N := 1) ?hd (cs := #[.int .i64 0, .int .i64 0, .int .i64 0, .int .i64 0, .int .i64 0, .slice none 0 0]) (t := 24) ?hr ?_; (case hd => rfl); (case hg => rfl); (case hr => first | (go_simp; done) | (go_simp; rfl)); intro gb124 hg w49 hbox hb; have n0_ := Aside0.mk (Kd.R_below (raA HO123.out) hb); have n1_ := Aside0.mk (below_step (blA HB.out) hb); have n2_ := Aside0.mk (hbox); have n3_ := Aside0.mk ((by rw [hg]; exact (below_size (blA HB.out)) : w.heap.size ≤ gb124)); have n4_ := Aside0.mk ((by rw [hg]; exact (below_size (blA HB.out)) : w.heap.size ≤ gb124)); clear HO123; clear HB; have HO123 := n0_; have HB := n1_; have BK124 := n2_; have GW124 := n3_; have GE124 := n4_; clear n0_ n1_ n2_ n3_ n4_; clear hb hbox hg; have hcz50 := fun i => blk_cell BK124.out i; have hfz50 := fun i => blk_frozen BK124.out i; ) | ((with_reducible refine gate_callee (f := 14) rfl ?_); refine goesL_ (some 11) rfl rfl Try.func14 (by kernel_rfl) rfl #[.agg #[.int .i64 0, .int .i64 0, .int .i64 2, .int .i64 2, .int .i64 0, .slice Ao48 y121.length co48]] rfl gsA ?_; (with_reducible refine (circuit_Wires.calls k 0 0 2 2 0 _ _ y121 t125 t128 _ ?side1 ?side2 A1.out).mono ?_); (case side1 => refine (Kd.R_reads' (e := 105) (base := w.heap.size) (ok := fun k_ => True) (n := y121.length) (c := co48) ?_).2.2; exact (by (with_reducible repeat (first | apply Kd.R_alloc | apply Kd.R_drewN | apply Kd.R_drew)); exact (Kd.R_mono (Kd.R_far (p := ⟨gb124, 5, none⟩) (Kd.R_far (p := ⟨gb124, 4, none⟩) (Kd.R_far (p := ⟨gb124, 3, none⟩) (Kd.R_far (p := ⟨gb124, 2, none⟩) (Kd.R_far (p := ⟨gb124, 1, none⟩) (Kd.R_far (p := ⟨gb124, 0, none⟩) (Kd.R_types HO123.out BK124.out (by decide)) (fun _ hk => hk.2) (.int .i64 0)) (fun _ hk => hk.2) (.int .i64 0)) (fun _ hk => hk.2) (.int .i64 2)) (fun _ hk => hk.2) (.int .i64 2)) (fun _ hk => hk.2) (.int .i64 0)) (fun _ hk => hk.2) (.slice Ao48 y121.length co48)) (fun _ h_ => h_.1)))); (case side2 => exact (Kd.R_reads' HO123.out).2.1); rintro e w51 ⟨v126, rfl, ho0, hb⟩; refine ⟨_, rfl, ?_⟩; have n0_ := Aside0.mk (Kd.R_below (by (with_reducible repeat (first | apply Kd.R_alloc | apply Kd.R_drewN | apply Kd.R_drew)); exact (Kd.R_mono (Kd.R_far (p := ⟨gb124, 5, none⟩) (Kd.R_far (p := ⟨gb124, 4, none⟩) (Kd.R_far (p := ⟨gb124, 3, none⟩) (Kd.R_far (p := ⟨gb124, 2, none⟩) (Kd.R_far (p := ⟨gb124, 1, none⟩) (Kd.R_far (p := ⟨gb124, 0, none⟩) (Kd.R_types HO123.out BK124.out (by decide)) (fun _ hk => hk.2) (.int .i64 0)) (fun _ hk => hk.2) (.int .i64 0)) (fun _ hk => hk.2) (.int .i64 2)) (fun _ hk => hk.2) (.int .i64 2)) (fun _ hk => hk.2) (.int .i64 0)) (fun _ hk => hk.2) (.slice Ao48 y121.length co48)) (fun _ h_ => h_.1))) hb); have n1_ := Aside0.mk (Kd.R_lower ho0 (below_size (blA HB.out))); have n2_ := Aside0.mk (blk_below (g := gb124) (o := .cells #[.int .i64 0, .int .i64 0, .int .i64 2, .int .i64 2, .int .i64 0, .slice Ao48 y121.length co48] 24 (0, 0)) (by refine bkA ?_; refine blk_put (cs := #[.int .i64 0, .int .i64 0, .int .i64 2, .int .i64 2, .int .i64 0, .slice none 0 0]) ?_ 5 _ rfl; refine bkA ?_; refine blk_put (cs := #[.int .i64 0, .int .i64 0, .int .i64 2, .int .i64 2, .int .i64 0, .slice none 0 0]) ?_ 4 _ rfl; refine bkA ?_; refine blk_put (cs := #[.int .i64 0, .int .i64 0, .int .i64 2, .int .i64 0, .int .i64 0, .slice none 0 0]) ?_ 3 _ rfl; refine bkA ?_; refine blk_put (cs := #[.int .i64 0, .int .i64 0, .int .i64 0, .int .i64 0, .int .i64 0, .slice none 0 0]) ?_ 2 _ rfl; refine bkA ?_; refine blk_put (cs := #[.int .i64 0, .int .i64 0, .int .i64 0, .int .i64 0, .int .i64 0, .slice none 0 0]) ?_ 1 _ rfl; refine bkA ?_; refine blk_put (cs := #[.int .i64 0, .int .i64 0, .int .i64 0, .int .i64 0, .int .i64 0, .slice none 0 0]) ?_ 0 _ rfl; refine bkA ?_; exact BK124.out) hb); have n3_ := Aside0.mk (below_step (blA HB.out) hb); clear HO123; clear BK124; clear HB; have HO123 := n0_; have HO127 := n1_; have BK124 := n2_; have HB := n3_; clear n0_ n1_ n2_ n3_; (try clear hb); (try clear ho0); have hcz52 := fun i => blk_cell BK124.out i; have hfz52 := fun i => blk_frozen BK124.out i; ) | ((with_reducible refine gate_callee (f := 15) rfl ?_); refine goesL_ (some 16) rfl rfl Try.func15 (by kernel_rfl) rfl #[.agg #[.int .i64 0, .int .i64 0, .int .i64 2, .int .i64 2, .int .i64 0, .slice Ao48 y121.length co48]] rfl gsA ?_; (with_reducible refine (circuit_Conds.calls k 0 0 2 2 0 _ _ y121 t129 t132 _ ?side1 ?side2 A2.out).mono ?_); (case side1 => repeat (first | exact (Kd.R_reads' HO123.out).2.2 | (with_reducible refine Kd.C_alloc ?_ _) | (with_reducible refine Kd.C_drewN ?_ _) | (with_reducible refine Kd.C_drew ?_))); (case side2 => exact (Kd.R_reads' HO123.out).2.1); rintro e w53 ⟨v130, rfl, ho0, hb⟩; refine ⟨_, rfl, ?_⟩; have n0_ := Aside0.mk (Kd.R_below (raA HO123.out) hb); have n1_ := Aside0.mk (Kd.R_below (raA HO127.out) hb); have n2_ := Aside0.mk (Kd.N_lower (Kd.N_mono (ok' := fun k_ => some k_ ≠ (.slice Ao48 y121.length co48 : Value).ownBlock ∧ some k_ ≠ (v126 : Value).ownBlock ∧ k_ ≠ gb124) ho0 (fun k_ hk_ => ⟨(Kd.fresh' (Kd.R_lt (raA HO123.out)) k_ hk_), (Kd.fresh' (Kd.R_lt (raA HO127.out)) k_ hk_), (Kd.freshB (bkA BK124.out) k_ hk_)⟩)) (below_size (blA HB.out))); have n3_ := Aside0.mk (blk_below (bkA BK124.out) hb); have n4_ := Aside0.mk (below_step (blA HB.out) hb); clear HO123; clear HO127; clear BK124; clear HB; have HO123 := n0_; have HO127 := n1_; have HO131 := n2_; have BK124 := n3_; have HB := n4_; clear n0_ n1_ n2_ n3_ n4_; (try clear hb); (try clear ho0); obtain ⟨Ao54, co54, eo54⟩ := Kd.R_slice HO127.out; subst eo54; have p133 : 0 ≤ (0 : Int) := (by omega); have q133 : 0 < (t125.length : Int) := of_decide_eq_true (by first | (with_reducible assumption) | assumption); obtain ⟨ad133, e133, hx133_0, hx133_1, hx133_2, hx133_3, hx133_4⟩ := at_T76 (Kd.R_reads' HO127.out).2.2 0 p133 q133; cases e133; have qi133 : (0 < t125.length) = True := eq_true (by omega); (try rw [show ((0 : Int)).toNat = 0 from rfl] at hx133_0); (try rw [show 0 * 5 = 0 from rfl] at hx133_0); (try rw [Addr.add_zero'] at hx133_0); (try rw [show ((0 : Int)).toNat = 0 from rfl] at hx133_1); (try rw [show 0 * 5 = 0 from rfl] at hx133_1); (try rw [Addr.add_zero'] at hx133_1); (try rw [show ((0 : Int)).toNat = 0 from rfl] at hx133_2); (try rw [show 0 * 5 = 0 from rfl] at hx133_2); (try rw [Addr.add_zero'] at hx133_2); (try rw [show ((0 : Int)).toNat = 0 from rfl] at hx133_3); (try rw [show 0 * 5 = 0 from rfl] at hx133_3); (try rw [Addr.add_zero'] at hx133_3); (try rw [show ((0 : Int)).toNat = 0 from rfl] at hx133_4); (try rw [show 0 * 5 = 0 from rfl] at hx133_4); (try rw [Addr.add_zero'] at hx133_4); replace p133 := eq_true p133; replace q133 := eq_true q133; have p134 : 0 ≤ (1 : Int) := (by omega); have q134 : 1 < (t125.length : Int) := of_decide_eq_true (by first | (with_reducible assumption) | assumption); obtain ⟨ad134, e134, hx134_0, hx134_1, hx134_2, hx134_3, hx134_4⟩ := at_T76 (Kd.R_reads' HO127.out).2.2 1 p134 q134; obtain rfl : ad133 = ad134 := (by injection e134); (try simp only [show (1 : Int).toNat = 1 from rfl, Nat.reduceMul, Nat.reduceEqDiff, Go.Addr.add, ↓reduceIte] at hx134_0); (try simp only [show (1 : Int).toNat = 1 from rfl, Nat.reduceMul, Nat.reduceEqDiff, Go.Addr.add, ↓reduceIte] at hx134_1); (try simp only [show (1 : Int).toNat = 1 from rfl, Nat.reduceMul, Nat.reduceEqDiff, Go.Addr.add, ↓reduceIte] at hx134_2); (try simp only [show (1 : Int).toNat = 1 from rfl, Nat.reduceMul, Nat.reduceEqDiff, Go.Addr.add, ↓reduceIte] at hx134_3); (try simp only [show (1 : Int).toNat = 1 from rfl, Nat.reduceMul, Nat.reduceEqDiff, Go.Addr.add, ↓reduceIte] at hx134_4); have qi134 : (1 < t125.length) = True := eq_true (by omega); (try rw [show ((1 : Int)).toNat = 1 from rfl] at hx134_0); (try rw [show 1 * 5 = 5 from rfl] at hx134_0); (try rw [show ((1 : Int)).toNat = 1 from rfl] at hx134_1); (try rw [show 1 * 5 = 5 from rfl] at hx134_1); (try rw [show ((1 : Int)).toNat = 1 from rfl] at hx134_2); (try rw [show 1 * 5 = 5 from rfl] at hx134_2); (try rw [show ((1 : Int)).toNat = 1 from rfl] at hx134_3); (try rw [show 1 * 5 = 5 from rfl] at hx134_3); (try rw [show ((1 : Int)).toNat = 1 from rfl] at hx134_4); (try rw [show 1 * 5 = 5 from rfl] at hx134_4); replace p134 := eq_true p134; replace q134 := eq_true q134))
        go_ret
        exact ⟨by first | rfl | (simp [errW_none, errW_some] <;> rfl) | (simp [*, errW_none, errW_some] <;> rfl), blA HB.out⟩
      ·rw [if_neg c8] at H
       exact absurd H (by simp)
     ·rw [if_neg c7] at H
      have c7b0 : (((rd_T76 t125 0).f0) == 2 && (((rd_T76 t125 0).f1) == 0 && (((rd_T76 t125 0).f2) == 0 && ((((rd_T76 t125 0).f3.f0) == 0 && (((rd_T76 t125 0).f3.f1) == 0)))))) = false := by simpa using c7
      (try (have c7b1 : decide (((rd_T76 t125 0).f0) = 2 && (((rd_T76 t125 0).f1) == 0 && (((rd_T76 t125 0).f2) == 0 && ((((rd_T76 t125 0).f3.f0) == 0 && (((rd_T76 t125 0).f3.f1) == 0)))))) = false := by simpa using c7))
      (try (have c7b2 : (((rd_T76 t125 0).f0) == 2 && (((rd_T76 t125 0).f1) == 0 && (((rd_T76 t125 0).f2) == 0 && ((((rd_T76 t125 0).f3.f0) == 0 && (((rd_T76 t125 0).f3.f1) == 0)))))) = false := by simpa using c7))
      (try (have c7b3 : ¬ (((rd_T76 t125 0).f0) = 2 && (((rd_T76 t125 0).f1) == 0 && (((rd_T76 t125 0).f2) == 0 && ((((rd_T76 t125 0).f3.f0) == 0 && (((rd_T76 t125 0).f3.f1) == 0)))))) := by simpa using c7))
      clear c7; obtain rfl := Option.some.inj H
      go_enter Try.func12, Try.ntmps12
      go_wp2_with (first | ((with_reducible refine gate_dst (N := 7) rfl ?_); (try (refine gate_guard (by rfl) ?_; dsimp only)); refine Kd.R_lit k105 _ 105 ?hg (N := 7) ?hd (xs := ([(⟨2, 2, 0, 1, 0⟩ : S105)] : List (S105))) (inner := [.int .i64 2, .int .i64 2, .int .i64 0, .int .i64 1, .int .i64 0]) (ok := fun _ => True) (okp := fun _ => True) ?hr ?hp (fun _ hk => hk) trivial (Below.refl _ _) (Nat.le_refl _) (by simp) ?_; (case hd => rfl); (case hg => rfl); (case hr => first | (go_simp; done) | (go_simp; rfl)); (case hp => exact (Reps.c5 (show Kd.M k105 _ _ _ (⟨2, 2, 0, 1, 0⟩ : S105) [.int .i64 2, .int .i64 2, .int .i64 0, .int .i64 1, .int .i64 0] from (k105_mkM _ _ _ (⟨2, 2, 0, 1, 0⟩ : S105) )) (Reps.none _ _))); intro v122 w55 ho56 hb hg_ hnew_; clear hg_ hnew_; (first | rw [← Ny121.out] at ho56 | (simp only [Int.reduceToNat] at ho56; rw [← Ny121.out] at ho56)); have n0_ := Aside0.mk (Kd.R_lower ho56 (below_size (blA HB.out))); have n1_ := Aside0.mk (below_step (blA HB.out) hb); clear HB; have HO123 := n0_; have HB := n1_; clear n0_ n1_; clear hb ho56; obtain ⟨Ao57, co57, eo57⟩ := Kd.R_slice HO123.out; subst eo57) | ((with_reducible refine gate_dst (N := 1) rfl ?_); (try (refine gate_guard (by rfl) ?_; dsimp only)); refine box_event ?hg (N := 1) ?hd (cs := #[.int .i64 0, .int .i64 0, .int .i64 0, .int .i64 0, .int .i64 0, .slice none 0 0]) (t := 24) ?hr ?_; (case hd => rfl); (case hg => rfl); (case hr => first | (go_simp; done) | (go_simp; rfl)); intro gb124 hg w58 hbox hb; have n0_ := Aside0.mk (Kd.R_below (raA HO123.out) hb); have n1_ := Aside0.mk (below_step (blA HB.out) hb); have n2_ := Aside0.mk (hbox); have n3_ := Aside0.mk ((by rw [hg]; exact (below_size (blA HB.out)) : w.heap.size ≤ gb124)); have n4_ := Aside0.mk ((by rw [hg]; exact (below_size (blA HB.out)) : w.heap.size ≤ gb124)); clear HO123; clear HB; have HO123 := n0_; have HB := n1_; have BK124 := n2_; have GW124 := n3_; have GE124 := n4_; clear n0_ n1_ n2_ n3_ n4_; clear hb hbox hg; have hcz59 := fun i => blk_cell BK124.out i; have hfz59 := fun i => blk_frozen BK124.out i; ) | ((with_reducible refine gate_callee (f := 14) rfl ?_); refine goesL_ (some 11) rfl rfl Try.func14 (by kernel_rfl) rfl #[.agg #[.int .i64 0, .int .i64 0, .int .i64 2, .int .i64 2, .int .i64 0, .slice Ao57 y121.length co57]] rfl gsA ?_; (with_reducible refine (circuit_Wires.calls k 0 0 2 2 0 _ _ y121 t125 t128 _ ?side1 ?side2 A1.out).mono ?_); (case side1 => refine (Kd.R_reads' (e := 105) (base := w.heap.size) (ok := fun k_ => True) (n := y121.length) (c := co57) ?_).2.2; exact (by (with_reducible repeat (first | apply Kd.R_alloc | apply Kd.R_drewN | apply Kd.R_drew)); exact (Kd.R_mono (Kd.R_far (p := ⟨gb124, 5, none⟩) (Kd.R_far (p := ⟨gb124, 4, none⟩) (Kd.R_far (p := ⟨gb124, 3, none⟩) (Kd.R_far (p := ⟨gb124, 2, none⟩) (Kd.R_far (p := ⟨gb124, 1, none⟩) (Kd.R_far (p := ⟨gb124, 0, none⟩) (Kd.R_types HO123.out BK124.out (by decide)) (fun _ hk => hk.2) (.int .i64 0)) (fun _ hk => hk.2) (.int .i64 0)) (fun _ hk => hk.2) (.int .i64 2)) (fun _ hk => hk.2) (.int .i64 2)) (fun _ hk => hk.2) (.int .i64 0)) (fun _ hk => hk.2) (.slice Ao57 y121.length co57)) (fun _ h_ => h_.1)))); (case side2 => exact (Kd.R_reads' HO123.out).2.1); rintro e w60 ⟨v126, rfl, ho0, hb⟩; refine ⟨_, rfl, ?_⟩; have n0_ := Aside0.mk (Kd.R_below (by (with_reducible repeat (first | apply Kd.R_alloc | apply Kd.R_drewN | apply Kd.R_drew)); exact (Kd.R_mono (Kd.R_far (p := ⟨gb124, 5, none⟩) (Kd.R_far (p := ⟨gb124, 4, none⟩) (Kd.R_far (p := ⟨gb124, 3, none⟩) (Kd.R_far (p := ⟨gb124, 2, none⟩) (Kd.R_far (p := ⟨gb124, 1, none⟩) (Kd.R_far (p := ⟨gb124, 0, none⟩) (Kd.R_types HO123.out BK124.out (by decide)) (fun _ hk => hk.2) (.int .i64 0)) (fun _ hk => hk.2) (.int .i64 0)) (fun _ hk => hk.2) (.int .i64 2)) (fun _ hk => hk.2) (.int .i64 2)) (fun _ hk => hk.2) (.int .i64 0)) (fun _ hk => hk.2) (.slice Ao57 y121.length co57)) (fun _ h_ => h_.1))) hb); have n1_ := Aside0.mk (Kd.R_lower ho0 (below_size (blA HB.out))); have n2_ := Aside0.mk (blk_below (g := gb124) (o := .cells #[.int .i64 0, .int .i64 0, .int .i64 2, .int .i64 2, .int .i64 0, .slice Ao57 y121.length co57] 24 (0, 0)) (by refine bkA ?_; refine blk_put (cs := #[.int .i64 0, .int .i64 0, .int .i64 2, .int .i64 2, .int .i64 0, .slice none 0 0]) ?_ 5 _ rfl; refine bkA ?_; refine blk_put (cs := #[.int .i64 0, .int .i64 0, .int .i64 2, .int .i64 2, .int .i64 0, .slice none 0 0]) ?_ 4 _ rfl; refine bkA ?_; refine blk_put (cs := #[.int .i64 0, .int .i64 0, .int .i64 2, .int .i64 0, .int .i64 0, .slice none 0 0]) ?_ 3 _ rfl; refine bkA ?_; refine blk_put (cs := #[.int .i64 0, .int .i64 0, .int .i64 0, .int .i64 0, .int .i64 0, .slice none 0 0]) ?_ 2 _ rfl; refine bkA ?_; refine blk_put (cs := #[.int .i64 0, .int .i64 0, .int .i64 0, .int .i64 0, .int .i64 0, .slice none 0 0]) ?_ 1 _ rfl; refine bkA ?_; refine blk_put (cs := #[.int .i64 0, .int .i64 0, .int .i64 0, .int .i64 0, .int .i64 0, .slice none 0 0]) ?_ 0 _ rfl; refine bkA ?_; exact BK124.out) hb); have n3_ := Aside0.mk (below_step (blA HB.out) hb); clear HO123; clear BK124; clear HB; have HO123 := n0_; have HO127 := n1_; have BK124 := n2_; have HB := n3_; clear n0_ n1_ n2_ n3_; (try clear hb); (try clear ho0); have hcz61 := fun i => blk_cell BK124.out i; have hfz61 := fun i => blk_frozen BK124.out i; ) | ((with_reducible refine gate_callee (f := 15) rfl ?_); refine goesL_ (some 16) rfl rfl Try.func15 (by kernel_rfl) rfl #[.agg #[.int .i64 0, .int .i64 0, .int .i64 2, .int .i64 2, .int .i64 0, .slice Ao57 y121.length co57]] rfl gsA ?_; (with_reducible refine (circuit_Conds.calls k 0 0 2 2 0 _ _ y121 t129 t132 _ ?side1 ?side2 A2.out).mono ?_); (case side1 => repeat (first | exact (Kd.R_reads' HO123.out).2.2 | (with_reducible refine Kd.C_alloc ?_ _) | (with_reducible refine Kd.C_drewN ?_ _) | (with_reducible refine Kd.C_drew ?_))); (case side2 => exact (Kd.R_reads' HO123.out).2.1); rintro e w62 ⟨v130, rfl, ho0, hb⟩; refine ⟨_, rfl, ?_⟩; have n0_ := Aside0.mk (Kd.R_below (raA HO123.out) hb); have n1_ := Aside0.mk (Kd.R_below (raA HO127.out) hb); have n2_ := Aside0.mk (Kd.N_lower (Kd.N_mono (ok' := fun k_ => some k_ ≠ (.slice Ao57 y121.length co57 : Value).ownBlock ∧ some k_ ≠ (v126 : Value).ownBlock ∧ k_ ≠ gb124) ho0 (fun k_ hk_ => ⟨(Kd.fresh' (Kd.R_lt (raA HO123.out)) k_ hk_), (Kd.fresh' (Kd.R_lt (raA HO127.out)) k_ hk_), (Kd.freshB (bkA BK124.out) k_ hk_)⟩)) (below_size (blA HB.out))); have n3_ := Aside0.mk (blk_below (bkA BK124.out) hb); have n4_ := Aside0.mk (below_step (blA HB.out) hb); clear HO123; clear HO127; clear BK124; clear HB; have HO123 := n0_; have HO127 := n1_; have HO131 := n2_; have BK124 := n3_; have HB := n4_; clear n0_ n1_ n2_ n3_ n4_; (try clear hb); (try clear ho0); obtain ⟨Ao63, co63, eo63⟩ := Kd.R_slice HO127.out; subst eo63; have p133 : 0 ≤ (0 : Int) := (by omega); have q133 : 0 < (t125.length : Int) := of_decide_eq_true (by first | (with_reducible assumption) | assumption); obtain ⟨ad133, e133, hx133_0, hx133_1, hx133_2, hx133_3, hx133_4⟩ := at_T76 (Kd.R_reads' HO127.out).2.2 0 p133 q133; cases e133; have qi133 : (0 < t125.length) = True := eq_true (by omega); (try rw [show ((0 : Int)).toNat = 0 from rfl] at hx133_0); (try rw [show 0 * 5 = 0 from rfl] at hx133_0); (try rw [Addr.add_zero'] at hx133_0); (try rw [show ((0 : Int)).toNat = 0 from rfl] at hx133_1); (try rw [show 0 * 5 = 0 from rfl] at hx133_1); (try rw [Addr.add_zero'] at hx133_1); (try rw [show ((0 : Int)).toNat = 0 from rfl] at hx133_2); (try rw [show 0 * 5 = 0 from rfl] at hx133_2); (try rw [Addr.add_zero'] at hx133_2); (try rw [show ((0 : Int)).toNat = 0 from rfl] at hx133_3); (try rw [show 0 * 5 = 0 from rfl] at hx133_3); (try rw [Addr.add_zero'] at hx133_3); (try rw [show ((0 : Int)).toNat = 0 from rfl] at hx133_4); (try rw [show 0 * 5 = 0 from rfl] at hx133_4); (try rw [Addr.add_zero'] at hx133_4); replace p133 := eq_true p133; replace q133 := eq_true q133))
      go_ret
      exact ⟨by first | rfl | (simp [errW_none, errW_some] <;> rfl) | (simp [*, errW_none, errW_some] <;> rfl), blA HB.out⟩
    ·rw [if_neg c6] at H
     exact absurd H (by simp)
   ·rw [if_neg c5] at H
    have c5b0 : ((t125.length : Int) == 3) = false := beq_eq_false_iff_ne.mpr c5; have c5b1 : ((t125.length : Int) != 3) = true := bne_iff_ne.mpr c5; obtain rfl := Option.some.inj H
    go_enter Try.func12, Try.ntmps12
    go_wp2_with (first | ((with_reducible refine gate_dst (N := 7) rfl ?_); (try (refine gate_guard (by rfl) ?_; dsimp only)); refine Kd.R_lit k105 _ 105 ?hg (N := 7) ?hd (xs := ([(⟨2, 2, 0, 1, 0⟩ : S105)] : List (S105))) (inner := [.int .i64 2, .int .i64 2, .int .i64 0, .int .i64 1, .int .i64 0]) (ok := fun _ => True) (okp := fun _ => True) ?hr ?hp (fun _ hk => hk) trivial (Below.refl _ _) (Nat.le_refl _) (by simp) ?_; (case hd => rfl); (case hg => rfl); (case hr => first | (go_simp; done) | (go_simp; rfl)); (case hp => exact (Reps.c5 (show Kd.M k105 _ _ _ (⟨2, 2, 0, 1, 0⟩ : S105) [.int .i64 2, .int .i64 2, .int .i64 0, .int .i64 1, .int .i64 0] from (k105_mkM _ _ _ (⟨2, 2, 0, 1, 0⟩ : S105) )) (Reps.none _ _))); intro v122 w64 ho65 hb hg_ hnew_; clear hg_ hnew_; (first | rw [← Ny121.out] at ho65 | (simp only [Int.reduceToNat] at ho65; rw [← Ny121.out] at ho65)); have n0_ := Aside0.mk (Kd.R_lower ho65 (below_size (blA HB.out))); have n1_ := Aside0.mk (below_step (blA HB.out) hb); clear HB; have HO123 := n0_; have HB := n1_; clear n0_ n1_; clear hb ho65; obtain ⟨Ao66, co66, eo66⟩ := Kd.R_slice HO123.out; subst eo66) | ((with_reducible refine gate_dst (N := 1) rfl ?_); (try (refine gate_guard (by rfl) ?_; dsimp only)); refine box_event ?hg (N := 1) ?hd (cs := #[.int .i64 0, .int .i64 0, .int .i64 0, .int .i64 0, .int .i64 0, .slice none 0 0]) (t := 24) ?hr ?_; (case hd => rfl); (case hg => rfl); (case hr => first | (go_simp; done) | (go_simp; rfl)); intro gb124 hg w67 hbox hb; have n0_ := Aside0.mk (Kd.R_below (raA HO123.out) hb); have n1_ := Aside0.mk (below_step (blA HB.out) hb); have n2_ := Aside0.mk (hbox); have n3_ := Aside0.mk ((by rw [hg]; exact (below_size (blA HB.out)) : w.heap.size ≤ gb124)); have n4_ := Aside0.mk ((by rw [hg]; exact (below_size (blA HB.out)) : w.heap.size ≤ gb124)); clear HO123; clear HB; have HO123 := n0_; have HB := n1_; have BK124 := n2_; have GW124 := n3_; have GE124 := n4_; clear n0_ n1_ n2_ n3_ n4_; clear hb hbox hg; have hcz68 := fun i => blk_cell BK124.out i; have hfz68 := fun i => blk_frozen BK124.out i; ) | ((with_reducible refine gate_callee (f := 14) rfl ?_); refine goesL_ (some 11) rfl rfl Try.func14 (by kernel_rfl) rfl #[.agg #[.int .i64 0, .int .i64 0, .int .i64 2, .int .i64 2, .int .i64 0, .slice Ao66 y121.length co66]] rfl gsA ?_; (with_reducible refine (circuit_Wires.calls k 0 0 2 2 0 _ _ y121 t125 t128 _ ?side1 ?side2 A1.out).mono ?_); (case side1 => refine (Kd.R_reads' (e := 105) (base := w.heap.size) (ok := fun k_ => True) (n := y121.length) (c := co66) ?_).2.2; exact (by (with_reducible repeat (first | apply Kd.R_alloc | apply Kd.R_drewN | apply Kd.R_drew)); exact (Kd.R_mono (Kd.R_far (p := ⟨gb124, 5, none⟩) (Kd.R_far (p := ⟨gb124, 4, none⟩) (Kd.R_far (p := ⟨gb124, 3, none⟩) (Kd.R_far (p := ⟨gb124, 2, none⟩) (Kd.R_far (p := ⟨gb124, 1, none⟩) (Kd.R_far (p := ⟨gb124, 0, none⟩) (Kd.R_types HO123.out BK124.out (by decide)) (fun _ hk => hk.2) (.int .i64 0)) (fun _ hk => hk.2) (.int .i64 0)) (fun _ hk => hk.2) (.int .i64 2)) (fun _ hk => hk.2) (.int .i64 2)) (fun _ hk => hk.2) (.int .i64 0)) (fun _ hk => hk.2) (.slice Ao66 y121.length co66)) (fun _ h_ => h_.1)))); (case side2 => exact (Kd.R_reads' HO123.out).2.1); rintro e w69 ⟨v126, rfl, ho0, hb⟩; refine ⟨_, rfl, ?_⟩; have n0_ := Aside0.mk (Kd.R_below (by (with_reducible repeat (first | apply Kd.R_alloc | apply Kd.R_drewN | apply Kd.R_drew)); exact (Kd.R_mono (Kd.R_far (p := ⟨gb124, 5, none⟩) (Kd.R_far (p := ⟨gb124, 4, none⟩) (Kd.R_far (p := ⟨gb124, 3, none⟩) (Kd.R_far (p := ⟨gb124, 2, none⟩) (Kd.R_far (p := ⟨gb124, 1, none⟩) (Kd.R_far (p := ⟨gb124, 0, none⟩) (Kd.R_types HO123.out BK124.out (by decide)) (fun _ hk => hk.2) (.int .i64 0)) (fun _ hk => hk.2) (.int .i64 0)) (fun _ hk => hk.2) (.int .i64 2)) (fun _ hk => hk.2) (.int .i64 2)) (fun _ hk => hk.2) (.int .i64 0)) (fun _ hk => hk.2) (.slice Ao66 y121.length co66)) (fun _ h_ => h_.1))) hb); have n1_ := Aside0.mk (Kd.R_lower ho0 (below_size (blA HB.out))); have n2_ := Aside0.mk (blk_below (g := gb124) (o := .cells #[.int .i64 0, .int .i64 0, .int .i64 2, .int .i64 2, .int .i64 0, .slice Ao66 y121.length co66] 24 (0, 0)) (by refine bkA ?_; refine blk_put (cs := #[.int .i64 0, .int .i64 0, .int .i64 2, .int .i64 2, .int .i64 0, .slice none 0 0]) ?_ 5 _ rfl; refine bkA ?_; refine blk_put (cs := #[.int .i64 0, .int .i64 0, .int .i64 2, .int .i64 2, .int .i64 0, .slice none 0 0]) ?_ 4 _ rfl; refine bkA ?_; refine blk_put (cs := #[.int .i64 0, .int .i64 0, .int .i64 2, .int .i64 0, .int .i64 0, .slice none 0 0]) ?_ 3 _ rfl; refine bkA ?_; refine blk_put (cs := #[.int .i64 0, .int .i64 0, .int .i64 0, .int .i64 0, .int .i64 0, .slice none 0 0]) ?_ 2 _ rfl; refine bkA ?_; refine blk_put (cs := #[.int .i64 0, .int .i64 0, .int .i64 0, .int .i64 0, .int .i64 0, .slice none 0 0]) ?_ 1 _ rfl; refine bkA ?_; refine blk_put (cs := #[.int .i64 0, .int .i64 0, .int .i64 0, .int .i64 0, .int .i64 0, .slice none 0 0]) ?_ 0 _ rfl; refine bkA ?_; exact BK124.out) hb); have n3_ := Aside0.mk (below_step (blA HB.out) hb); clear HO123; clear BK124; clear HB; have HO123 := n0_; have HO127 := n1_; have BK124 := n2_; have HB := n3_; clear n0_ n1_ n2_ n3_; (try clear hb); (try clear ho0); have hcz70 := fun i => blk_cell BK124.out i; have hfz70 := fun i => blk_frozen BK124.out i; ) | ((with_reducible refine gate_callee (f := 15) rfl ?_); refine goesL_ (some 16) rfl rfl Try.func15 (by kernel_rfl) rfl #[.agg #[.int .i64 0, .int .i64 0, .int .i64 2, .int .i64 2, .int .i64 0, .slice Ao66 y121.length co66]] rfl gsA ?_; (with_reducible refine (circuit_Conds.calls k 0 0 2 2 0 _ _ y121 t129 t132 _ ?side1 ?side2 A2.out).mono ?_); (case side1 => repeat (first | exact (Kd.R_reads' HO123.out).2.2 | (with_reducible refine Kd.C_alloc ?_ _) | (with_reducible refine Kd.C_drewN ?_ _) | (with_reducible refine Kd.C_drew ?_))); (case side2 => exact (Kd.R_reads' HO123.out).2.1); rintro e w71 ⟨v130, rfl, ho0, hb⟩; refine ⟨_, rfl, ?_⟩; have n0_ := Aside0.mk (Kd.R_below (raA HO123.out) hb); have n1_ := Aside0.mk (Kd.R_below (raA HO127.out) hb); have n2_ := Aside0.mk (Kd.N_lower (Kd.N_mono (ok' := fun k_ => some k_ ≠ (.slice Ao66 y121.length co66 : Value).ownBlock ∧ some k_ ≠ (v126 : Value).ownBlock ∧ k_ ≠ gb124) ho0 (fun k_ hk_ => ⟨(Kd.fresh' (Kd.R_lt (raA HO123.out)) k_ hk_), (Kd.fresh' (Kd.R_lt (raA HO127.out)) k_ hk_), (Kd.freshB (bkA BK124.out) k_ hk_)⟩)) (below_size (blA HB.out))); have n3_ := Aside0.mk (blk_below (bkA BK124.out) hb); have n4_ := Aside0.mk (below_step (blA HB.out) hb); clear HO123; clear HO127; clear BK124; clear HB; have HO123 := n0_; have HO127 := n1_; have HO131 := n2_; have BK124 := n3_; have HB := n4_; clear n0_ n1_ n2_ n3_ n4_; (try clear hb); (try clear ho0); obtain ⟨Ao72, co72, eo72⟩ := Kd.R_slice HO127.out; subst eo72))
    go_ret
    exact ⟨by first | rfl | (simp [errW_none, errW_some] <;> rfl) | (simp [*, errW_none, errW_some] <;> rfl), blA HB.out⟩
  ·rw [if_neg c4] at H
   have c4b0 : (t132 == 0) = false := beq_eq_false_iff_ne.mpr c4; have c4b1 : (t132 != 0) = true := bne_iff_ne.mpr c4; obtain rfl := Option.some.inj H
   go_enter Try.func12, Try.ntmps12
   go_wp2_with (first | ((with_reducible refine gate_dst (N := 7) rfl ?_); (try (refine gate_guard (by rfl) ?_; dsimp only)); refine Kd.R_lit k105 _ 105 ?hg (N := 7) ?hd (xs := ([(⟨2, 2, 0, 1, 0⟩ : S105)] : List (S105))) (inner := [.int .i64 2, .int .i64 2, .int .i64 0, .int .i64 1, .int .i64 0]) (ok := fun _ => True) (okp := fun _ => True) ?hr ?hp (fun _ hk => hk) trivial (Below.refl _ _) (Nat.le_refl _) (by simp) ?_; (case hd => rfl); (case hg => rfl); (case hr => first | (go_simp; done) | (go_simp; rfl)); (case hp => exact (Reps.c5 (show Kd.M k105 _ _ _ (⟨2, 2, 0, 1, 0⟩ : S105) [.int .i64 2, .int .i64 2, .int .i64 0, .int .i64 1, .int .i64 0] from (k105_mkM _ _ _ (⟨2, 2, 0, 1, 0⟩ : S105) )) (Reps.none _ _))); intro v122 w73 ho74 hb hg_ hnew_; clear hg_ hnew_; (first | rw [← Ny121.out] at ho74 | (simp only [Int.reduceToNat] at ho74; rw [← Ny121.out] at ho74)); have n0_ := Aside0.mk (Kd.R_lower ho74 (below_size (blA HB.out))); have n1_ := Aside0.mk (below_step (blA HB.out) hb); clear HB; have HO123 := n0_; have HB := n1_; clear n0_ n1_; clear hb ho74; obtain ⟨Ao75, co75, eo75⟩ := Kd.R_slice HO123.out; subst eo75) | ((with_reducible refine gate_dst (N := 1) rfl ?_); (try (refine gate_guard (by rfl) ?_; dsimp only)); refine box_event ?hg (N := 1) ?hd (cs := #[.int .i64 0, .int .i64 0, .int .i64 0, .int .i64 0, .int .i64 0, .slice none 0 0]) (t := 24) ?hr ?_; (case hd => rfl); (case hg => rfl); (case hr => first | (go_simp; done) | (go_simp; rfl)); intro gb124 hg w76 hbox hb; have n0_ := Aside0.mk (Kd.R_below (raA HO123.out) hb); have n1_ := Aside0.mk (below_step (blA HB.out) hb); have n2_ := Aside0.mk (hbox); have n3_ := Aside0.mk ((by rw [hg]; exact (below_size (blA HB.out)) : w.heap.size ≤ gb124)); have n4_ := Aside0.mk ((by rw [hg]; exact (below_size (blA HB.out)) : w.heap.size ≤ gb124)); clear HO123; clear HB; have HO123 := n0_; have HB := n1_; have BK124 := n2_; have GW124 := n3_; have GE124 := n4_; clear n0_ n1_ n2_ n3_ n4_; clear hb hbox hg; have hcz77 := fun i => blk_cell BK124.out i; have hfz77 := fun i => blk_frozen BK124.out i; ) | ((with_reducible refine gate_callee (f := 14) rfl ?_); refine goesL_ (some 11) rfl rfl Try.func14 (by kernel_rfl) rfl #[.agg #[.int .i64 0, .int .i64 0, .int .i64 2, .int .i64 2, .int .i64 0, .slice Ao75 y121.length co75]] rfl gsA ?_; (with_reducible refine (circuit_Wires.calls k 0 0 2 2 0 _ _ y121 t125 t128 _ ?side1 ?side2 A1.out).mono ?_); (case side1 => refine (Kd.R_reads' (e := 105) (base := w.heap.size) (ok := fun k_ => True) (n := y121.length) (c := co75) ?_).2.2; exact (by (with_reducible repeat (first | apply Kd.R_alloc | apply Kd.R_drewN | apply Kd.R_drew)); exact (Kd.R_mono (Kd.R_far (p := ⟨gb124, 5, none⟩) (Kd.R_far (p := ⟨gb124, 4, none⟩) (Kd.R_far (p := ⟨gb124, 3, none⟩) (Kd.R_far (p := ⟨gb124, 2, none⟩) (Kd.R_far (p := ⟨gb124, 1, none⟩) (Kd.R_far (p := ⟨gb124, 0, none⟩) (Kd.R_types HO123.out BK124.out (by decide)) (fun _ hk => hk.2) (.int .i64 0)) (fun _ hk => hk.2) (.int .i64 0)) (fun _ hk => hk.2) (.int .i64 2)) (fun _ hk => hk.2) (.int .i64 2)) (fun _ hk => hk.2) (.int .i64 0)) (fun _ hk => hk.2) (.slice Ao75 y121.length co75)) (fun _ h_ => h_.1)))); (case side2 => exact (Kd.R_reads' HO123.out).2.1); rintro e w78 ⟨v126, rfl, ho0, hb⟩; refine ⟨_, rfl, ?_⟩; have n0_ := Aside0.mk (Kd.R_below (by (with_reducible repeat (first | apply Kd.R_alloc | apply Kd.R_drewN | apply Kd.R_drew)); exact (Kd.R_mono (Kd.R_far (p := ⟨gb124, 5, none⟩) (Kd.R_far (p := ⟨gb124, 4, none⟩) (Kd.R_far (p := ⟨gb124, 3, none⟩) (Kd.R_far (p := ⟨gb124, 2, none⟩) (Kd.R_far (p := ⟨gb124, 1, none⟩) (Kd.R_far (p := ⟨gb124, 0, none⟩) (Kd.R_types HO123.out BK124.out (by decide)) (fun _ hk => hk.2) (.int .i64 0)) (fun _ hk => hk.2) (.int .i64 0)) (fun _ hk => hk.2) (.int .i64 2)) (fun _ hk => hk.2) (.int .i64 2)) (fun _ hk => hk.2) (.int .i64 0)) (fun _ hk => hk.2) (.slice Ao75 y121.length co75)) (fun _ h_ => h_.1))) hb); have n1_ := Aside0.mk (Kd.R_lower ho0 (below_size (blA HB.out))); have n2_ := Aside0.mk (blk_below (g := gb124) (o := .cells #[.int .i64 0, .int .i64 0, .int .i64 2, .int .i64 2, .int .i64 0, .slice Ao75 y121.length co75] 24 (0, 0)) (by refine bkA ?_; refine blk_put (cs := #[.int .i64 0, .int .i64 0, .int .i64 2, .int .i64 2, .int .i64 0, .slice none 0 0]) ?_ 5 _ rfl; refine bkA ?_; refine blk_put (cs := #[.int .i64 0, .int .i64 0, .int .i64 2, .int .i64 2, .int .i64 0, .slice none 0 0]) ?_ 4 _ rfl; refine bkA ?_; refine blk_put (cs := #[.int .i64 0, .int .i64 0, .int .i64 2, .int .i64 0, .int .i64 0, .slice none 0 0]) ?_ 3 _ rfl; refine bkA ?_; refine blk_put (cs := #[.int .i64 0, .int .i64 0, .int .i64 0, .int .i64 0, .int .i64 0, .slice none 0 0]) ?_ 2 _ rfl; refine bkA ?_; refine blk_put (cs := #[.int .i64 0, .int .i64 0, .int .i64 0, .int .i64 0, .int .i64 0, .slice none 0 0]) ?_ 1 _ rfl; refine bkA ?_; refine blk_put (cs := #[.int .i64 0, .int .i64 0, .int .i64 0, .int .i64 0, .int .i64 0, .slice none 0 0]) ?_ 0 _ rfl; refine bkA ?_; exact BK124.out) hb); have n3_ := Aside0.mk (below_step (blA HB.out) hb); clear HO123; clear BK124; clear HB; have HO123 := n0_; have HO127 := n1_; have BK124 := n2_; have HB := n3_; clear n0_ n1_ n2_ n3_; (try clear hb); (try clear ho0); have hcz79 := fun i => blk_cell BK124.out i; have hfz79 := fun i => blk_frozen BK124.out i; ) | ((with_reducible refine gate_callee (f := 15) rfl ?_); refine goesL_ (some 16) rfl rfl Try.func15 (by kernel_rfl) rfl #[.agg #[.int .i64 0, .int .i64 0, .int .i64 2, .int .i64 2, .int .i64 0, .slice Ao75 y121.length co75]] rfl gsA ?_; (with_reducible refine (circuit_Conds.calls k 0 0 2 2 0 _ _ y121 t129 t132 _ ?side1 ?side2 A2.out).mono ?_); (case side1 => repeat (first | exact (Kd.R_reads' HO123.out).2.2 | (with_reducible refine Kd.C_alloc ?_ _) | (with_reducible refine Kd.C_drewN ?_ _) | (with_reducible refine Kd.C_drew ?_))); (case side2 => exact (Kd.R_reads' HO123.out).2.1); rintro e w80 ⟨v130, rfl, ho0, hb⟩; refine ⟨_, rfl, ?_⟩; have n0_ := Aside0.mk (Kd.R_below (raA HO123.out) hb); have n1_ := Aside0.mk (Kd.R_below (raA HO127.out) hb); have n2_ := Aside0.mk (Kd.N_lower (Kd.N_mono (ok' := fun k_ => some k_ ≠ (.slice Ao75 y121.length co75 : Value).ownBlock ∧ some k_ ≠ (v126 : Value).ownBlock ∧ k_ ≠ gb124) ho0 (fun k_ hk_ => ⟨(Kd.fresh' (Kd.R_lt (raA HO123.out)) k_ hk_), (Kd.fresh' (Kd.R_lt (raA HO127.out)) k_ hk_), (Kd.freshB (bkA BK124.out) k_ hk_)⟩)) (below_size (blA HB.out))); have n3_ := Aside0.mk (blk_below (bkA BK124.out) hb); have n4_ := Aside0.mk (below_step (blA HB.out) hb); clear HO123; clear HO127; clear BK124; clear HB; have HO123 := n0_; have HO127 := n1_; have HO131 := n2_; have BK124 := n3_; have HB := n4_; clear n0_ n1_ n2_ n3_ n4_; (try clear hb); (try clear ho0)))
   go_ret
   exact ⟨by first | rfl | (simp [errW_none, errW_some] <;> rfl) | (simp [*, errW_none, errW_some] <;> rfl), blA HB.out⟩
 ·rw [if_neg c3] at H
  have c3b0 : (t128 == 0) = false := beq_eq_false_iff_ne.mpr c3; have c3b1 : (t128 != 0) = true := bne_iff_ne.mpr c3; obtain rfl := Option.some.inj H
  go_enter Try.func12, Try.ntmps12
  go_wp2_with (first | ((with_reducible refine gate_dst (N := 7) rfl ?_); (try (refine gate_guard (by rfl) ?_; dsimp only)); refine Kd.R_lit k105 _ 105 ?hg (N := 7) ?hd (xs := ([(⟨2, 2, 0, 1, 0⟩ : S105)] : List (S105))) (inner := [.int .i64 2, .int .i64 2, .int .i64 0, .int .i64 1, .int .i64 0]) (ok := fun _ => True) (okp := fun _ => True) ?hr ?hp (fun _ hk => hk) trivial (Below.refl _ _) (Nat.le_refl _) (by simp) ?_; (case hd => rfl); (case hg => rfl); (case hr => first | (go_simp; done) | (go_simp; rfl)); (case hp => exact (Reps.c5 (show Kd.M k105 _ _ _ (⟨2, 2, 0, 1, 0⟩ : S105) [.int .i64 2, .int .i64 2, .int .i64 0, .int .i64 1, .int .i64 0] from (k105_mkM _ _ _ (⟨2, 2, 0, 1, 0⟩ : S105) )) (Reps.none _ _))); intro v122 w81 ho82 hb hg_ hnew_; clear hg_ hnew_; (first | rw [← Ny121.out] at ho82 | (simp only [Int.reduceToNat] at ho82; rw [← Ny121.out] at ho82)); have n0_ := Aside0.mk (Kd.R_lower ho82 (below_size (blA HB.out))); have n1_ := Aside0.mk (below_step (blA HB.out) hb); clear HB; have HO123 := n0_; have HB := n1_; clear n0_ n1_; clear hb ho82; obtain ⟨Ao83, co83, eo83⟩ := Kd.R_slice HO123.out; subst eo83) | ((with_reducible refine gate_dst (N := 1) rfl ?_); (try (refine gate_guard (by rfl) ?_; dsimp only)); refine box_event ?hg (N := 1) ?hd (cs := #[.int .i64 0, .int .i64 0, .int .i64 0, .int .i64 0, .int .i64 0, .slice none 0 0]) (t := 24) ?hr ?_; (case hd => rfl); (case hg => rfl); (case hr => first | (go_simp; done) | (go_simp; rfl)); intro gb124 hg w84 hbox hb; have n0_ := Aside0.mk (Kd.R_below (raA HO123.out) hb); have n1_ := Aside0.mk (below_step (blA HB.out) hb); have n2_ := Aside0.mk (hbox); have n3_ := Aside0.mk ((by rw [hg]; exact (below_size (blA HB.out)) : w.heap.size ≤ gb124)); have n4_ := Aside0.mk ((by rw [hg]; exact (below_size (blA HB.out)) : w.heap.size ≤ gb124)); clear HO123; clear HB; have HO123 := n0_; have HB := n1_; have BK124 := n2_; have GW124 := n3_; have GE124 := n4_; clear n0_ n1_ n2_ n3_ n4_; clear hb hbox hg; have hcz85 := fun i => blk_cell BK124.out i; have hfz85 := fun i => blk_frozen BK124.out i; ) | ((with_reducible refine gate_callee (f := 14) rfl ?_); refine goesL_ (some 11) rfl rfl Try.func14 (by kernel_rfl) rfl #[.agg #[.int .i64 0, .int .i64 0, .int .i64 2, .int .i64 2, .int .i64 0, .slice Ao83 y121.length co83]] rfl gsA ?_; (with_reducible refine (circuit_Wires.calls k 0 0 2 2 0 _ _ y121 t125 t128 _ ?side1 ?side2 A1.out).mono ?_); (case side1 => refine (Kd.R_reads' (e := 105) (base := w.heap.size) (ok := fun k_ => True) (n := y121.length) (c := co83) ?_).2.2; exact (by (with_reducible repeat (first | apply Kd.R_alloc | apply Kd.R_drewN | apply Kd.R_drew)); exact (Kd.R_mono (Kd.R_far (p := ⟨gb124, 5, none⟩) (Kd.R_far (p := ⟨gb124, 4, none⟩) (Kd.R_far (p := ⟨gb124, 3, none⟩) (Kd.R_far (p := ⟨gb124, 2, none⟩) (Kd.R_far (p := ⟨gb124, 1, none⟩) (Kd.R_far (p := ⟨gb124, 0, none⟩) (Kd.R_types HO123.out BK124.out (by decide)) (fun _ hk => hk.2) (.int .i64 0)) (fun _ hk => hk.2) (.int .i64 0)) (fun _ hk => hk.2) (.int .i64 2)) (fun _ hk => hk.2) (.int .i64 2)) (fun _ hk => hk.2) (.int .i64 0)) (fun _ hk => hk.2) (.slice Ao83 y121.length co83)) (fun _ h_ => h_.1)))); (case side2 => exact (Kd.R_reads' HO123.out).2.1); rintro e w86 ⟨v126, rfl, ho0, hb⟩; refine ⟨_, rfl, ?_⟩; have n0_ := Aside0.mk (Kd.R_below (by (with_reducible repeat (first | apply Kd.R_alloc | apply Kd.R_drewN | apply Kd.R_drew)); exact (Kd.R_mono (Kd.R_far (p := ⟨gb124, 5, none⟩) (Kd.R_far (p := ⟨gb124, 4, none⟩) (Kd.R_far (p := ⟨gb124, 3, none⟩) (Kd.R_far (p := ⟨gb124, 2, none⟩) (Kd.R_far (p := ⟨gb124, 1, none⟩) (Kd.R_far (p := ⟨gb124, 0, none⟩) (Kd.R_types HO123.out BK124.out (by decide)) (fun _ hk => hk.2) (.int .i64 0)) (fun _ hk => hk.2) (.int .i64 0)) (fun _ hk => hk.2) (.int .i64 2)) (fun _ hk => hk.2) (.int .i64 2)) (fun _ hk => hk.2) (.int .i64 0)) (fun _ hk => hk.2) (.slice Ao83 y121.length co83)) (fun _ h_ => h_.1))) hb); have n1_ := Aside0.mk (Kd.R_lower ho0 (below_size (blA HB.out))); have n2_ := Aside0.mk (blk_below (g := gb124) (o := .cells #[.int .i64 0, .int .i64 0, .int .i64 2, .int .i64 2, .int .i64 0, .slice Ao83 y121.length co83] 24 (0, 0)) (by refine bkA ?_; refine blk_put (cs := #[.int .i64 0, .int .i64 0, .int .i64 2, .int .i64 2, .int .i64 0, .slice none 0 0]) ?_ 5 _ rfl; refine bkA ?_; refine blk_put (cs := #[.int .i64 0, .int .i64 0, .int .i64 2, .int .i64 2, .int .i64 0, .slice none 0 0]) ?_ 4 _ rfl; refine bkA ?_; refine blk_put (cs := #[.int .i64 0, .int .i64 0, .int .i64 2, .int .i64 0, .int .i64 0, .slice none 0 0]) ?_ 3 _ rfl; refine bkA ?_; refine blk_put (cs := #[.int .i64 0, .int .i64 0, .int .i64 0, .int .i64 0, .int .i64 0, .slice none 0 0]) ?_ 2 _ rfl; refine bkA ?_; refine blk_put (cs := #[.int .i64 0, .int .i64 0, .int .i64 0, .int .i64 0, .int .i64 0, .slice none 0 0]) ?_ 1 _ rfl; refine bkA ?_; refine blk_put (cs := #[.int .i64 0, .int .i64 0, .int .i64 0, .int .i64 0, .int .i64 0, .slice none 0 0]) ?_ 0 _ rfl; refine bkA ?_; exact BK124.out) hb); have n3_ := Aside0.mk (below_step (blA HB.out) hb); clear HO123; clear BK124; clear HB; have HO123 := n0_; have HO127 := n1_; have BK124 := n2_; have HB := n3_; clear n0_ n1_ n2_ n3_; (try clear hb); (try clear ho0); have hcz87 := fun i => blk_cell BK124.out i; have hfz87 := fun i => blk_frozen BK124.out i; ) | ((with_reducible refine gate_callee (f := 15) rfl ?_); refine goesL_ (some 16) rfl rfl Try.func15 (by kernel_rfl) rfl #[.agg #[.int .i64 0, .int .i64 0, .int .i64 2, .int .i64 2, .int .i64 0, .slice Ao83 y121.length co83]] rfl gsA ?_; (with_reducible refine (circuit_Conds.calls k 0 0 2 2 0 _ _ y121 t129 t132 _ ?side1 ?side2 A2.out).mono ?_); (case side1 => repeat (first | exact (Kd.R_reads' HO123.out).2.2 | (with_reducible refine Kd.C_alloc ?_ _) | (with_reducible refine Kd.C_drewN ?_ _) | (with_reducible refine Kd.C_drew ?_))); (case side2 => exact (Kd.R_reads' HO123.out).2.1); rintro e w88 ⟨v130, rfl, ho0, hb⟩; refine ⟨_, rfl, ?_⟩; have n0_ := Aside0.mk (Kd.R_below (raA HO123.out) hb); have n1_ := Aside0.mk (Kd.R_below (raA HO127.out) hb); have n2_ := Aside0.mk (Kd.N_lower (Kd.N_mono (ok' := fun k_ => some k_ ≠ (.slice Ao83 y121.length co83 : Value).ownBlock ∧ some k_ ≠ (v126 : Value).ownBlock ∧ k_ ≠ gb124) ho0 (fun k_ hk_ => ⟨(Kd.fresh' (Kd.R_lt (raA HO123.out)) k_ hk_), (Kd.fresh' (Kd.R_lt (raA HO127.out)) k_ hk_), (Kd.freshB (bkA BK124.out) k_ hk_)⟩)) (below_size (blA HB.out))); have n3_ := Aside0.mk (blk_below (bkA BK124.out) hb); have n4_ := Aside0.mk (below_step (blA HB.out) hb); clear HO123; clear HO127; clear BK124; clear HB; have HO123 := n0_; have HO127 := n1_; have HO131 := n2_; have BK124 := n3_; have HB := n4_; clear n0_ n1_ n2_ n3_ n4_; (try clear hb); (try clear ho0)))
  go_ret
  exact ⟨by first | rfl | (simp [errW_none, errW_some] <;> rfl) | (simp [*, errW_none, errW_some] <;> rfl), blA HB.out⟩
end Go.Proofs.Ythiiodgpdoljoaa.PLc
namespace Go.Proofs.Ythiiodgpdoljoaa.Pure
open Go.RowKit Go.Proofs.Ythiiodgpdoljoaa.PLc Go.Proofs.YthiiodgpdoljoaaW.PrintWords Go.Proofs.YthiiodgpdoljoaaW.PrintLast
set_option linter.unusedVariables false
set_option linter.unusedSimpArgs false
theorem awake25_100 : steeplelaw25_awake.f 100 = some true := by kernel_rfl
theorem awake25 (k : Nat) (hk : 100 ≤ k) : steeplelaw25_awake.f k = some true := at_rounds (fun k => steeplelaw25_awake.mono k) hk awake25_100
theorem refLoopG (a0 a1 a2 a3 a4 : Int) (b0 b1 b2 b3 b4 : Int) (l : List S105) (hl : l.length ≤ 1000) (d : Nat) : ∀ (k i : Nat) (acc : List S106), l.length - i = d → i ≤ l.length → acc.length = i → d < k →
    steeplelaw25_Ref.l0 k (i : Int) a0 a1 a2 a3 a4 l b0 b1 b2 b3 b4 acc = some (b0, b1, b2, b3, b4, acc ++ (l.drop i).map toG) := by
  induction d with
  | zero =>
    intro k i acc hd hi ha hk
    obtain ⟨k, rfl⟩ : ∃ m, k = m + 1 := ⟨k - 1, by omega⟩
    simp only [steeplelaw25_Ref.l0]
    rw [if_neg (by omega), List.drop_of_length_le (by omega)]
    simp
  | succ d ih =>
    intro k i acc hd hi ha hk
    obtain ⟨k, rfl⟩ : ∃ m, k = m + 1 := ⟨k - 1, by omega⟩
    have hlt : i < l.length := by omega
    simp only [steeplelaw25_Ref.l0]
    rw [if_pos (by omega), if_pos (by omega), if_pos (by omega), rd105 l i hlt, w64 (by omega) (by omega)]
    rw [List.drop_eq_getElem_cons hlt]
    have := ih k (i + 1) (acc ++ [toG l[i]]) (by omega) (by omega) (by simp; omega) (by omega)
    have e : acc ++ List.map toG (l[i] :: List.drop (i + 1) l) = (acc ++ [toG l[i]]) ++ List.map toG (List.drop (i + 1) l) := by rw [List.map_cons, List.append_assoc]; rfl
    rw [e]
    exact this
theorem refG (k : Nat) (a0 a1 a2 a3 a4 : Int) (l : List S105) (hl : l.length ≤ 1000) (hk : l.length < k) : steeplelaw25_Ref.f k a0 a1 a2 a3 a4 l = some (a0, a1, a2, a3, a4, l.map toG) := by
  unfold steeplelaw25_Ref.f
  have := refLoopG a0 a1 a2 a3 a4 a0 a1 a2 a3 a4 l hl l.length k 0 [] (by omega) (by omega) rfl hk
  simpa using this
theorem checkSpec (m : Nat) (wide rows cols pub priv : Int) (l : List S105) : circuit_Check.f (m + 60) wide rows cols pub priv l = some (lookS wide rows cols pub priv l).2 := by
  unfold circuit_Check.f; rw [lookSpec]; rfl
theorem lookS_cases {wide rows cols pub priv : Int} {l : List S105} (h : (lookS wide rows cols pub priv l).2 = 0) :
    0 ≤ wide ∧ wide ≤ 5 ∧ 0 ≤ rows ∧ rows ≤ 4 ∧ 0 ≤ cols ∧ cols ≤ 6 ∧ 0 ≤ pub ∧ 0 ≤ priv ∧ pub + priv ≤ p2 cols ∧ l.length ≤ 30 ∧ lookS wide rows cols pub priv l = walk wide cols l (pub + priv) := by
  unfold lookS at h ⊢
  by_cases h1 : wide < 0 ∨ 5 < wide ∨ rows < 0 ∨ 4 < rows ∨ cols < 0 ∨ 6 < cols
  · rw [if_pos h1] at h; cases h
  · by_cases h2 : pub < 0 ∨ priv < 0 ∨ p2 cols < pub ∨ p2 cols - pub < priv
    · rw [if_neg h1, if_pos h2] at h; cases h
    · by_cases h3 : 30 < l.length
      · rw [if_neg h1, if_neg h2, if_pos h3] at h; cases h
      · rw [if_neg h1, if_neg h2, if_neg h3]
        refine ⟨by omega, by omega, by omega, by omega, by omega, by omega, by omega, by omega, by omega, by omega, rfl⟩
end Go.Proofs.Ythiiodgpdoljoaa.Pure
namespace Go.Proofs.Ythiiodgpdoljoaa.PLc
open Go.RowKit Go.Proofs.YthiiodgpdoljoaaW.PrintWords Go.Proofs.YthiiodgpdoljoaaW.PrintLast Go.Proofs.YthiiodgpdoljoaaW.PrintMore
attribute [local go_sem] max2_int min2_int max_two min_two max_three min_three max_four min_four   -- for this text's walks alone
set_option linter.unusedVariables false
set_option linter.unusedSimpArgs false
theorem eqA45 (d : Nat) (w : World) (x0 y0 : Int) (x1 y1 : Int) :
  (Op.equalIn (d + 2) 45 (.agg #[.int .u64 x0, .int .u64 x1]) (.agg #[.int .u64 y0, .int .u64 y1])).run Try.prog w = .ok (x0 == y0 && (x1 == y1)) w := by
 refine eqA_of Try.underlying45 (by kernel_rfl) ?_
 refine eqf_cons (by rfl) (by go_simp; rfl) (by go_simp; rfl) (by go_simp) ?_
 exact eqf_last (by rfl) (by go_simp; rfl) (by go_simp; rfl) (by go_simp)
theorem eqA47 (d : Nat) (w : World) (x0 y0 : Int) (x1 y1 : Int) (x2 y2 : Int) (x3 y3 : Int) (x4 y4 : Int) :
  (Op.equalIn (d + 3) 47 (.agg #[.int .i64 x0, .int .i64 x1, .int .i64 x2, .int .u64 x3, .int .u64 x4]) (.agg #[.int .i64 y0, .int .i64 y1, .int .i64 y2, .int .u64 y3, .int .u64 y4])).run Try.prog w = .ok (x0 == y0 && (x1 == y1 && (x2 == y2 && ((x3 == y3 && (x4 == y4)))))) w := by
 refine eqA_of Try.underlying47 (by kernel_rfl) ?_
 refine eqf_cons (by rfl) (by go_simp; rfl) (by go_simp; rfl) (by go_simp) ?_
 refine eqf_cons (by rfl) (by go_simp; rfl) (by go_simp; rfl) (by go_simp) ?_
 refine eqf_cons (by rfl) (by go_simp; rfl) (by go_simp; rfl) (by go_simp) ?_
 exact eqf_last (by rfl) (by go_simp) (by go_simp) (eqA45 (d + 0) w _ _ _ _)
end Go.Proofs.Ythiiodgpdoljoaa.PLc
namespace Go.Proofs.Ythiiodgpdoljoaa.PLc
open Go.RowKit Go.Proofs.YthiiodgpdoljoaaW.PrintWords Go.Proofs.YthiiodgpdoljoaaW.PrintLast Go.Proofs.YthiiodgpdoljoaaW.PrintMore
attribute [local go_sem] max2_int min2_int max_two min_two max_three min_three max_four min_four   -- for this text's walks alone
set_option linter.unusedVariables false
set_option linter.unusedSimpArgs false
theorem eqA52 (d : Nat) (w : World) (x0 y0 : Int) (x1 y1 : Int) (x2 y2 : Int) (x3 y3 : Int) (x4 y4 : Int) :
  (Op.equalIn (d + 3) 52 (.agg #[.int .i64 x0, .int .i64 x1, .int .i64 x2, .int .u64 x3, .int .u64 x4]) (.agg #[.int .i64 y0, .int .i64 y1, .int .i64 y2, .int .u64 y3, .int .u64 y4])).run Try.prog w = .ok (x0 == y0 && (x1 == y1 && (x2 == y2 && ((x3 == y3 && (x4 == y4)))))) w := by
 refine eqA_of Try.underlying52 (by kernel_rfl) ?_
 refine eqf_cons (by rfl) (by go_simp; rfl) (by go_simp; rfl) (by go_simp) ?_
 refine eqf_cons (by rfl) (by go_simp; rfl) (by go_simp; rfl) (by go_simp) ?_
 refine eqf_cons (by rfl) (by go_simp; rfl) (by go_simp; rfl) (by go_simp) ?_
 exact eqf_last (by rfl) (by go_simp) (by go_simp) (eqA45 (d + 0) w _ _ _ _)
end Go.Proofs.Ythiiodgpdoljoaa.PLc
namespace Go.Proofs.Ythiiodgpdoljoaa.PLc
open Go.RowKit Go.Proofs.YthiiodgpdoljoaaW.PrintWords Go.Proofs.YthiiodgpdoljoaaW.PrintLast Go.Proofs.YthiiodgpdoljoaaW.PrintMore
attribute [local go_sem] max2_int min2_int max_two min_two max_three min_three max_four min_four   -- for this text's walks alone
set_option linter.unusedVariables false
set_option linter.unusedSimpArgs false
/-! ### steeplelaw22_Ref: function 19 -/
def steeplelaw22_Ref.l0 : Nat → List (S76) → List (S47) → Int → Option ((List (S47)))
 | 0, _, _, _ => none
 | k + 1, x0, x3, x4 => if x4 < (x0.length : Int) then (if 0 ≤ x4 then (if x3.length < 3518437208883 then (steeplelaw22_Ref.l0 k x0 (x3 ++ [(⟨(rd_T76 x0 x4).f0, (rd_T76 x0 x4).f1, (rd_T76 x0 x4).f2, (⟨(rd_T76 x0 x4).f3.f0, (rd_T76 x0 x4).f3.f1⟩ : S45)⟩ : S47)]) (wrap64 (x4 + 1))) else (none)) else (none)) else (some x3)
def steeplelaw22_Ref.f (k : Nat) (l0 : List (S76)) : Option ((List (S47))) := steeplelaw22_Ref.l0 k l0 ([] : List (S47)) 0
theorem steeplelaw22_Ref.mono_l : ∀ k, (∀ y0 y1 y2, LeO (steeplelaw22_Ref.l0 k y0 y1 y2) (steeplelaw22_Ref.l0 (k + 1) y0 y1 y2))
 | 0 => fun _ _ _ r h => by simp [steeplelaw22_Ref.l0] at h
 | k + 1 => by
  have ih0 := steeplelaw22_Ref.mono_l k
  ·intro y0 y1 y2
   unfold steeplelaw22_Ref.l0
   repeat' first
   | (with_reducible exact ih0 _ _ _)
   | (with_reducible exact LeO.refl _)
   | (with_reducible exact LeO.none _)
   | (with_reducible refine LeO.ite ?_ ?_)
   | (with_reducible refine LeO.bind ?_ (fun _ => ?_))
   | exact ih0 _ _ _
   | exact LeO.none _
   | refine LeO.ite ?_ ?_
   | refine LeO.bind ?_ (fun _ => ?_)
theorem steeplelaw22_Ref.mono : ∀ a0 k, LeO (steeplelaw22_Ref.f k a0) (steeplelaw22_Ref.f (k + 1) a0) := by
 intro a0 k
 have ih0 := steeplelaw22_Ref.mono_l k
 unfold steeplelaw22_Ref.f
 repeat' first
   | (with_reducible exact ih0 _ _ _)
   | (with_reducible exact LeO.refl _)
   | (with_reducible exact LeO.none _)
   | (with_reducible refine LeO.ite ?_ ?_)
   | (with_reducible refine LeO.bind ?_ (fun _ => ?_))
   | exact ih0 _ _ _
   | exact LeO.none _
   | refine LeO.ite ?_ ?_
   | refine LeO.bind ?_ (fun _ => ?_)
def steeplelaw22_Ref.T5 : Bool × List (List Nat × List Nat) := (true, [([], []), ([], []), ([], []), ([1, 2], [1, 2]), ([3], [3]), ([4], [4]), ([], []), ([], []), ([6, 7], [6, 7]), ([8], [8]), ([9], [9]), ([], []), ([], []), ([11, 12], [11, 12]), ([13], [13]), ([14], [14]), ([], []), ([], []), ([16, 17], [16, 17]), ([18], [18]), ([19], [19]), ([5, 10, 15, 20], [5, 10, 15, 20]), ([21], [21]), ([0, 22], [0, 22]), ([23, 23, 0, 1, 2, 3, 4, 5, 6, 7, 8, 9, 10, 11, 12, 13, 14, 15, 16, 17, 18, 19, 20, 21, 22, 23], [0, 23])])
def steeplelaw22_Ref.B5 : List Nat := [0, 0, 0, 6, 14, 30, 0, 0, 192, 448, 960, 0, 0, 6144, 14336, 30720, 0, 0, 196608, 458752, 983040, 2097150, 4194302, 8388607, 16777215]
theorem steeplelaw22_Ref.tab5 : rtab .any (opsOf Try.f19 5) = steeplelaw22_Ref.T5 := by kernel_rfl
theorem steeplelaw22_Ref.bits5 : waitsOk steeplelaw22_Ref.T5.2 steeplelaw22_Ref.B5 = true := by kernel_rfl
set_option maxHeartbeats 8000000 in
set_option maxRecDepth 100000 in
theorem steeplelaw22_Ref.calls (k : Nat) (A0 : Option Addr) (c0 : Nat) (l0 : List (S76)) (r : List (S47)) (w : World) (hr0 : Kd.C k76 w A0 l0.length l0) (hc0 : l0.length ≤ c0) (h : steeplelaw22_Ref.f k l0 = some r) :
  Calls Try.prog 19 #[.slice A0 l0.length c0] w fun e w' => ∃ v0_ : Value, e = .returned (v0_) ∧ Kd.R k47 47 w' w.heap.size (fun _ => True) v0_ r ∧ Below w.heap.size w w' := by
 have hu74 := Try.underlying74; have hu47 := Try.underlying47; have HR0 := Aside0.mk hr0; have HC0 := Aside0.mk hc0; clear hr0 hc0; have HB := Aside0.mk (Below.refl w.heap.size w); have H : (steeplelaw22_Ref.l0 k l0 ([] : List (S47)) 0) = some r := h; clear h; have H' := Aside0.mk H; clear H
 go_enter Try.func19, Try.ntmps19
 go_wp2
 go_loopg [3, 4] k (fun kq v3 v4 w' => ∃ (x3_1 : List (S47)) (x4_1 : Int), v4 = .int .i64 x4_1 ∧ Aside0 (steeplelaw22_Ref.l0 kq l0 x3_1 x4_1 = some r) ∧ Aside0 (kq ≤ k) ∧ Aside0 (Kd.R k47 47 w' w.heap.size (fun _ => True) v3 x3_1) ∧ Aside0 (Below w.heap.size w w'))
 case atStart => exact ⟨(([] : List (S47))), (0), eqA, H', ⟨Nat.le_refl _⟩, ⟨by first | exact Kd.R_nil _ _ _ _ _ | exact Kd.N_nil _ _ _ _ _ | exact Kd.V_nil _ _ _ _ _ | exact Kd.Q_nil _ _ _ _ _ | exact Kd.S_nil _ _ _ _ _⟩, ⟨blA HB.out⟩⟩
 case round =>
  clear H'; (try clear c1); obtain ⟨x3_1, x4_1, rfl, HA, HK1, HO_3, HB⟩ := hrel
  cases gk with
  | zero => exact absurd HA.out (by simp [steeplelaw22_Ref.l0])
  | succ k1 =>
   have H := HA.out; clear HA
   simp only [steeplelaw22_Ref.l0] at H
   by_cases c2 : x4_1 < (l0.length : Int)
   ·rw [if_pos c2] at H
    have c2b0 : decide (x4_1 < (l0.length : Int)) = true := decide_eq_true c2; clear c2
    by_cases c3 : 0 ≤ x4_1
    ·rw [if_pos c3] at H
     have c3b0 : decide (0 ≤ x4_1) = true := decide_eq_true c3; clear c3
     by_cases c4 : x3_1.length < 3518437208883
     ·rw [if_pos c4] at H
      have LMc4 := Aside0.mk c4; clear c4
      obtain ⟨y524, hy524⟩ : ∃ y_ : List (S47), y_ = (x3_1 ++ [(⟨(rd_T76 l0 x4_1).f0, (rd_T76 l0 x4_1).f1, (rd_T76 l0 x4_1).f2, (⟨(rd_T76 l0 x4_1).f3.f0, (rd_T76 l0 x4_1).f3.f1⟩ : S45)⟩ : S47)]) := ⟨_, rfl⟩
      replace H : (steeplelaw22_Ref.l0 k1 l0 y524 (wrap64 (x4_1 + 1))) = some r := by first | (rw [hy524]; with_reducible exact H) | (have H2_ := (Option.bind_some _ _).symm.trans H; rw [hy524]; with_reducible exact H2_) | (have H2_ := (Option.bind_some _ _).symm.trans H; with_reducible exact H2_) | with_reducible exact H | (rw [hy524]; exact H) | exact H
      have Ny524 := Aside0.mk hy524; clear hy524; have H' := Aside0.mk H; clear H
      try go_wp2
      have n0_ := Aside0.mk (Kd.R_drew HO_3.out); have n1_ := Aside0.mk (below_drew1 HB.out); clear HO_3; clear HB; have HO_3 := n0_; have HB := n1_; clear n0_ n1_
      have p520 : 0 ≤ (x4_1 : Int) := of_decide_eq_true (by first | (with_reducible assumption) | assumption)
      have q520 : x4_1 < (l0.length : Int) := of_decide_eq_true (by first | (with_reducible assumption) | assumption)
      obtain ⟨ad520, e520, hx520_0, hx520_1, hx520_2, hx520_3, hx520_4⟩ := at_T76 HR0.out x4_1 p520 q520; have hw520_4 := hx520_4; have hw520_3 := hx520_3; have hw520_2 := hx520_2; have hw520_1 := hx520_1; have hw520_0 := hx520_0
      cases e520
      replace hx520_0 := (HB.out.cell (World.block_lt_of_cell? w _ hx520_0)).trans hx520_0; replace hx520_1 := (HB.out.cell (World.block_lt_of_cell? w _ hx520_1)).trans hx520_1; replace hx520_2 := (HB.out.cell (World.block_lt_of_cell? w _ hx520_2)).trans hx520_2; replace hx520_3 := (HB.out.cell (World.block_lt_of_cell? w _ hx520_3)).trans hx520_3; replace hx520_4 := (HB.out.cell (World.block_lt_of_cell? w _ hx520_4)).trans hx520_4; replace p520 := eq_true p520; replace q520 := eq_true q520
      have p521 : 0 ≤ (x4_1 : Int) := of_decide_eq_true (by first | (with_reducible assumption) | assumption)
      have q521 : x4_1 < (l0.length : Int) := of_decide_eq_true (by first | (with_reducible assumption) | assumption)
      obtain ⟨ad521, e521, hx521_0, hx521_1, hx521_2, hx521_3, hx521_4⟩ := at_T76 HR0.out x4_1 p521 q521; have hw521_4 := hx521_4; have hw521_3 := hx521_3; have hw521_2 := hx521_2; have hw521_1 := hx521_1; have hw521_0 := hx521_0
      obtain rfl : ad520 = ad521 := (by injection e521)
      replace hx521_0 := (HB.out.cell (World.block_lt_of_cell? w _ hx521_0)).trans hx521_0; replace hx521_1 := (HB.out.cell (World.block_lt_of_cell? w _ hx521_1)).trans hx521_1; replace hx521_2 := (HB.out.cell (World.block_lt_of_cell? w _ hx521_2)).trans hx521_2; replace hx521_3 := (HB.out.cell (World.block_lt_of_cell? w _ hx521_3)).trans hx521_3; replace hx521_4 := (HB.out.cell (World.block_lt_of_cell? w _ hx521_4)).trans hx521_4; replace p521 := eq_true p521; replace q521 := eq_true q521
      have p522 : 0 ≤ (x4_1 : Int) := of_decide_eq_true (by first | (with_reducible assumption) | assumption)
      have q522 : x4_1 < (l0.length : Int) := of_decide_eq_true (by first | (with_reducible assumption) | assumption)
      obtain ⟨ad522, e522, hx522_0, hx522_1, hx522_2, hx522_3, hx522_4⟩ := at_T76 HR0.out x4_1 p522 q522; have hw522_4 := hx522_4; have hw522_3 := hx522_3; have hw522_2 := hx522_2; have hw522_1 := hx522_1; have hw522_0 := hx522_0
      obtain rfl : ad520 = ad522 := (by injection e522)
      replace hx522_0 := (HB.out.cell (World.block_lt_of_cell? w _ hx522_0)).trans hx522_0; replace hx522_1 := (HB.out.cell (World.block_lt_of_cell? w _ hx522_1)).trans hx522_1; replace hx522_2 := (HB.out.cell (World.block_lt_of_cell? w _ hx522_2)).trans hx522_2; replace hx522_3 := (HB.out.cell (World.block_lt_of_cell? w _ hx522_3)).trans hx522_3; replace hx522_4 := (HB.out.cell (World.block_lt_of_cell? w _ hx522_4)).trans hx522_4; replace p522 := eq_true p522; replace q522 := eq_true q522
      have p523 : 0 ≤ (x4_1 : Int) := of_decide_eq_true (by first | (with_reducible assumption) | assumption)
      have q523 : x4_1 < (l0.length : Int) := of_decide_eq_true (by first | (with_reducible assumption) | assumption)
      obtain ⟨ad523, e523, hx523_0, hx523_1, hx523_2, hx523_3, hx523_4⟩ := at_T76 HR0.out x4_1 p523 q523; have hw523_4 := hx523_4; have hw523_3 := hx523_3; have hw523_2 := hx523_2; have hw523_1 := hx523_1; have hw523_0 := hx523_0
      obtain rfl : ad520 = ad523 := (by injection e523)
      replace hx523_0 := (HB.out.cell (World.block_lt_of_cell? w _ hx523_0)).trans hx523_0; replace hx523_1 := (HB.out.cell (World.block_lt_of_cell? w _ hx523_1)).trans hx523_1; replace hx523_2 := (HB.out.cell (World.block_lt_of_cell? w _ hx523_2)).trans hx523_2; replace hx523_3 := (HB.out.cell (World.block_lt_of_cell? w _ hx523_3)).trans hx523_3; replace hx523_4 := (HB.out.cell (World.block_lt_of_cell? w _ hx523_4)).trans hx523_4; replace p523 := eq_true p523; replace q523 := eq_true q523
      refine start_ (n := 25) (S := fun w' => w'.cell? (ad520.add ((x4_1).toNat * 5)) = some (.int .i64 ((rd_T76 l0 x4_1).f0)) ∧ w'.cell? ⟨(ad520.add ((x4_1).toNat * 5)).block, (ad520.add ((x4_1).toNat * 5)).off + 1, none⟩ = some (.int .i64 ((rd_T76 l0 x4_1).f1)) ∧ w'.cell? ⟨(ad520.add ((x4_1).toNat * 5)).block, (ad520.add ((x4_1).toNat * 5)).off + 2, none⟩ = some (.int .i64 ((rd_T76 l0 x4_1).f2)) ∧ w'.cell? ⟨(ad520.add ((x4_1).toNat * 5)).block, (ad520.add ((x4_1).toNat * 5)).off + 3, none⟩ = some (.int .u64 ((rd_T76 l0 x4_1).f3.f0)) ∧ w'.cell? ⟨(ad520.add ((x4_1).toNat * 5)).block, (ad520.add ((x4_1).toNat * 5)).off + 4, none⟩ = some (.int .u64 ((rd_T76 l0 x4_1).f3.f1)) ∧ w'.cell? (ad520.add ((x4_1).toNat * 5)) = some (.int .i64 ((rd_T76 l0 x4_1).f0)) ∧ w'.cell? ⟨(ad520.add ((x4_1).toNat * 5)).block, (ad520.add ((x4_1).toNat * 5)).off + 1, none⟩ = some (.int .i64 ((rd_T76 l0 x4_1).f1)) ∧ w'.cell? ⟨(ad520.add ((x4_1).toNat * 5)).block, (ad520.add ((x4_1).toNat * 5)).off + 2, none⟩ = some (.int .i64 ((rd_T76 l0 x4_1).f2)) ∧ w'.cell? ⟨(ad520.add ((x4_1).toNat * 5)).block, (ad520.add ((x4_1).toNat * 5)).off + 3, none⟩ = some (.int .u64 ((rd_T76 l0 x4_1).f3.f0)) ∧ w'.cell? ⟨(ad520.add ((x4_1).toNat * 5)).block, (ad520.add ((x4_1).toNat * 5)).off + 4, none⟩ = some (.int .u64 ((rd_T76 l0 x4_1).f3.f1)) ∧ w'.cell? (ad520.add ((x4_1).toNat * 5)) = some (.int .i64 ((rd_T76 l0 x4_1).f0)) ∧ w'.cell? ⟨(ad520.add ((x4_1).toNat * 5)).block, (ad520.add ((x4_1).toNat * 5)).off + 1, none⟩ = some (.int .i64 ((rd_T76 l0 x4_1).f1)) ∧ w'.cell? ⟨(ad520.add ((x4_1).toNat * 5)).block, (ad520.add ((x4_1).toNat * 5)).off + 2, none⟩ = some (.int .i64 ((rd_T76 l0 x4_1).f2)) ∧ w'.cell? ⟨(ad520.add ((x4_1).toNat * 5)).block, (ad520.add ((x4_1).toNat * 5)).off + 3, none⟩ = some (.int .u64 ((rd_T76 l0 x4_1).f3.f0)) ∧ w'.cell? ⟨(ad520.add ((x4_1).toNat * 5)).block, (ad520.add ((x4_1).toNat * 5)).off + 4, none⟩ = some (.int .u64 ((rd_T76 l0 x4_1).f3.f1)) ∧ w'.cell? (ad520.add ((x4_1).toNat * 5)) = some (.int .i64 ((rd_T76 l0 x4_1).f0)) ∧ w'.cell? ⟨(ad520.add ((x4_1).toNat * 5)).block, (ad520.add ((x4_1).toNat * 5)).off + 1, none⟩ = some (.int .i64 ((rd_T76 l0 x4_1).f1)) ∧ w'.cell? ⟨(ad520.add ((x4_1).toNat * 5)).block, (ad520.add ((x4_1).toNat * 5)).off + 2, none⟩ = some (.int .i64 ((rd_T76 l0 x4_1).f2)) ∧ w'.cell? ⟨(ad520.add ((x4_1).toNat * 5)).block, (ad520.add ((x4_1).toNat * 5)).off + 3, none⟩ = some (.int .u64 ((rd_T76 l0 x4_1).f3.f0)) ∧ w'.cell? ⟨(ad520.add ((x4_1).toNat * 5)).block, (ad520.add ((x4_1).toNat * 5)).off + 4, none⟩ = some (.int .u64 ((rd_T76 l0 x4_1).f3.f1))) (ds := []) #[false, false, false, false, false, false, false, false, false, false, false, false, false, false, false, false, false, false, false, false, false, false, false, false, false] (by kernel_rfl) rfl rfl ⟨(clA HB.out hw520_0), (clA HB.out hw520_1), (clA HB.out hw520_2), (clA HB.out hw520_3), (clA HB.out hw520_4), (clA HB.out hw521_0), (clA HB.out hw521_1), (clA HB.out hw521_2), (clA HB.out hw521_3), (clA HB.out hw521_4), (clA HB.out hw522_0), (clA HB.out hw522_1), (clA HB.out hw522_2), (clA HB.out hw522_3), (clA HB.out hw522_4), (clA HB.out hw523_0), (clA HB.out hw523_1), (clA HB.out hw523_2), (clA HB.out hw523_3), (clA HB.out hw523_4)⟩ (fun hHeld => ?_); refine with_tabW steeplelaw22_Ref.tab5 steeplelaw22_Ref.bits5 (fun HT_ HW_ => ?_)
      generalize wr.drew = w5 at HO_3 HB hx520_0 hx520_1 hx520_2 hx520_3 hx520_4 hx521_0 hx521_1 hx521_2 hx521_3 hx521_4 hx522_0 hx522_1 hx522_2 hx522_3 hx522_4 hx523_0 hx523_1 hx523_2 hx523_3 hx523_4 hHeld ⊢
      refine pureA 0 (some 11) HT_.out ?_
      refine pureA 1 (some 12) HT_.out ?_
      refine pureA 2 (some 13) HT_.out ?_
      refine pureA 3 (some 14) HT_.out ?_
      refine pureA 4 (some 15) HT_.out ?_
      refine pureA 6 (some 17) HT_.out ?_
      refine pureA 7 (some 18) HT_.out ?_
      refine pureA 8 (some 19) HT_.out ?_
      refine pureA 9 (some 20) HT_.out ?_
      refine pureA 11 (some 22) HT_.out ?_
      refine pureA 12 (some 23) HT_.out ?_
      refine pureA 13 (some 24) HT_.out ?_
      refine pureA 14 (some 25) HT_.out ?_
      refine pureA 16 (some 27) HT_.out ?_
      refine pureA 17 (some 28) HT_.out ?_
      refine pureA 18 (some 29) HT_.out ?_
      refine pureA 19 (some 30) HT_.out ?_
      refine takeA 5 (some 16) rfl HT_.out HW_.out hHeld (Or.inl ⟨by rfl, by rintro w' ⟨s0, s1, s2, s3, s4, s5, s6, s7, s8, s9, s10, s11, s12, s13, s14, s15, s16, s17, s18, s19⟩; go_simp; with_reducible rfl⟩) ?_
      refine takeA 10 (some 21) rfl HT_.out HW_.out hHeld (Or.inl ⟨by rfl, by rintro w' ⟨s0, s1, s2, s3, s4, s5, s6, s7, s8, s9, s10, s11, s12, s13, s14, s15, s16, s17, s18, s19⟩; go_simp; with_reducible rfl⟩) ?_
      refine takeA 15 (some 26) rfl HT_.out HW_.out hHeld (Or.inl ⟨by rfl, by rintro w' ⟨s0, s1, s2, s3, s4, s5, s6, s7, s8, s9, s10, s11, s12, s13, s14, s15, s16, s17, s18, s19⟩; go_simp; with_reducible rfl⟩) ?_
      refine takeA 20 (some 31) rfl HT_.out HW_.out hHeld (Or.inl ⟨by rfl, by rintro w' ⟨s0, s1, s2, s3, s4, s5, s6, s7, s8, s9, s10, s11, s12, s13, s14, s15, s16, s17, s18, s19⟩; go_simp; with_reducible rfl⟩) ?_
      refine pureA 21 (some 32) HT_.out ?_
      refine one_ (i := 22) (N := some 33) #[true, true, true, true, true, true, true, true, true, true, true, true, true, true, true, true, true, true, true, true, true, true, true, false, false] rfl rfl (one_of HT_.out (by kernel_rfl)) (by decide) (fun K hK => ?_)
      refine value_ (w1 := ?_) (v := ?_) (by rfl) rfl ?_ ?_
      rotate_left 2
      ·go_simp
       constructor
       ·rfl
       ·rfl
      refine hK.out _ _ ⟨(World.cell?_alloc_lt _ _ _ (World.block_lt_of_cell? _ _ ((clA HB.out hw520_0)))).trans ((clA HB.out hw520_0)), (World.cell?_alloc_lt _ _ _ (World.block_lt_of_cell? _ _ ((clA HB.out hw520_1)))).trans ((clA HB.out hw520_1)), (World.cell?_alloc_lt _ _ _ (World.block_lt_of_cell? _ _ ((clA HB.out hw520_2)))).trans ((clA HB.out hw520_2)), (World.cell?_alloc_lt _ _ _ (World.block_lt_of_cell? _ _ ((clA HB.out hw520_3)))).trans ((clA HB.out hw520_3)), (World.cell?_alloc_lt _ _ _ (World.block_lt_of_cell? _ _ ((clA HB.out hw520_4)))).trans ((clA HB.out hw520_4)), (World.cell?_alloc_lt _ _ _ (World.block_lt_of_cell? _ _ ((clA HB.out hw521_0)))).trans ((clA HB.out hw521_0)), (World.cell?_alloc_lt _ _ _ (World.block_lt_of_cell? _ _ ((clA HB.out hw521_1)))).trans ((clA HB.out hw521_1)), (World.cell?_alloc_lt _ _ _ (World.block_lt_of_cell? _ _ ((clA HB.out hw521_2)))).trans ((clA HB.out hw521_2)), (World.cell?_alloc_lt _ _ _ (World.block_lt_of_cell? _ _ ((clA HB.out hw521_3)))).trans ((clA HB.out hw521_3)), (World.cell?_alloc_lt _ _ _ (World.block_lt_of_cell? _ _ ((clA HB.out hw521_4)))).trans ((clA HB.out hw521_4)), (World.cell?_alloc_lt _ _ _ (World.block_lt_of_cell? _ _ ((clA HB.out hw522_0)))).trans ((clA HB.out hw522_0)), (World.cell?_alloc_lt _ _ _ (World.block_lt_of_cell? _ _ ((clA HB.out hw522_1)))).trans ((clA HB.out hw522_1)), (World.cell?_alloc_lt _ _ _ (World.block_lt_of_cell? _ _ ((clA HB.out hw522_2)))).trans ((clA HB.out hw522_2)), (World.cell?_alloc_lt _ _ _ (World.block_lt_of_cell? _ _ ((clA HB.out hw522_3)))).trans ((clA HB.out hw522_3)), (World.cell?_alloc_lt _ _ _ (World.block_lt_of_cell? _ _ ((clA HB.out hw522_4)))).trans ((clA HB.out hw522_4)), (World.cell?_alloc_lt _ _ _ (World.block_lt_of_cell? _ _ ((clA HB.out hw523_0)))).trans ((clA HB.out hw523_0)), (World.cell?_alloc_lt _ _ _ (World.block_lt_of_cell? _ _ ((clA HB.out hw523_1)))).trans ((clA HB.out hw523_1)), (World.cell?_alloc_lt _ _ _ (World.block_lt_of_cell? _ _ ((clA HB.out hw523_2)))).trans ((clA HB.out hw523_2)), (World.cell?_alloc_lt _ _ _ (World.block_lt_of_cell? _ _ ((clA HB.out hw523_3)))).trans ((clA HB.out hw523_3)), (World.cell?_alloc_lt _ _ _ (World.block_lt_of_cell? _ _ ((clA HB.out hw523_4)))).trans ((clA HB.out hw523_4))⟩ (fun hHeld => ?_)
      clear hK K
      refine normA ?_
      refine one_ (i := 23) (N := some 34) #[true, true, true, true, true, true, true, true, true, true, true, true, true, true, true, true, true, true, true, true, true, true, true, true, false] rfl rfl (one_of HT_.out (by kernel_rfl)) (by decide) (fun K hK => ?_)
      refine Kd.R_append_step k47 (w0 := w) w.heap.size (by rfl) (.tmp 11) (.tmp 33) 38 47 (.agg #[(.int .i64 0), (.int .i64 0), (.int .i64 0), (.int .u64 0), (.int .u64 0)]) 40 rfl Try.underlying38 info47 rfl (by decide) (by omega) u3 x3_1 (⟨(rd_T76 l0 x4_1).f0, (rd_T76 l0 x4_1).f1, (rd_T76 l0 x4_1).f2, (⟨(rd_T76 l0 x4_1).f3.f0, (rd_T76 l0 x4_1).f3.f1⟩ : S45)⟩ : S47) [.int .i64 ((rd_T76 l0 x4_1).f0), .int .i64 ((rd_T76 l0 x4_1).f1), .int .i64 ((rd_T76 l0 x4_1).f2), .int .u64 ((rd_T76 l0 x4_1).f3.f0), .int .u64 ((rd_T76 l0 x4_1).f3.f1)] (fun _ => True) (fun _ => False) rfl rfl ?aP (fun _ hk => hk.elim) ?aF ?aO ?aB ?aS ?aL ?_
      (case aP => exact k47_mkM _ _ _ (⟨(rd_T76 l0 x4_1).f0, (rd_T76 l0 x4_1).f1, (rd_T76 l0 x4_1).f2, (⟨(rd_T76 l0 x4_1).f3.f0, (rd_T76 l0 x4_1).f3.f1⟩ : S45)⟩ : S47))
      (case aB => exact (blA HB.out))
      (case aF => exact (fun _ _ => trivial))
      (case aO => exact (raA HO_3.out))
      (case aS => exact (below_size (blA HB.out)))
      (case aL => have := LMc4.out; omega)
      intro v525 w6 ho hb hg hat
      rw [← Ny524.out] at ho
      have n0_ := Aside0.mk (hb); have n1_ := Aside0.mk (ho); clear HB; clear HO_3; have HB := n0_; have HO526 := n1_; clear n0_ n1_; clear ho hb hg hat
      refine hK.out _ _ ⟨(clA HB.out hw520_0), (clA HB.out hw520_1), (clA HB.out hw520_2), (clA HB.out hw520_3), (clA HB.out hw520_4), (clA HB.out hw521_0), (clA HB.out hw521_1), (clA HB.out hw521_2), (clA HB.out hw521_3), (clA HB.out hw521_4), (clA HB.out hw522_0), (clA HB.out hw522_1), (clA HB.out hw522_2), (clA HB.out hw522_3), (clA HB.out hw522_4), (clA HB.out hw523_0), (clA HB.out hw523_1), (clA HB.out hw523_2), (clA HB.out hw523_3), (clA HB.out hw523_4)⟩ (fun hHeld => ?_)
      clear hK K
      refine normA ?_
      refine pureA 24 (some 3) HT_.out ?_
      refine done_ (done_of HT_.out (by kernel_rfl)) ?_
      try go_wp2
      go_roundg k1
      case measure => have := HK1.out; omega
      case rel => exact ⟨(y524), (wrap64 (x4_1 + 1)), eqA, H', ⟨by have := HK1.out; omega⟩, ⟨raA HO526.out⟩, ⟨blA HB.out⟩⟩
     ·rw [if_neg c4] at H
      exact absurd H (by simp)
    ·rw [if_neg c3] at H
     exact absurd H (by simp)
   ·rw [if_neg c2] at H
    have c2b0 : decide (x4_1 < (l0.length : Int)) = false := decide_eq_false c2; clear c2; obtain rfl := Option.some.inj H
    go_wp2
    go_ret
    exact ⟨_, by first | rfl | (simp [errW_none, errW_some] <;> rfl) | (simp [*, errW_none, errW_some] <;> rfl), raA HO_3.out, blA HB.out⟩
end Go.Proofs.Ythiiodgpdoljoaa.PLc
namespace Go.Proofs.Ythiiodgpdoljoaa.PLc
open Go.RowKit Go.Proofs.YthiiodgpdoljoaaW.PrintWords Go.Proofs.YthiiodgpdoljoaaW.PrintLast Go.Proofs.YthiiodgpdoljoaaW.PrintMore
attribute [local go_sem] max2_int min2_int max_two min_two max_three min_three max_four min_four   -- for this text's walks alone
set_option linter.unusedVariables false
set_option linter.unusedSimpArgs false
/-! ### steeplelaw16_Ref: function 20 -/
def steeplelaw16_Ref.l0 : Nat → List (S118) → List (S52) → Int → Option ((List (S52)))
 | 0, _, _, _ => none
 | k + 1, x0, x3, x4 => if x4 < (x0.length : Int) then (if 0 ≤ x4 then (if x3.length < 3518437208883 then (steeplelaw16_Ref.l0 k x0 (x3 ++ [(⟨(rd_T118 x0 x4).f0, (rd_T118 x0 x4).f1, (rd_T118 x0 x4).f2, (⟨(rd_T118 x0 x4).f3.f0, (rd_T118 x0 x4).f3.f1⟩ : S45)⟩ : S52)]) (wrap64 (x4 + 1))) else (none)) else (none)) else (some x3)
def steeplelaw16_Ref.f (k : Nat) (l0 : List (S118)) : Option ((List (S52))) := steeplelaw16_Ref.l0 k l0 ([] : List (S52)) 0
theorem steeplelaw16_Ref.mono_l : ∀ k, (∀ y0 y1 y2, LeO (steeplelaw16_Ref.l0 k y0 y1 y2) (steeplelaw16_Ref.l0 (k + 1) y0 y1 y2))
 | 0 => fun _ _ _ r h => by simp [steeplelaw16_Ref.l0] at h
 | k + 1 => by
  have ih0 := steeplelaw16_Ref.mono_l k
  ·intro y0 y1 y2
   unfold steeplelaw16_Ref.l0
   repeat' first
   | (with_reducible exact ih0 _ _ _)
   | (with_reducible exact LeO.refl _)
   | (with_reducible exact LeO.none _)
   | (with_reducible refine LeO.ite ?_ ?_)
   | (with_reducible refine LeO.bind ?_ (fun _ => ?_))
   | exact ih0 _ _ _
   | exact LeO.none _
   | refine LeO.ite ?_ ?_
   | refine LeO.bind ?_ (fun _ => ?_)
theorem steeplelaw16_Ref.mono : ∀ a0 k, LeO (steeplelaw16_Ref.f k a0) (steeplelaw16_Ref.f (k + 1) a0) := by
 intro a0 k
 have ih0 := steeplelaw16_Ref.mono_l k
 unfold steeplelaw16_Ref.f
 repeat' first
   | (with_reducible exact ih0 _ _ _)
   | (with_reducible exact LeO.refl _)
   | (with_reducible exact LeO.none _)
   | (with_reducible refine LeO.ite ?_ ?_)
   | (with_reducible refine LeO.bind ?_ (fun _ => ?_))
   | exact ih0 _ _ _
   | exact LeO.none _
   | refine LeO.ite ?_ ?_
   | refine LeO.bind ?_ (fun _ => ?_)
def steeplelaw16_Ref.T5 : Bool × List (List Nat × List Nat) := (true, [([], []), ([], []), ([], []), ([1, 2], [1, 2]), ([3], [3]), ([4], [4]), ([], []), ([], []), ([6, 7], [6, 7]), ([8], [8]), ([9], [9]), ([], []), ([], []), ([11, 12], [11, 12]), ([13], [13]), ([14], [14]), ([], []), ([], []), ([16, 17], [16, 17]), ([18], [18]), ([19], [19]), ([5, 10, 15, 20], [5, 10, 15, 20]), ([21], [21]), ([0, 22], [0, 22]), ([23, 23, 0, 1, 2, 3, 4, 5, 6, 7, 8, 9, 10, 11, 12, 13, 14, 15, 16, 17, 18, 19, 20, 21, 22, 23], [0, 23])])
def steeplelaw16_Ref.B5 : List Nat := [0, 0, 0, 6, 14, 30, 0, 0, 192, 448, 960, 0, 0, 6144, 14336, 30720, 0, 0, 196608, 458752, 983040, 2097150, 4194302, 8388607, 16777215]
theorem steeplelaw16_Ref.tab5 : rtab .any (opsOf Try.f20 5) = steeplelaw16_Ref.T5 := by kernel_rfl
theorem steeplelaw16_Ref.bits5 : waitsOk steeplelaw16_Ref.T5.2 steeplelaw16_Ref.B5 = true := by kernel_rfl
set_option maxHeartbeats 8000000 in
set_option maxRecDepth 100000 in
theorem steeplelaw16_Ref.calls (k : Nat) (A0 : Option Addr) (c0 : Nat) (l0 : List (S118)) (r : List (S52)) (w : World) (hr0 : Kd.C k118 w A0 l0.length l0) (hc0 : l0.length ≤ c0) (h : steeplelaw16_Ref.f k l0 = some r) :
  Calls Try.prog 20 #[.slice A0 l0.length c0] w fun e w' => ∃ v0_ : Value, e = .returned (v0_) ∧ Kd.R k52 52 w' w.heap.size (fun _ => True) v0_ r ∧ Below w.heap.size w w' := by
 have hu74 := Try.underlying74; have hu52 := Try.underlying52; have HR0 := Aside0.mk hr0; have HC0 := Aside0.mk hc0; clear hr0 hc0; have HB := Aside0.mk (Below.refl w.heap.size w); have H : (steeplelaw16_Ref.l0 k l0 ([] : List (S52)) 0) = some r := h; clear h; have H' := Aside0.mk H; clear H
 go_enter Try.func20, Try.ntmps20
 go_wp2
 go_loopg [3, 4] k (fun kq v3 v4 w' => ∃ (x3_1 : List (S52)) (x4_1 : Int), v4 = .int .i64 x4_1 ∧ Aside0 (steeplelaw16_Ref.l0 kq l0 x3_1 x4_1 = some r) ∧ Aside0 (kq ≤ k) ∧ Aside0 (Kd.R k52 52 w' w.heap.size (fun _ => True) v3 x3_1) ∧ Aside0 (Below w.heap.size w w'))
 case atStart => exact ⟨(([] : List (S52))), (0), eqA, H', ⟨Nat.le_refl _⟩, ⟨by first | exact Kd.R_nil _ _ _ _ _ | exact Kd.N_nil _ _ _ _ _ | exact Kd.V_nil _ _ _ _ _ | exact Kd.Q_nil _ _ _ _ _ | exact Kd.S_nil _ _ _ _ _⟩, ⟨blA HB.out⟩⟩
 case round =>
  clear H'; obtain ⟨x3_1, x4_1, rfl, HA, HK1, HO_3, HB⟩ := hrel
  cases gk with
  | zero => exact absurd HA.out (by simp [steeplelaw16_Ref.l0])
  | succ k1 =>
   have H := HA.out; clear HA
   simp only [steeplelaw16_Ref.l0] at H
   by_cases c2 : x4_1 < (l0.length : Int)
   ·rw [if_pos c2] at H
    have c2b0 : decide (x4_1 < (l0.length : Int)) = true := decide_eq_true c2; clear c2
    by_cases c3 : 0 ≤ x4_1
    ·rw [if_pos c3] at H
     have c3b0 : decide (0 ≤ x4_1) = true := decide_eq_true c3; clear c3
     by_cases c4 : x3_1.length < 3518437208883
     ·rw [if_pos c4] at H
      have LMc4 := Aside0.mk c4; clear c4
      obtain ⟨y531, hy531⟩ : ∃ y_ : List (S52), y_ = (x3_1 ++ [(⟨(rd_T118 l0 x4_1).f0, (rd_T118 l0 x4_1).f1, (rd_T118 l0 x4_1).f2, (⟨(rd_T118 l0 x4_1).f3.f0, (rd_T118 l0 x4_1).f3.f1⟩ : S45)⟩ : S52)]) := ⟨_, rfl⟩
      replace H : (steeplelaw16_Ref.l0 k1 l0 y531 (wrap64 (x4_1 + 1))) = some r := by first | (rw [hy531]; with_reducible exact H) | (have H2_ := (Option.bind_some _ _).symm.trans H; rw [hy531]; with_reducible exact H2_) | (have H2_ := (Option.bind_some _ _).symm.trans H; with_reducible exact H2_) | with_reducible exact H | (rw [hy531]; exact H) | exact H
      have Ny531 := Aside0.mk hy531; clear hy531; have H' := Aside0.mk H; clear H
      try go_wp2
      have n0_ := Aside0.mk (Kd.R_drew HO_3.out); have n1_ := Aside0.mk (below_drew1 HB.out); clear HO_3; clear HB; have HO_3 := n0_; have HB := n1_; clear n0_ n1_
      have p527 : 0 ≤ (x4_1 : Int) := of_decide_eq_true (by first | (with_reducible assumption) | assumption)
      have q527 : x4_1 < (l0.length : Int) := of_decide_eq_true (by first | (with_reducible assumption) | assumption)
      obtain ⟨ad527, e527, hx527_0, hx527_1, hx527_2, hx527_3, hx527_4⟩ := at_T118 HR0.out x4_1 p527 q527; have hw527_4 := hx527_4; have hw527_3 := hx527_3; have hw527_2 := hx527_2; have hw527_1 := hx527_1; have hw527_0 := hx527_0
      cases e527
      replace hx527_0 := (HB.out.cell (World.block_lt_of_cell? w _ hx527_0)).trans hx527_0; replace hx527_1 := (HB.out.cell (World.block_lt_of_cell? w _ hx527_1)).trans hx527_1; replace hx527_2 := (HB.out.cell (World.block_lt_of_cell? w _ hx527_2)).trans hx527_2; replace hx527_3 := (HB.out.cell (World.block_lt_of_cell? w _ hx527_3)).trans hx527_3; replace hx527_4 := (HB.out.cell (World.block_lt_of_cell? w _ hx527_4)).trans hx527_4; replace p527 := eq_true p527; replace q527 := eq_true q527
      have p528 : 0 ≤ (x4_1 : Int) := of_decide_eq_true (by first | (with_reducible assumption) | assumption)
      have q528 : x4_1 < (l0.length : Int) := of_decide_eq_true (by first | (with_reducible assumption) | assumption)
      obtain ⟨ad528, e528, hx528_0, hx528_1, hx528_2, hx528_3, hx528_4⟩ := at_T118 HR0.out x4_1 p528 q528; have hw528_4 := hx528_4; have hw528_3 := hx528_3; have hw528_2 := hx528_2; have hw528_1 := hx528_1; have hw528_0 := hx528_0
      obtain rfl : ad527 = ad528 := (by injection e528)
      replace hx528_0 := (HB.out.cell (World.block_lt_of_cell? w _ hx528_0)).trans hx528_0; replace hx528_1 := (HB.out.cell (World.block_lt_of_cell? w _ hx528_1)).trans hx528_1; replace hx528_2 := (HB.out.cell (World.block_lt_of_cell? w _ hx528_2)).trans hx528_2; replace hx528_3 := (HB.out.cell (World.block_lt_of_cell? w _ hx528_3)).trans hx528_3; replace hx528_4 := (HB.out.cell (World.block_lt_of_cell? w _ hx528_4)).trans hx528_4; replace p528 := eq_true p528; replace q528 := eq_true q528
      have p529 : 0 ≤ (x4_1 : Int) := of_decide_eq_true (by first | (with_reducible assumption) | assumption)
      have q529 : x4_1 < (l0.length : Int) := of_decide_eq_true (by first | (with_reducible assumption) | assumption)
      obtain ⟨ad529, e529, hx529_0, hx529_1, hx529_2, hx529_3, hx529_4⟩ := at_T118 HR0.out x4_1 p529 q529; have hw529_4 := hx529_4; have hw529_3 := hx529_3; have hw529_2 := hx529_2; have hw529_1 := hx529_1; have hw529_0 := hx529_0
      obtain rfl : ad527 = ad529 := (by injection e529)
      replace hx529_0 := (HB.out.cell (World.block_lt_of_cell? w _ hx529_0)).trans hx529_0; replace hx529_1 := (HB.out.cell (World.block_lt_of_cell? w _ hx529_1)).trans hx529_1; replace hx529_2 := (HB.out.cell (World.block_lt_of_cell? w _ hx529_2)).trans hx529_2; replace hx529_3 := (HB.out.cell (World.block_lt_of_cell? w _ hx529_3)).trans hx529_3; replace hx529_4 := (HB.out.cell (World.block_lt_of_cell? w _ hx529_4)).trans hx529_4; replace p529 := eq_true p529; replace q529 := eq_true q529
      have p530 : 0 ≤ (x4_1 : Int) := of_decide_eq_true (by first | (with_reducible assumption) | assumption)
      have q530 : x4_1 < (l0.length : Int) := of_decide_eq_true (by first | (with_reducible assumption) | assumption)
      obtain ⟨ad530, e530, hx530_0, hx530_1, hx530_2, hx530_3, hx530_4⟩ := at_T118 HR0.out x4_1 p530 q530; have hw530_4 := hx530_4; have hw530_3 := hx530_3; have hw530_2 := hx530_2; have hw530_1 := hx530_1; have hw530_0 := hx530_0
      obtain rfl : ad527 = ad530 := (by injection e530)
      replace hx530_0 := (HB.out.cell (World.block_lt_of_cell? w _ hx530_0)).trans hx530_0; replace hx530_1 := (HB.out.cell (World.block_lt_of_cell? w _ hx530_1)).trans hx530_1; replace hx530_2 := (HB.out.cell (World.block_lt_of_cell? w _ hx530_2)).trans hx530_2; replace hx530_3 := (HB.out.cell (World.block_lt_of_cell? w _ hx530_3)).trans hx530_3; replace hx530_4 := (HB.out.cell (World.block_lt_of_cell? w _ hx530_4)).trans hx530_4; replace p530 := eq_true p530; replace q530 := eq_true q530
      refine start_ (n := 25) (S := fun w' => w'.cell? (ad527.add ((x4_1).toNat * 5)) = some (.int .i64 ((rd_T118 l0 x4_1).f0)) ∧ w'.cell? ⟨(ad527.add ((x4_1).toNat * 5)).block, (ad527.add ((x4_1).toNat * 5)).off + 1, none⟩ = some (.int .i64 ((rd_T118 l0 x4_1).f1)) ∧ w'.cell? ⟨(ad527.add ((x4_1).toNat * 5)).block, (ad527.add ((x4_1).toNat * 5)).off + 2, none⟩ = some (.int .i64 ((rd_T118 l0 x4_1).f2)) ∧ w'.cell? ⟨(ad527.add ((x4_1).toNat * 5)).block, (ad527.add ((x4_1).toNat * 5)).off + 3, none⟩ = some (.int .u64 ((rd_T118 l0 x4_1).f3.f0)) ∧ w'.cell? ⟨(ad527.add ((x4_1).toNat * 5)).block, (ad527.add ((x4_1).toNat * 5)).off + 4, none⟩ = some (.int .u64 ((rd_T118 l0 x4_1).f3.f1)) ∧ w'.cell? (ad527.add ((x4_1).toNat * 5)) = some (.int .i64 ((rd_T118 l0 x4_1).f0)) ∧ w'.cell? ⟨(ad527.add ((x4_1).toNat * 5)).block, (ad527.add ((x4_1).toNat * 5)).off + 1, none⟩ = some (.int .i64 ((rd_T118 l0 x4_1).f1)) ∧ w'.cell? ⟨(ad527.add ((x4_1).toNat * 5)).block, (ad527.add ((x4_1).toNat * 5)).off + 2, none⟩ = some (.int .i64 ((rd_T118 l0 x4_1).f2)) ∧ w'.cell? ⟨(ad527.add ((x4_1).toNat * 5)).block, (ad527.add ((x4_1).toNat * 5)).off + 3, none⟩ = some (.int .u64 ((rd_T118 l0 x4_1).f3.f0)) ∧ w'.cell? ⟨(ad527.add ((x4_1).toNat * 5)).block, (ad527.add ((x4_1).toNat * 5)).off + 4, none⟩ = some (.int .u64 ((rd_T118 l0 x4_1).f3.f1)) ∧ w'.cell? (ad527.add ((x4_1).toNat * 5)) = some (.int .i64 ((rd_T118 l0 x4_1).f0)) ∧ w'.cell? ⟨(ad527.add ((x4_1).toNat * 5)).block, (ad527.add ((x4_1).toNat * 5)).off + 1, none⟩ = some (.int .i64 ((rd_T118 l0 x4_1).f1)) ∧ w'.cell? ⟨(ad527.add ((x4_1).toNat * 5)).block, (ad527.add ((x4_1).toNat * 5)).off + 2, none⟩ = some (.int .i64 ((rd_T118 l0 x4_1).f2)) ∧ w'.cell? ⟨(ad527.add ((x4_1).toNat * 5)).block, (ad527.add ((x4_1).toNat * 5)).off + 3, none⟩ = some (.int .u64 ((rd_T118 l0 x4_1).f3.f0)) ∧ w'.cell? ⟨(ad527.add ((x4_1).toNat * 5)).block, (ad527.add ((x4_1).toNat * 5)).off + 4, none⟩ = some (.int .u64 ((rd_T118 l0 x4_1).f3.f1)) ∧ w'.cell? (ad527.add ((x4_1).toNat * 5)) = some (.int .i64 ((rd_T118 l0 x4_1).f0)) ∧ w'.cell? ⟨(ad527.add ((x4_1).toNat * 5)).block, (ad527.add ((x4_1).toNat * 5)).off + 1, none⟩ = some (.int .i64 ((rd_T118 l0 x4_1).f1)) ∧ w'.cell? ⟨(ad527.add ((x4_1).toNat * 5)).block, (ad527.add ((x4_1).toNat * 5)).off + 2, none⟩ = some (.int .i64 ((rd_T118 l0 x4_1).f2)) ∧ w'.cell? ⟨(ad527.add ((x4_1).toNat * 5)).block, (ad527.add ((x4_1).toNat * 5)).off + 3, none⟩ = some (.int .u64 ((rd_T118 l0 x4_1).f3.f0)) ∧ w'.cell? ⟨(ad527.add ((x4_1).toNat * 5)).block, (ad527.add ((x4_1).toNat * 5)).off + 4, none⟩ = some (.int .u64 ((rd_T118 l0 x4_1).f3.f1))) (ds := []) #[false, false, false, false, false, false, false, false, false, false, false, false, false, false, false, false, false, false, false, false, false, false, false, false, false] (by kernel_rfl) rfl rfl ⟨(clA HB.out hw527_0), (clA HB.out hw527_1), (clA HB.out hw527_2), (clA HB.out hw527_3), (clA HB.out hw527_4), (clA HB.out hw528_0), (clA HB.out hw528_1), (clA HB.out hw528_2), (clA HB.out hw528_3), (clA HB.out hw528_4), (clA HB.out hw529_0), (clA HB.out hw529_1), (clA HB.out hw529_2), (clA HB.out hw529_3), (clA HB.out hw529_4), (clA HB.out hw530_0), (clA HB.out hw530_1), (clA HB.out hw530_2), (clA HB.out hw530_3), (clA HB.out hw530_4)⟩ (fun hHeld => ?_); refine with_tabW steeplelaw16_Ref.tab5 steeplelaw16_Ref.bits5 (fun HT_ HW_ => ?_)
      generalize wr.drew = w5 at HO_3 HB hx527_0 hx527_1 hx527_2 hx527_3 hx527_4 hx528_0 hx528_1 hx528_2 hx528_3 hx528_4 hx529_0 hx529_1 hx529_2 hx529_3 hx529_4 hx530_0 hx530_1 hx530_2 hx530_3 hx530_4 hHeld ⊢
      refine pureA 0 (some 11) HT_.out ?_
      refine pureA 1 (some 12) HT_.out ?_
      refine pureA 2 (some 13) HT_.out ?_
      refine pureA 3 (some 14) HT_.out ?_
      refine pureA 4 (some 15) HT_.out ?_
      refine pureA 6 (some 17) HT_.out ?_
      refine pureA 7 (some 18) HT_.out ?_
      refine pureA 8 (some 19) HT_.out ?_
      refine pureA 9 (some 20) HT_.out ?_
      refine pureA 11 (some 22) HT_.out ?_
      refine pureA 12 (some 23) HT_.out ?_
      refine pureA 13 (some 24) HT_.out ?_
      refine pureA 14 (some 25) HT_.out ?_
      refine pureA 16 (some 27) HT_.out ?_
      refine pureA 17 (some 28) HT_.out ?_
      refine pureA 18 (some 29) HT_.out ?_
      refine pureA 19 (some 30) HT_.out ?_
      refine takeA 5 (some 16) rfl HT_.out HW_.out hHeld (Or.inl ⟨by rfl, by rintro w' ⟨s0, s1, s2, s3, s4, s5, s6, s7, s8, s9, s10, s11, s12, s13, s14, s15, s16, s17, s18, s19⟩; go_simp; with_reducible rfl⟩) ?_
      refine takeA 10 (some 21) rfl HT_.out HW_.out hHeld (Or.inl ⟨by rfl, by rintro w' ⟨s0, s1, s2, s3, s4, s5, s6, s7, s8, s9, s10, s11, s12, s13, s14, s15, s16, s17, s18, s19⟩; go_simp; with_reducible rfl⟩) ?_
      refine takeA 15 (some 26) rfl HT_.out HW_.out hHeld (Or.inl ⟨by rfl, by rintro w' ⟨s0, s1, s2, s3, s4, s5, s6, s7, s8, s9, s10, s11, s12, s13, s14, s15, s16, s17, s18, s19⟩; go_simp; with_reducible rfl⟩) ?_
      refine takeA 20 (some 31) rfl HT_.out HW_.out hHeld (Or.inl ⟨by rfl, by rintro w' ⟨s0, s1, s2, s3, s4, s5, s6, s7, s8, s9, s10, s11, s12, s13, s14, s15, s16, s17, s18, s19⟩; go_simp; with_reducible rfl⟩) ?_
      refine pureA 21 (some 32) HT_.out ?_
      refine one_ (i := 22) (N := some 33) #[true, true, true, true, true, true, true, true, true, true, true, true, true, true, true, true, true, true, true, true, true, true, true, false, false] rfl rfl (one_of HT_.out (by kernel_rfl)) (by decide) (fun K hK => ?_)
      refine value_ (w1 := ?_) (v := ?_) (by rfl) rfl ?_ ?_
      rotate_left 2
      ·go_simp
       constructor
       ·rfl
       ·rfl
      refine hK.out _ _ ⟨(World.cell?_alloc_lt _ _ _ (World.block_lt_of_cell? _ _ ((clA HB.out hw527_0)))).trans ((clA HB.out hw527_0)), (World.cell?_alloc_lt _ _ _ (World.block_lt_of_cell? _ _ ((clA HB.out hw527_1)))).trans ((clA HB.out hw527_1)), (World.cell?_alloc_lt _ _ _ (World.block_lt_of_cell? _ _ ((clA HB.out hw527_2)))).trans ((clA HB.out hw527_2)), (World.cell?_alloc_lt _ _ _ (World.block_lt_of_cell? _ _ ((clA HB.out hw527_3)))).trans ((clA HB.out hw527_3)), (World.cell?_alloc_lt _ _ _ (World.block_lt_of_cell? _ _ ((clA HB.out hw527_4)))).trans ((clA HB.out hw527_4)), (World.cell?_alloc_lt _ _ _ (World.block_lt_of_cell? _ _ ((clA HB.out hw528_0)))).trans ((clA HB.out hw528_0)), (World.cell?_alloc_lt _ _ _ (World.block_lt_of_cell? _ _ ((clA HB.out hw528_1)))).trans ((clA HB.out hw528_1)), (World.cell?_alloc_lt _ _ _ (World.block_lt_of_cell? _ _ ((clA HB.out hw528_2)))).trans ((clA HB.out hw528_2)), (World.cell?_alloc_lt _ _ _ (World.block_lt_of_cell? _ _ ((clA HB.out hw528_3)))).trans ((clA HB.out hw528_3)), (World.cell?_alloc_lt _ _ _ (World.block_lt_of_cell? _ _ ((clA HB.out hw528_4)))).trans ((clA HB.out hw528_4)), (World.cell?_alloc_lt _ _ _ (World.block_lt_of_cell? _ _ ((clA HB.out hw529_0)))).trans ((clA HB.out hw529_0)), (World.cell?_alloc_lt _ _ _ (World.block_lt_of_cell? _ _ ((clA HB.out hw529_1)))).trans ((clA HB.out hw529_1)), (World.cell?_alloc_lt _ _ _ (World.block_lt_of_cell? _ _ ((clA HB.out hw529_2)))).trans ((clA HB.out hw529_2)), (World.cell?_alloc_lt _ _ _ (World.block_lt_of_cell? _ _ ((clA HB.out hw529_3)))).trans ((clA HB.out hw529_3)), (World.cell?_alloc_lt _ _ _ (World.block_lt_of_cell? _ _ ((clA HB.out hw529_4)))).trans ((clA HB.out hw529_4)), (World.cell?_alloc_lt _ _ _ (World.block_lt_of_cell? _ _ ((clA HB.out hw530_0)))).trans ((clA HB.out hw530_0)), (World.cell?_alloc_lt _ _ _ (World.block_lt_of_cell? _ _ ((clA HB.out hw530_1)))).trans ((clA HB.out hw530_1)), (World.cell?_alloc_lt _ _ _ (World.block_lt_of_cell? _ _ ((clA HB.out hw530_2)))).trans ((clA HB.out hw530_2)), (World.cell?_alloc_lt _ _ _ (World.block_lt_of_cell? _ _ ((clA HB.out hw530_3)))).trans ((clA HB.out hw530_3)), (World.cell?_alloc_lt _ _ _ (World.block_lt_of_cell? _ _ ((clA HB.out hw530_4)))).trans ((clA HB.out hw530_4))⟩ (fun hHeld => ?_)
      clear hK K
      refine normA ?_
      refine one_ (i := 23) (N := some 34) #[true, true, true, true, true, true, true, true, true, true, true, true, true, true, true, true, true, true, true, true, true, true, true, true, false] rfl rfl (one_of HT_.out (by kernel_rfl)) (by decide) (fun K hK => ?_)
      refine Kd.R_append_step k52 (w0 := w) w.heap.size (by rfl) (.tmp 11) (.tmp 33) 48 52 (.agg #[(.int .i64 0), (.int .i64 0), (.int .i64 0), (.int .u64 0), (.int .u64 0)]) 40 rfl Try.underlying48 info52 rfl (by decide) (by omega) u3 x3_1 (⟨(rd_T118 l0 x4_1).f0, (rd_T118 l0 x4_1).f1, (rd_T118 l0 x4_1).f2, (⟨(rd_T118 l0 x4_1).f3.f0, (rd_T118 l0 x4_1).f3.f1⟩ : S45)⟩ : S52) [.int .i64 ((rd_T118 l0 x4_1).f0), .int .i64 ((rd_T118 l0 x4_1).f1), .int .i64 ((rd_T118 l0 x4_1).f2), .int .u64 ((rd_T118 l0 x4_1).f3.f0), .int .u64 ((rd_T118 l0 x4_1).f3.f1)] (fun _ => True) (fun _ => False) rfl rfl ?aP (fun _ hk => hk.elim) ?aF ?aO ?aB ?aS ?aL ?_
      (case aP => exact k52_mkM _ _ _ (⟨(rd_T118 l0 x4_1).f0, (rd_T118 l0 x4_1).f1, (rd_T118 l0 x4_1).f2, (⟨(rd_T118 l0 x4_1).f3.f0, (rd_T118 l0 x4_1).f3.f1⟩ : S45)⟩ : S52))
      (case aB => exact (blA HB.out))
      (case aF => exact (fun _ _ => trivial))
      (case aO => exact (raA HO_3.out))
      (case aS => exact (below_size (blA HB.out)))
      (case aL => have := LMc4.out; omega)
      intro v532 w6 ho hb hg hat
      rw [← Ny531.out] at ho
      have n0_ := Aside0.mk (hb); have n1_ := Aside0.mk (ho); clear HB; clear HO_3; have HB := n0_; have HO533 := n1_; clear n0_ n1_; clear ho hb hg hat
      refine hK.out _ _ ⟨(clA HB.out hw527_0), (clA HB.out hw527_1), (clA HB.out hw527_2), (clA HB.out hw527_3), (clA HB.out hw527_4), (clA HB.out hw528_0), (clA HB.out hw528_1), (clA HB.out hw528_2), (clA HB.out hw528_3), (clA HB.out hw528_4), (clA HB.out hw529_0), (clA HB.out hw529_1), (clA HB.out hw529_2), (clA HB.out hw529_3), (clA HB.out hw529_4), (clA HB.out hw530_0), (clA HB.out hw530_1), (clA HB.out hw530_2), (clA HB.out hw530_3), (clA HB.out hw530_4)⟩ (fun hHeld => ?_)
      clear hK K
      refine normA ?_
      refine pureA 24 (some 3) HT_.out ?_
      refine done_ (done_of HT_.out (by kernel_rfl)) ?_
      try go_wp2
      go_roundg k1
      case measure => have := HK1.out; omega
      case rel => exact ⟨(y531), (wrap64 (x4_1 + 1)), eqA, H', ⟨by have := HK1.out; omega⟩, ⟨raA HO533.out⟩, ⟨blA HB.out⟩⟩
     ·rw [if_neg c4] at H
      exact absurd H (by simp)
    ·rw [if_neg c3] at H
     exact absurd H (by simp)
   ·rw [if_neg c2] at H
    have c2b0 : decide (x4_1 < (l0.length : Int)) = false := decide_eq_false c2; clear c2; obtain rfl := Option.some.inj H
    go_wp2
    go_ret
    exact ⟨_, by first | rfl | (simp [errW_none, errW_some] <;> rfl) | (simp [*, errW_none, errW_some] <;> rfl), raA HO_3.out, blA HB.out⟩
end Go.Proofs.Ythiiodgpdoljoaa.PLc
