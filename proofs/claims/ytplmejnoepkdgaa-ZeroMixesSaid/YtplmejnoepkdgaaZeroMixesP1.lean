/- A walk by reckoning: what a Go function comes to, reckoned out of its operations, and why that is so. -/
import Derived.Test.YtplmejnoepkdgaaZeroMixesH
import Derived.Test.YtplmejnoepkdgaaRf4
import Derived.Test.YtplmejnoepkdgaaZeroMixesP0
set_option linter.unusedVariables false
set_option linter.unusedSimpArgs false
namespace Go.Proofs.Ytplmejnoepkdgaa.H1
open Go Go.Proofs.Ytplmejnoepkdgaa.Rf
/-! Copies. -/
theorem map_X {α β : Type} (l : List α) (d : α) (h : α → β) {b : Nat} (hl : l.length ≤ 100000000) (hb : l.length * b ≤ 140737488355328) {f : Nat → List β → Int → Option (List β)} {g : Nat → α → Option β}
    (he : ∀ k s (i : Int), f (k + 1) s i = (bif (decide (i < (l.length : Int))) then (bif (inB i l.length) then ((g k (l.getD i.toNat d)).bind fun t => (bif (room (s.length + ([t] : List β).length) b) then (f k (s ++ ([t])) (w64 (i + 1))) else none)) else none) else (some s)))
    (hg : ∀ i, i < l.length → T (fun k => g k (l.getD i d)) (fun r => r = h (l.getD i d))) : T (fun k => f k [] 0) (fun r => r = l.map h) := by
  refine T.loop0 (f := fun k s i => f k s i) l.length (fun s i => s = (l.take i).map h) [] rfl fun s i hi hI ih => ?_
  refine T.eq (he · _ _) (T.ite (fun hlt => ?_) (fun hge => T.pure ?_))
  · have hlt := lt_dec hlt
    simp only [Int.toNat_natCast]
    have hlen : s.length = i := by rw [hI, List.length_map, List.length_take]; omega
    have hm : (s.length + 1) * b ≤ l.length * b := Nat.mul_le_mul_right _ (by omega)
    refine T.yes (inB_nat hlt) (T.bind (hg i hlt) fun r hr => T.yes (room_ok (by simp only [List.length_singleton]; omega)) ?_)
    rw [inc (by omega)]
    refine ih _ hlt ?_
    rw [hI, take_snoc l d hlt, List.map_append, hr]; rfl
  · have e : i = l.length := by have := nlt_dec hge; omega
    subst e
    rw [hI, List.take_length]
theorem map_id' {α : Type} (l : List α) : l.map (fun x => x) = l := by simp
theorem ref01_X (l : List E) (hl : l.length ≤ 1000000) : T (fun k => steeplelaw01_Ref.f k l) (fun r => r = l) :=
  T.eq (steeplelaw01_Ref.f_eq · l) ((map_X (f := fun k s i => steeplelaw01_Ref.l58 k l s i) (g := fun _ x => some x) l z (fun x => x) (b := 16) (by omega) (by omega) (fun k s i => steeplelaw01_Ref.l58_eq k l s i) fun i hi => T.pure rfl).mono fun r hr => by rw [hr, map_id'])
theorem ref16_X (l : List O) (hl : l.length ≤ 1000000) : T (fun k => steeplelaw16_Ref.f k l) (fun r => r = l) := by
  refine T.eq (steeplelaw16_Ref.f_eq · l) (T.loop0 (f := fun k s i => steeplelaw16_Ref.l58 k l s i) l.length (fun s i => s = l.take i) [] rfl fun s i hi hI ih => ?_)
  refine T.eq (steeplelaw16_Ref.l58_eq · l _ _) (T.ite (fun hlt => ?_) (fun hge => T.pure ?_))
  · have hlt := lt_dec hlt
    have hlen : s.length = i := by rw [hI, List.length_take]; omega
    simp only [Int.toNat_natCast]
    refine T.yes (inB_nat hlt) (T.yes (inB_nat hlt) (T.yes (inB_nat hlt) (T.yes (inB_nat hlt) (T.yes (room_ok (by simp only [List.length_singleton]; omega)) ?_))))
    rw [inc (by omega)]
    refine ih _ hlt ?_
    rw [hI, take_snoc l zo hlt]; rfl
  · have e : i = l.length := by have := nlt_dec hge; omega
    subst e
    rw [hI, List.take_length]
theorem refs21_X (t : List (List O)) (ht : t.length ≤ 1000) (h : ∀ i, (t.getD i []).length ≤ 1000000) : T (fun k => steeplelaw21_Refs.f k t) (fun r => r = t) :=
  T.eq (steeplelaw21_Refs.f_eq · t) ((map_X (f := fun k s i => steeplelaw21_Refs.l58 k t s i) (g := fun k x => steeplelaw16_Ref.f k x) t [] (fun x => x) (b := 24) (by omega) (by omega) (fun k s i => steeplelaw21_Refs.l58_eq k t s i) fun i hi => ref16_X _ (h i)).mono fun r hr => by rw [hr, map_id'])
/-! Mix. -/
theorem getD_none {α : Type} {l : List α} {d : α} {i : Nat} (h : l.length ≤ i) : l.getD i d = d := by rw [List.getD_eq_getElem?_getD, List.getElem?_eq_none h]; rfl
theorem getD_app {α : Type} {l m : List α} {d : α} {i : Nat} : (l ++ m).getD i d = if i < l.length then l.getD i d else m.getD (i - l.length) d := by
  split
  · rename_i h; exact getD_app_l l m d h
  · rename_i h
    have e : i = l.length + (i - l.length) := by omega
    conv => lhs; rw [e]
    exact getD_app_r l m d _
theorem cR_app {l m : List O} (h : cR l) (k : cR m) : cR (l ++ m) := fun i => by
  rw [getD_app]; split
  · exact h i
  · exact k _
theorem cR_nil : cR [] := fun i => rngE_z
theorem cR_one {o : O} {l : List O} (h : rngE o.2.2.2.1) (k : cR l) : cR (o :: l) := fun i => by
  cases i with
  | zero => exact h
  | succ i => exact k i
theorem getD_map {α β : Type} {l : List α} {f : α → β} {d : α} {e : β} {i : Nat} (h : i < l.length) : (l.map f).getD i e = f (l.getD i d) := by
  simp [List.getD_eq_getElem?_getD, h]
theorem cR_shift {l : List O} (h : cR l) (n : Int) : cR (l.map (shiftO n)) := fun i => by
  by_cases hi : i < l.length
  · rw [getD_map (d := zo) hi, shiftO]
    split
    · exact h i
    · exact h i
  · rw [getD_none (by rw [List.length_map]; omega)]; exact rngE_z
theorem mSt_R {lv : Int} {a : E} {c : List (List O)} (ha : inL lv a) (hc : ∀ j, cR (c.getD j [])) : ∀ i, cR (mSt a c i).1
  | 0 => cR_nil
  | i + 1 => by
    have h := cR_app (mSt_R ha hc i) (cR_shift (hc i) ((mSt a c i).1.length : Int))
    rw [mSt, mstep]
    cases (i == 0)
    · exact cR_app h (cR_one (inL_Pr (mSt_L ha i) ha).1 (cR_one rngE_z (cR_one rngE_z cR_nil)))
    · exact h
theorem steps_R {lv vars : Int} {a : E} {c : List (List O)} (ha : inL lv a) (hc : ∀ j, cR (c.getD j [])) : cR (stepsP vars c a) :=
  cR_app (mSt_R ha hc _) (cR_one rngE_z (cR_one rngE_z cR_nil))
noncomputable def mixE (lv vars : Int) (c : List (List O)) (a : E) : Int :=
  if manyV c = 0 then (if errs (chkX lv vars) c = 0 then (if ofB lv a = true then chkX lv (vars + 1) (stepsP vars c a) else 5) else errs (chkX lv vars) c) else manyV c
theorem Mix_X {lv vars : Int} {c : List (List O)} {a : E} (hc : fewC c) (ha : rngE a) (hv : 0 ≤ vars) (hv2 : vars ≤ 1000) : T (fun k => zero_Mix.f k lv vars c a) (fun r => r = if mixE lv vars c a = 0 then (stepsP vars c a, 0) else ([], mixE lv vars c a)) := by
  unfold mixE
  have h50 := hc.1
  refine T.eq (zero_Mix.f_eq · lv vars c a) (T.bind (many_X c) fun e he => T.ite (fun h => T.pure ?_) (fun h => ?_))
  · subst he
    have h : ¬ manyV c = 0 := by simpa using h
    rw [if_neg h, if_neg h]
  · subst he
    have h : manyV c = 0 := by simpa using h
    rw [if_pos h]
    refine first_X (f := fun k i => zero_Mix.l58 k lv vars c a c (c.length : Int) i) (g := fun k l => expr_Check.f k lv vars l) c [] (chkX lv vars) (by omega) (fun k i => zero_Mix.l58_eq k lv vars c a c _ i) (fun i hi => Check_X lv vars _) (fun h => ?_) (fun h => ?_)
    · rw [if_neg h, if_neg h]
    · rw [if_pos h]
      refine T.bind (of_T lv a) fun b hb => T.ite (fun h2 => T.pure ?_) (fun h2 => ?_)
      · subst hb
        have h2 : ofB lv a = false := by simpa using h2
        rw [h2]; rfl
      · subst hb
        have h2 : ofB lv a = true := by simpa using h2
        rw [if_pos h2]
        refine T.bind (mix_X hc ⟨ha, h2⟩) fun out ho => ?_
        subst ho
        rw [w64_in (by omega) (by omega)]
        refine T.bind (Check_X lv _ _) fun e he => T.ite (fun h3 => T.pure ?_) (fun h3 => T.pure ?_)
        · subst he; rw [if_neg (by simpa using h3)]
        · subst he; rw [if_pos (by simpa using h3)]
theorem errs_x {lv vars : Int} {c : List (List O)} (h : errs (chkX lv vars) c = 0) : ∀ j, j < c.length → XOk lv vars (c.getD j []) := fun j hj => chkX_ok (errs_ok (d := []) h j hj)
theorem kindC_of {lv vars : Int} {c : List (List O)} (h : ∀ j, j < c.length → XOk lv vars (c.getD j [])) : kindC c := fun j hj i hi => by
  have := ((h j hj).ok i hi).1
  omega
theorem rMix_X {lv vars : Int} {c : List (List O)} {a : E} (hc : fewC c) (ha : rngE a) (hr : ∀ j, cR (c.getD j [])) (hv : 0 ≤ vars) (hv2 : vars ≤ 1000) : T (fun k => steepleref21_Mix.f k lv vars c a) (fun r => r = mixE lv vars c a) := by
  unfold mixE
  have h50 := hc.1
  refine T.eq (steepleref21_Mix.f_eq · lv vars c a) (T.bind (rmany_X c) fun e he => T.ite (fun h => T.bind (rmany_X c) fun e2 he2 => T.pure ?_) (fun h => ?_))
  · subst he2 he
    have h : ¬ manyV c = 0 := by simpa using h
    rw [if_neg h]
  · subst he
    have h : manyV c = 0 := by simpa using h
    rw [if_pos h]
    refine first_X (f := fun k i => steepleref21_Mix.l58 k lv vars c a i) (g := fun k l => steepleref16_Check.f k lv vars l) c [] (chkX lv vars) (by omega) (fun k i => steepleref21_Mix.l58_eq k lv vars c a i) (fun i hi => rCheck_X lv vars _ (hr i)) (fun h => ?_) (fun h => ?_)
    · rw [if_neg h]
    · rw [if_pos h]
      refine T.bind (rof_X lv ha) fun b hb => T.ite (fun h2 => T.pure ?_) (fun h2 => ?_)
      · subst hb
        have h2 : ofB lv a = false := by simpa using h2
        rw [h2]; rfl
      · subst hb
        have h2 : ofB lv a = true := by simpa using h2
        rw [if_pos h2]
        refine T.bind (rSteps_X hc ⟨ha, h2⟩ (kindC_of (errs_x h))) fun out ho => ?_
        subst ho
        rw [w64_in (by omega) (by omega)]
        exact T.bind (rCheck_X lv _ _ (steps_R (lv := lv) ⟨ha, h2⟩ hr)) fun e he => T.pure he
/-! Weights. -/
end Go.Proofs.Ytplmejnoepkdgaa.H1
namespace Go.Proofs.Ytplmejnoepkdgaa.H1
open Go Go.Proofs.Ytplmejnoepkdgaa.Rf
/-! Conditions over tables. -/
/-! The zero sum. -/
theorem mixE_a {lv vars : Int} {c : List (List O)} {a : E} (h : mixE lv vars c a = 0) : ofB lv a = true ∧ (∀ j, j < c.length → XOk lv vars (c.getD j [])) ∧ XOk lv (vars + 1) (stepsP vars c a) := by
  unfold mixE at h
  split at h
  · split at h
    · split at h
      · rename_i h1 h2 h3
        exact ⟨h3, errs_x h2, chkX_ok h⟩
      · cases h
    · rename_i h1 h2; exact absurd h h2
  · rename_i h1; exact absurd h h1
theorem COk_of {lv : Int} {vars : Nat} {c : List (List O)} (hp : 0 < c.length) (h : ∀ j, j < c.length → XOk lv vars (c.getD j [])) (hr : ∀ j, cR (c.getD j [])) : COk lv vars c := ⟨hp, h, fun j _ => hr j⟩
end Go.Proofs.Ytplmejnoepkdgaa.H1
namespace Go.Proofs.Ytplmejnoepkdgaa.H1
open Go Go.Proofs.Ytplmejnoepkdgaa.Rf
abbrev TE : Ty := .pair U (.pair U .unit)
abbrev TO : Ty := .pair I (.pair I (.pair I (.pair TE .unit)))
theorem wf_rng {n : Int} (h : (Lit.int .u64 n).wf = true) : rng n := by
  simp [Lit.wf, IntKind.min, IntKind.max, IntKind.signed, IntKind.bits] at h
  exact ⟨by omega, by omega⟩
theorem okE {x : E} (h : okD TE x) : rngE x := ⟨wf_rng h.1, wf_rng h.2.1⟩
theorem mem_getD {α : Type} {l : List α} {d : α} {i : Nat} (h : i < l.length) : l.getD i d ∈ l := by
  rw [List.getD_eq_getElem?_getD, List.getElem?_eq_getElem h]; exact List.getElem_mem h
theorem okEs {f : Bool} {l : List E} (h : okD (.sl f TE) l) : allR l := fun j => by
  by_cases hj : j < l.length
  · exact okE (h.2 _ (mem_getD hj))
  · rw [getD_none (by omega)]; exact rngE_z
theorem okOs {f : Bool} {l : List O} (h : okD (.sl f TO) l) : cR l := fun j => by
  by_cases hj : j < l.length
  · exact okE (h.2 _ (mem_getD hj)).2.2.2.1
  · rw [getD_none (by omega)]; exact rngE_z
theorem okOss {f g : Bool} {l : List (List O)} (h : okD (.sl f (.sl g TO)) l) : ∀ j, cR (l.getD j []) := fun j => by
  by_cases hj : j < l.length
  · exact okOs (h.2 _ (mem_getD hj))
  · rw [getD_none (by omega)]; exact cR_nil
abbrev TCase21 : Ty := .pair (.sl false (.sl false TO)) (.pair (.sl false (.sl false TE)) .unit)
abbrev TPoint21 : Ty := .pair TE (.pair (.sl false TE) (.pair TE .unit))
theorem z_eq (x : E) : ((x.1 == x.1) && (x.2.1 == x.2.1)) = true := by simp
/-! ZeroMixes. -/
theorem Value_X (lv : Int) (c : List (List O)) (v : List E) (a w : E) (hc : fewC c) (hv : v.length ≤ 900) (hr : ∀ j, cR (c.getD j [])) (ha : rngE a) (hvr : allR v) (hw : rngE w) :
    T (fun k => zero_Value.f k lv c v a w) (fun r => r = if mixE lv v.length c a = 0 then (if allB lv (v ++ [w]) = true then (Pr w (mixedP c v a), 0) else (z, 5)) else (z, mixE lv v.length c a)) := by
  refine T.eq (zero_Value.f_eq · lv c v a w) (T.bind (Mix_X hc ha (by omega) (by omega)) fun m hm => ?_)
  by_cases h0 : mixE lv v.length c a = 0
  · rw [if_pos h0] at hm ⊢
    subst hm
    obtain ⟨ofa, hx, hxs⟩ := mixE_a h0
    have hcp : 0 < c.length := by
      by_cases h : manyV c = 0
      · exact (manyV_ok h).1
      · unfold mixE at h0; rw [if_neg h] at h0; exact absurd h0 h
    refine T.no (by rfl) (T.bind (clone3_T v (by omega)) fun v' hv' => ?_)
    subst hv'
    have hvw : allR (v' ++ [w]) := fun j => by
      rw [getD_snoc]; split
      · exact hvr j
      · split
        · exact hw
        · exact rngE_z
    refine T.yes (room_ok (by simp only [List.length_singleton]; omega)) (T.bind (Eval_X lv _ (v' ++ [w]) (by rw [List.length_append]; simp only [List.length_singleton]; omega) (steps_R ⟨ha, ofa⟩ hr) hvw) fun r hr' => T.pure ?_)
    have el : ((v' ++ [w]).length : Int) = (v'.length : Int) + 1 := by rw [List.length_append]; simp
    rw [el, if_pos hxs.eq] at hr'
    by_cases hal : allB lv (v' ++ [w]) = true
    · rw [if_pos hal] at hr' ⊢
      have hvL : allL lv v' := fun j => by
        by_cases hj : j < v'.length
        · have := allL_of hxs.lv0 hxs.lv7 hvw hal j
          rwa [getD_app_l _ _ _ hj] at this
        · rw [getD_none (by omega)]; exact inL_z hxs.lv0 hxs.lv7
      rw [steps_val hc (COk_of hcp hx hr) ⟨ha, ofa⟩ hvL] at hr'
      rw [hr']
    · rw [if_neg hal] at hr' ⊢
      rw [hr']
  · rw [if_neg h0] at hm ⊢
    subst hm
    exact T.yes (by simpa using h0) (T.pure rfl)
theorem zeroMixes_T (lv : Int) (x : List (List O) × List (List E) × Unit) (y : E × List E × E × Unit) (hx : okD TCase21 x) (hy : okD TPoint21 y) : T (fun k => steeplelaw21_ZeroMixes.f k lv x y) (fun b => b = true) := by
  have hr : ∀ j, cR (x.1.getD j []) := okOss hx.1
  have hra : rngE y.1 := okE hy.1
  have hrp : allR y.2.1 := okEs hy.2.1
  have hrw : rngE y.2.2.1 := okE hy.2.2.1
  refine T.eq (steeplelaw21_ZeroMixes.f_eq · lv x y) (T.bind (few21_T x) fun b hb => T.ite (fun _ => T.bind awake_T fun a ha => T.pure ha) fun h1 => T.ite (fun _ => T.bind awake_T fun a ha => T.pure ha) fun h6 => ?_)
  obtain ⟨hc, h5, h16⟩ := hb (by simpa using h1)
  have h6 : y.2.1.length ≤ 6 := by have := of_decide_eq_false h6; omega
  have h50 := hc.1
  refine T.bind (refs21_X x.1 (by omega) fun i => by have := hc.2 i; omega) fun c' e1 => T.bind (Mix_X hc hra (by omega) (by omega)) fun m hm => T.bind (Value_X lv x.1 y.2.1 y.1 y.2.2.1 hc (by omega) hr hra hrp hrw) fun v hv => ?_
  subst e1
  refine T.bind (rMix_X hc hra hr (by omega) (by omega)) fun e he => ?_
  subst he
  by_cases h0 : mixE lv y.2.1.length x.1 y.1 = 0
  · rw [if_pos h0] at hm hv
    subst hm
    obtain ⟨ofa, hxx, hxs⟩ := mixE_a h0
    have hcp : 0 < x.1.length := by
      by_cases h : manyV x.1 = 0
      · exact (manyV_ok h).1
      · unfold mixE at h0; rw [if_neg h] at h0; exact absurd h0 h
    refine T.no (by rw [h0]; rfl) (T.no (by rfl) (T.bind (rSteps_X hc ⟨hra, ofa⟩ (kindC_of hxx)) fun s hs => ?_))
    subst hs
    have hl200 := hxs.len
    obtain ⟨s, es⟩ : ∃ s, s = stepsP y.2.1.length x.1 y.1 := ⟨_, rfl⟩
    rw [← es] at hl200
    rw [← es]
    refine T.no (by simp) (T.loop0 (σ := Unit) (f := fun k _ i => steeplelaw21_ZeroMixes.l32762 k lv y x.1 y.1 s v.1 v.2 s i) s.length (fun _ _ => True) () trivial fun _ i hi _ ih => ?_)
    refine T.eq (steeplelaw21_ZeroMixes.l32762_eq · lv y x.1 y.1 s v.1 v.2 s _) (T.ite (fun hlt => ?_) (fun hge => ?_))
    · have hlt := lt_dec hlt
      rw [inc (by omega)]
      have hin : inS (i : Int) ((i : Int) + 1) s.length = true := by
        simp only [inS, Bool.and_eq_true, decide_eq_true_eq]; omega
      have hcut : cutl s (i : Int) ((i : Int) + 1) = [s.getD i zo] := by
        show (s.take ((i : Int) + 1).toNat).drop ((i : Int)).toNat = _
        rw [show ((i : Int) + 1).toNat = i + 1 by omega, Int.toNat_natCast, take_snoc s zo hlt, List.drop_append_of_le_length (by rw [List.length_take]; omega), List.drop_eq_nil_of_le (by rw [List.length_take]; omega)]; rfl
      rw [hcut]
      refine T.yes hin (T.bind (ref16_X _ (by simp)) fun r hr => ?_)
      subst hr
      refine T.yes (by rfl) (T.yes (inB_nat hlt) (T.no ?_ (ih () hlt trivial)))
      show (!(((s.getD i zo).1 == (s.getD i zo).1) && _)) = false
      simp [zo]
    · refine T.yes (room_ok (by omega)) (T.yes (room_ok (by simp only [List.length_singleton]; omega)) ?_)
      have hall : (y.2.1 ++ [y.2.2.1]).length ≤ 7 := by rw [List.length_append]; simp only [List.length_singleton]; omega
      have hvw : allR (y.2.1 ++ [y.2.2.1]) := fun j => by
        rw [getD_snoc]; split
        · exact hrp j
        · split
          · exact hrw
          · exact rngE_z
      obtain ⟨al, eal⟩ : ∃ al, al = y.2.1 ++ [y.2.2.1] := ⟨_, rfl⟩
      rw [← eal] at hall hvw hv ⊢
      refine T.loop0 (σ := Unit) (f := fun k _ i => steeplelaw21_ZeroMixes.l131066 k lv y x.1 y.1 v.1 v.2 al i) al.length (fun _ i => ∀ j, j < i → ofB lv (al.getD j z) = true) () (fun j h => absurd h (by omega)) fun _ j hj hI ih => ?_
      refine T.eq (steeplelaw21_ZeroMixes.l131066_eq · lv y x.1 y.1 v.1 v.2 al _) (T.ite (fun hlt => ?_) (fun hge => ?_))
      · have hlt := lt_dec hlt
        simp only [Int.toNat_natCast]
        refine T.yes (inB_nat hlt) (T.bind (rof_X lv (hvw j)) fun b hb => T.ite (fun h => T.bind awake_T fun a ha => T.yes ha ?_) (fun h => ?_))
        · have hb : b = ofB lv (al.getD j z) := hb
          have : ¬ allB lv al = true := fun hh => by
            have := (all_getD z _ al).1 hh j hlt
            rw [← hb] at this; rw [this] at h; cases h
          rw [if_neg this] at hv
          subst hv
          exact T.yes (by rfl) (T.pure (by rfl))
        · have hb : b = ofB lv (al.getD j z) := hb
          rw [inc (by omega)]
          refine ih () hlt fun i hi => ?_
          by_cases e : i = j
          · subst e; rw [← hb]; simpa using h
          · exact hI i (by omega)
      · have e : j = al.length := by have := nlt_dec hge; omega
        subst e
        have hal : allB lv al = true := (all_getD z _ al).2 hI
        rw [if_pos hal] at hv
        subst hv
        have hvL : allL lv y.2.1 := fun j => by
          by_cases hj : j < y.2.1.length
          · have := allL_of hxs.lv0 hxs.lv7 hvw hal j
            rwa [eal, getD_app_l _ _ _ hj] at this
          · rw [getD_none (by omega)]; exact inL_z hxs.lv0 hxs.lv7
        refine T.bind awake_T fun a ha => T.yes ha (T.yes (by rfl) (T.bind (ref01_X y.2.1 (by omega)) fun p hp => ?_))
        subst hp
        refine T.bind (rMixed_X hc (COk_of hcp hxx hr) ⟨hra, ofa⟩ hvL (by omega)) fun m hm => ?_
        subst hm
        exact T.bind (prod_T hrw (fold_rng _)) fun q hq => T.pure (by subst hq; exact z_eq _)
  · rw [if_neg h0] at hm hv
    subst hm hv
    refine T.no (by simp) (T.yes (by simpa using h0) (T.bind awake_T fun a ha => T.yes ha (T.yes (by simp) (T.yes (by rfl) (T.pure (by rfl))))))
end Go.Proofs.Ytplmejnoepkdgaa.H1
namespace Go.Proofs.Ytplmejnoepkdgaa.Fld
/-- The field of the greatest level. -/
structure F where
  n : Nat
  lt : n < 2 ^ 2 ^ 7
theorem F.ext' {a b : F} (h : a.n = b.n) : a = b := by cases a; cases b; cases h; rfl
instance : DecidableEq F := fun a b => if h : a.n = b.n then .isTrue (F.ext' h) else .isFalse fun e => h (by rw [e])
instance : Add F := ⟨fun a b => ⟨a.n ^^^ b.n, Nat.xor_lt_two_pow a.lt b.lt⟩⟩
instance : Mul F := ⟨fun a b => ⟨Tow.mul 7 a.n b.n, Tow.mul_lt 7 _ _ a.lt b.lt⟩⟩
instance : OfNat F 0 := ⟨⟨0, Nat.two_pow_pos _⟩⟩
instance : OfNat F 1 := ⟨⟨1, Tow.one_lt 7⟩⟩
theorem add_comm (a b : F) : a + b = b + a := F.ext' (Nat.xor_comm _ _)
theorem add_assoc (a b c : F) : a + b + c = a + (b + c) := F.ext' (Nat.xor_assoc _ _ _)
theorem zero_add (a : F) : 0 + a = a := F.ext' (Nat.zero_xor _)
theorem mul_comm (a b : F) : a * b = b * a := F.ext' (Tow.mul_comm 7 _ _)
theorem mul_assoc (a b c : F) : a * b * c = a * (b * c) := F.ext' (Tow.mul_assoc 7 _ _ _ a.lt b.lt c.lt)
theorem one_mul (a : F) : 1 * a = a := F.ext' (Tow.one_mul a.lt)
theorem mul_one (a : F) : a * 1 = a := F.ext' (Tow.mul_one 7 _ a.lt)
theorem add_mul (a b c : F) : (a + b) * c = a * c + b * c := F.ext' (Tow.mul_xorl 7 _ _ _)
instance : Std.Associative (α := F) (· + ·) := ⟨add_assoc⟩
instance : Std.Commutative (α := F) (· + ·) := ⟨add_comm⟩
instance : Std.Associative (α := F) (· * ·) := ⟨mul_assoc⟩
instance : Std.Commutative (α := F) (· * ·) := ⟨mul_comm⟩
/-! Sums. -/
/-! Polynomials. -/
/-! Places. -/
end Go.Proofs.Ytplmejnoepkdgaa.Fld
namespace Go.Proofs.Ytplmejnoepkdgaa.H1
open Go Go.Proofs.Ytplmejnoepkdgaa.Rf
/-! Elements, as a field has them. -/
/-! Lines. -/
end Go.Proofs.Ytplmejnoepkdgaa.H1
namespace Go.Proofs.Ytplmejnoepkdgaa.Fld
end Go.Proofs.Ytplmejnoepkdgaa.Fld
namespace Go.Proofs.Ytplmejnoepkdgaa.H1
open Go Go.Proofs.Ytplmejnoepkdgaa.Rf
end Go.Proofs.Ytplmejnoepkdgaa.H1
namespace Go.Proofs.Ytplmejnoepkdgaa.H1
open Go Go.Proofs.Ytplmejnoepkdgaa.Rf
end Go.Proofs.Ytplmejnoepkdgaa.H1
namespace Go.Proofs.Ytplmejnoepkdgaa.H1
open Go Go.Proofs.Ytplmejnoepkdgaa.Rf
/-! What hinders verifying. -/
end Go.Proofs.Ytplmejnoepkdgaa.H1
namespace Go.Proofs.Ytplmejnoepkdgaa.H1
open Go Go.Proofs.Ytplmejnoepkdgaa.Rf
/-! Tables, bound in their first variable. -/
noncomputable def firstE (lv : Int) (t rs : List E) : Int :=
  if lv < 0 ∨ lv > 7 then 1 else if logI t.length < 0 ∨ (rs.length : Int) > logI t.length then 6 else if allB lv t = false ∨ allB lv rs = false then 5 else 0
noncomputable def bindE (lv : Int) (t : List (List E)) (r : E) : Int := errs (fun x => firstE lv x [r]) t
end Go.Proofs.Ytplmejnoepkdgaa.H1
namespace Go.Proofs.Ytplmejnoepkdgaa.Fld
end Go.Proofs.Ytplmejnoepkdgaa.Fld
namespace Go.Proofs.Ytplmejnoepkdgaa.H1
open Go Go.Proofs.Ytplmejnoepkdgaa.Rf
/-! Proving. -/
end Go.Proofs.Ytplmejnoepkdgaa.H1
namespace Go.Proofs.Ytplmejnoepkdgaa.Fld
/-! Counting. -/
/-! Tables' values. -/
end Go.Proofs.Ytplmejnoepkdgaa.Fld
namespace Go.Proofs.Ytplmejnoepkdgaa.H1
open Go Go.Proofs.Ytplmejnoepkdgaa.Rf
/-! SumcheckCounts. -/
end Go.Proofs.Ytplmejnoepkdgaa.H1
namespace Go.Proofs.Ytplmejnoepkdgaa.H1
open Go Go.Proofs.Ytplmejnoepkdgaa.Rf
/-! ZeroCounts. -/
end Go.Proofs.Ytplmejnoepkdgaa.H1
