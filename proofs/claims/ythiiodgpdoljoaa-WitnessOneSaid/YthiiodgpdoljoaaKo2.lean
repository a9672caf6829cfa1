import Derived.Test.YthiiodgpdoljoaaKo0
import Derived.Deep.Slices
import Derived.Deep.Fields
import Derived.ChangeSame
import Derived.WideShapes
import Derived.Test.YthiiodgpdoljoaaProg
import Derived.Below
import Derived.Deep.Draws
import Derived.Deep.AppendLies
import Derived.Maps.AppendAt
import Derived.OwnWalk
import Derived.Laws.BytesArg
import Derived.Laws.MakeOwn
import Derived.Laws.OwnMore
import Derived.Deep.OwnRows
import Derived.Tactics
import Derived.Lib.ConvBytes
import Derived.Laws.Slices
import Derived.WalkKit
import Derived.KernelRfl
import Derived.RowKit3
import Derived.Deep.LoopGhost
import Derived.Deep.QuietTactic
import Derived.BigQuiet
import Derived.WideLaws
import Derived.Deep.DeepCutAuto
import Derived.Deep.CutBlock
import Derived.Deep.RegionHeld3
import Derived.Laws.Rows
import Derived.Lib.AppendStr
import Derived.ArgAppend
import Derived.Laws.IdiomCopy
import Derived.OrdersHeld
import Derived.Laws.BitsLemmas
import Derived.RowKit
import Derived.Test.YthiiodgpdoljoaaKo1
-- Words and walks that the kit's print has laid for this seat, cut down, and our own texts, merged.
/- Arguments as the law's caller lays them, read as the print's kinds: whole numbers, bools, strings, structs, slices, nested. -/
namespace Go.Proofs.Ythiiodgpdoljoaa.Rd
open Go.RowKit Go.ChangeShapes Go.WideShapes Go.Deep Go.Proofs.YthiiodgpdoljoaaW.PrintWords
set_option linter.unusedVariables false
/-- Whatever reads as data of type t is of kind d, and wf holds of it. -/
def Rd {α : Type} (P : Program) (t : TypeId) (d : Kd α) (wf : α → Prop) : Prop :=
  ∀ (H : Type) (enc : TypeId × Value → H) (w : World) (base : Nat) (spare : Nat → Bool) (held : Bool) (fuel : Nat) (cs : List Value) (x : DataW H × List MemPlace),
    DataW.trod enc P w base spare held fuel t cs = some x → ∃ a, d.K w a cs ∧ wf a
theorem Rd.int {P : Program} {t : TypeId} {k : IntKind} (ht : P.underlying t = some (.int k)) : Rd P t (Kd.int k) (fun n => (Lit.int k n).wf = true) := by
  intro H enc w base spare held fuel cs x h
  obtain ⟨n, rfl, _, hw⟩ := DataW.trod_int ht h
  exact ⟨n, rfl, hw⟩
theorem Rd.bool {P : Program} {t : TypeId} (ht : P.underlying t = some .bool) : Rd P t Kd.bool (fun _ => True) := by
  intro H enc w base spare held fuel cs x h
  obtain ⟨n, rfl, _⟩ := DataW.trod_bool ht h
  exact ⟨n, rfl, trivial⟩
theorem Rd.string {P : Program} {t : TypeId} (ht : P.underlying t = some .string) : Rd P t Kd.string (fun s => s.size ≤ maxLen) := by
  intro H enc w base spare held fuel cs x h
  obtain ⟨n, rfl, _, hs⟩ := DataW.trod_string ht h
  exact ⟨n, rfl, hs⟩
/-- The fields from one offset on. -/
def Sq {α : Type} (P : Program) (fs : List Field) (o : Nat) (d : Kd α) (wf : α → Prop) : Prop :=
  ∀ (H : Type) (enc : TypeId × Value → H) (w : World) (base : Nat) (spare : Nat → Bool) (held : Bool) (cs : List Value), cs.length = o + d.sz →
    (∀ f ∈ fs, ∃ (n : Nat) (x : DataW H × List MemPlace), DataW.trod enc P w base spare held n f.type ((cs.drop f.offset).take (P.cellsOf f.type)) = some x) → ∃ a, d.K w a (cs.drop o) ∧ wf a
theorem Sq.one {α : Type} {P : Program} {f : Field} {o : Nat} {d : Kd α} {wf : α → Prop} (ho : f.offset = o) (hc : P.cellsOf f.type = d.sz) (h : Rd P f.type d wf) : Sq P [f] o d wf := by
  intro H enc w base spare held cs hl hf
  obtain ⟨n, x, hx⟩ := hf f (by simp)
  rw [ho, hc, List.take_of_length_le (by rw [List.length_drop]; omega)] at hx
  exact h H enc w base spare held n _ x hx
theorem Sq.cons {α β : Type} {P : Program} {f : Field} {fs : List Field} {o : Nat} {d : Kd α} {d' : Kd β} {wf : α → Prop} {wf' : β → Prop} (ho : f.offset = o) (hc : P.cellsOf f.type = d.sz) (h : Rd P f.type d wf) (hs : Sq P fs (o + d.sz) d' wf') :
    Sq P (f :: fs) o (Kd.pair d d') (fun p => wf p.1 ∧ wf' p.2) := by
  intro H enc w base spare held cs hl hf
  have hsz : (Kd.pair d d').sz = d.sz + d'.sz := rfl
  rw [hsz] at hl
  obtain ⟨n, x, hx⟩ := hf f (by simp)
  rw [ho, hc] at hx
  obtain ⟨a, ha, wa⟩ := h H enc w base spare held n _ x hx
  obtain ⟨b, hb, wb⟩ := hs H enc w base spare held cs (by omega) (fun g hg => hf g (by simp [hg]))
  refine ⟨(a, b), ⟨_, _, ?_, ha, hb⟩, wa, wb⟩
  rw [← List.drop_drop]
  exact (List.take_append_drop d.sz (cs.drop o)).symm
theorem Rd.struct {α β : Type} {P : Program} {t : TypeId} {fs : Array Field} {d : Kd α} {wf : α → Prop} (ht : P.underlying t = some (.struct fs)) (hc : P.cellsOf t = d.sz) (hs : Sq P fs.toList 0 d wf) (f : β → α) (g : α → β) (hfg : ∀ a, f (g a) = a) :
    Rd P t (Kd.iso d f) (fun b => wf (f b)) := by
  intro H enc w base spare held fuel cs x h
  obtain ⟨xs, n, _, _, hlen, hxl, hf⟩ := DataW.trod_struct ht h
  obtain ⟨a, ha, wa⟩ := hs H enc w base spare held cs (by rw [hlen, hc]; omega) (fun fd hfd => by
    obtain ⟨j, hj, rfl⟩ := List.getElem_of_mem hfd
    have hj' : j < fs.size := by simpa using hj
    have h1 := hf j fs[j] (Array.getElem?_eq_getElem hj')
    rw [List.getElem?_eq_getElem (show j < xs.length by omega)] at h1
    exact ⟨n, _, by simpa using h1⟩)
  refine ⟨g a, ?_, by show wf (f (g a)); rw [hfg]; exact wa⟩
  show d.K w (f (g a)) cs
  rw [hfg]
  simpa using ha
theorem Rd.slice {α : Type} [Inhabited α] {P : Program} {t e : TypeId} {d : Kd α} {wf : α → Prop} (ht : P.underlying t = some (.slice e)) (hc : P.cellsOf e = d.sz) (he : Rd P e d wf) : Rd P t (Kd.slice e d) (fun l => l.length ≤ maxLen ∧ ∀ a ∈ l, wf a) := by
  intro H enc w base spare held fuel cs x h
  rcases open_slice ht h with ⟨rfl, _⟩ | ⟨a, len, cap, m, n, D, Pl, rfl, hb, hl, hm, hmm, _, hi⟩
  · exact ⟨[], ⟨none, 0, rfl, by simp, by simp, by simp, fun h0 => by simp at h0⟩, by simp, by simp⟩
  · have hle : len ≤ m := by rw [hmm]; split <;> omega
    obtain ⟨f, hf⟩ := choose_lt (α := α) (n := len) (p := fun i v => (∃ c : List Value, c.length = d.sz ∧ d.K w v c ∧ ∀ j u, c[j]? = some u → w.cell? (a.add (i * d.sz + j)) = some u) ∧ wf v) (fun i hil => by
      obtain ⟨cs', hcells, htr⟩ := hi i (by omega)
      obtain ⟨v, hv, hw⟩ := he H enc w base spare held n cs' _ htr
      rw [hc] at hcells
      obtain ⟨_, hcl, hat⟩ := World.cells?_some hcells
      refine ⟨v, ⟨cs', hcl, hv, fun j u hu => ?_⟩, hw⟩
      have hj : j < d.sz := by have := (List.getElem?_eq_some_iff.1 hu).1; omega
      rw [← Go.Deep.add_add, hat j hj]
      exact hu)
    refine ⟨(List.range len).map f, ⟨some a, cap, by simp, by simpa using hl, by simp, by simp only [List.length_map, List.length_range]; unfold maxLen at hm; omega, fun _ => ⟨a, rfl, fun j p hj => ?_⟩⟩, by simp; omega, fun v hv => ?_⟩
    · have hjl : j < len := by have := (List.getElem?_eq_some_iff.1 hj).1; simpa using this
      have : p = f j := by
        rw [List.getElem?_map, List.getElem?_range hjl] at hj
        simpa using hj.symm
      subst this
      exact (hf j hjl).1
    · obtain ⟨j, hj, rfl⟩ := List.mem_map.1 hv
      exact (hf j (List.mem_range.1 hj)).2
/-- An argument that is a struct. -/
theorem Rd.argStruct {α : Type} {P : Program} {t : TypeId} {fs : Array Field} {d : Kd α} {wf : α → Prop} (hr : Rd P t d wf) (ht : P.underlying t = some (.struct fs)) {H : Type} {enc : TypeId × Value → H} {w : World} {r : Reach} {base b0 : Nat} {spare : Nat → Bool} {held : Bool} {v : Value} {x : DataW H} {p : List MemPlace}
    (hv : Value.okWide P w r b0 t v) (h : DataW.Trod enc P w base spare held t v x p) : ∃ (cs : List Value) (a : α), v = .agg cs.toArray ∧ d.K w a cs ∧ wf a := by
  obtain ⟨cs, rfl, hsz⟩ := okWide_struct ht hv
  obtain ⟨fuel, hf⟩ := h
  obtain ⟨a, ha, wa⟩ := hr H enc w base spare held fuel _ _ hf
  exact ⟨cs.toList, a, by simp, by simpa [Value.cells] using ha, wa⟩
/-- An argument that is a slice. -/
theorem Rd.argSlice {α : Type} [Inhabited α] {P : Program} {t e : TypeId} {d : Kd α} {wf : α → Prop} (hr : Rd P t (Kd.slice e d) (fun l => l.length ≤ maxLen ∧ ∀ a ∈ l, wf a)) (ht : P.underlying t = some (.slice e)) {H : Type} {enc : TypeId × Value → H} {w : World} {r : Reach} {base b0 : Nat} {spare : Nat → Bool} {held : Bool} {v : Value} {x : DataW H} {p : List MemPlace}
    (hv : Value.okWide P w r b0 t v) (h : DataW.Trod enc P w base spare held t v x p) : ∃ (A : Option Addr) (l : List α) (c : Nat), v = .slice A l.length c ∧ l.length ≤ c ∧ d.C w A l.length l ∧ l.length ≤ maxLen ∧ ∀ a ∈ l, wf a := by
  obtain ⟨a0, len, cap, rfl⟩ := okWide_slice ht hv
  obtain ⟨fuel, hf⟩ := h
  obtain ⟨l, ⟨A, c, hcs, hl, hC⟩, hw⟩ := hr H enc w base spare held fuel _ _ hf
  simp [Value.cells] at hcs
  obtain ⟨rfl, rfl, rfl⟩ := hcs
  exact ⟨a0, l, cap, rfl, hl, hC, hw.1, hw.2⟩
end Go.Proofs.Ythiiodgpdoljoaa.Rd
namespace Go.Proofs.Ythiiodgpdoljoaa.PLw
open Go.RowKit Go.Proofs.YthiiodgpdoljoaaW.PrintWords Go.Proofs.YthiiodgpdoljoaaW.PrintLast Go.Proofs.YthiiodgpdoljoaaW.PrintMore
attribute [local go_sem] max2_int min2_int max_two min_two max_three min_three max_four min_four   -- for this text's walks alone
set_option linter.unusedVariables false
set_option linter.unusedSimpArgs false
def errW : Option Int → Value
 | none => .nilIface
 | some c => .iface 0 (.int .i64 c)
theorem errW_none : errW none = .nilIface := rfl
theorem errW_some (c : Int) : errW (some c) = .iface 0 (.int .i64 c) := rfl
theorem info4 : (Try.prog.info? 4).map (fun i => (i.zero, i.size, i.bytes)) = some (some (.bool false), 1, 1) := by kernel_rfl
theorem info43 : (Try.prog.info? 43).map (fun i => (i.zero, i.size, i.bytes)) = some (some (.int .u64 0), 1, 8) := by kernel_rfl
theorem info68 : (Try.prog.info? 68).map (fun i => (i.zero, i.size, i.bytes)) = some (some (.slice none 0 0), 1, 24) := by kernel_rfl
theorem info105 : (Try.prog.info? 105).map (fun i => (i.zero, i.size, i.bytes)) = some (some (.agg #[(.int .i64 0), (.int .i64 0), (.int .i64 0), (.int .i64 0), (.int .i64 0)]), 5, 40) := by kernel_rfl
theorem info106 : (Try.prog.info? 106).map (fun i => (i.zero, i.size, i.bytes)) = some (some (.agg #[(.int .i64 0), (.int .i64 0), (.int .i64 0), (.int .i64 0), (.int .i64 0)]), 5, 40) := by kernel_rfl
-- the values' own types
/-! #### struct type 105 -/
structure S105 where
 f0 : Int
 f1 : Int
 f2 : Int
 f3 : Int
 f4 : Int
def z105 : S105 := ⟨(0 : Int), (0 : Int), (0 : Int), (0 : Int), (0 : Int)⟩
def k105 : Kd S105 := Kd.iso (Kd.pair (Kd.int .i64) (Kd.pair (Kd.int .i64) (Kd.pair (Kd.int .i64) (Kd.pair (Kd.int .i64) (Kd.int .i64))))) (fun x : S105 => (x.f0, x.f1, x.f2, x.f3, x.f4))
theorem k105_open {w : World} {x : S105} {cs : List Value} (h : k105.K w x cs) : cs = [.int .i64 x.f0, .int .i64 x.f1, .int .i64 x.f2, .int .i64 x.f3, .int .i64 x.f4] := by
 obtain ⟨_, _, rfl, rfl, ⟨_, _, rfl, rfl, ⟨_, _, rfl, rfl, ⟨_, _, rfl, rfl, rfl⟩⟩⟩⟩ := h
 exact rfl
theorem k105_openM {w : World} {base : Nat} {ok : Nat → Prop} {x : S105} {cs : List Value} (h : k105.M w base ok x cs) : cs = [.int .i64 x.f0, .int .i64 x.f1, .int .i64 x.f2, .int .i64 x.f3, .int .i64 x.f4] := by
 obtain ⟨_, _, rfl, rfl, ⟨_, _, rfl, rfl, ⟨_, _, rfl, rfl, ⟨_, _, rfl, rfl, rfl⟩⟩⟩⟩ := h
 exact rfl
theorem k105_mk (w : World) (x : S105)  : k105.K w x [.int .i64 x.f0, .int .i64 x.f1, .int .i64 x.f2, .int .i64 x.f3, .int .i64 x.f4] := ⟨[.int .i64 x.f0], [.int .i64 x.f1, .int .i64 x.f2, .int .i64 x.f3, .int .i64 x.f4], rfl, rfl, ⟨[.int .i64 x.f1], [.int .i64 x.f2, .int .i64 x.f3, .int .i64 x.f4], rfl, rfl, ⟨[.int .i64 x.f2], [.int .i64 x.f3, .int .i64 x.f4], rfl, rfl, ⟨[.int .i64 x.f3], [.int .i64 x.f4], rfl, rfl, rfl⟩⟩⟩⟩
theorem k105_mkM (w : World) (base : Nat) (ok : Nat → Prop) (x : S105)  : k105.M w base ok x [.int .i64 x.f0, .int .i64 x.f1, .int .i64 x.f2, .int .i64 x.f3, .int .i64 x.f4] := ⟨[.int .i64 x.f0], [.int .i64 x.f1, .int .i64 x.f2, .int .i64 x.f3, .int .i64 x.f4], rfl, rfl, ⟨[.int .i64 x.f1], [.int .i64 x.f2, .int .i64 x.f3, .int .i64 x.f4], rfl, rfl, ⟨[.int .i64 x.f2], [.int .i64 x.f3, .int .i64 x.f4], rfl, rfl, ⟨[.int .i64 x.f3], [.int .i64 x.f4], rfl, rfl, rfl⟩⟩⟩⟩
theorem k105_mkF (W : World) (ok : Nat → Prop) (x : S105) : Kd.FK k105 W ok x [.int .i64 x.f0, .int .i64 x.f1, .int .i64 x.f2, .int .i64 x.f3, .int .i64 x.f4] := fun W2 _ => k105_mk W2 x
def rd_T105 (xs : List S105) (i : Int) : S105 := xs.getD i.toNat z105
theorem at_T105 {w : World} {A : Option Addr} {n : Nat} {xs : List S105} (h : Kd.C k105 w A n xs) (i : Int) (h0 : 0 ≤ i) (h1 : i < n) : ∃ ad , A = some ad ∧ w.cell? (ad.add (i.toNat * 5)) = some (.int .i64 (rd_T105 xs i).f0) ∧ w.cell? ⟨(ad.add (i.toNat * 5)).block, (ad.add (i.toNat * 5)).off + 1, none⟩ = some (.int .i64 (rd_T105 xs i).f1) ∧ w.cell? ⟨(ad.add (i.toNat * 5)).block, (ad.add (i.toNat * 5)).off + 2, none⟩ = some (.int .i64 (rd_T105 xs i).f2) ∧ w.cell? ⟨(ad.add (i.toNat * 5)).block, (ad.add (i.toNat * 5)).off + 3, none⟩ = some (.int .i64 (rd_T105 xs i).f3) ∧ w.cell? ⟨(ad.add (i.toNat * 5)).block, (ad.add (i.toNat * 5)).off + 4, none⟩ = some (.int .i64 (rd_T105 xs i).f4) := by
 obtain ⟨ad, c, e, _, hK, hc0⟩ := Kd.C_get h z105 i h0 h1; have hc : ∀ j u, c[j]? = some u → w.cell? (ad.add (i.toNat * 5 + j)) = some u := hc0; obtain rfl := k105_open hK
 exact ⟨ad, e, hc 0 _ rfl, by rw [← add_field _ _ 1 (by omega)]; exact hc 1 _ rfl, by rw [← add_field _ _ 2 (by omega)]; exact hc 2 _ rfl, by rw [← add_field _ _ 3 (by omega)]; exact hc 3 _ rfl, by rw [← add_field _ _ 4 (by omega)]; exact hc 4 _ rfl⟩
/-! #### struct type 106 -/
structure S106 where
 f0 : Int
 f1 : Int
 f2 : Int
 f3 : Int
 f4 : Int
def z106 : S106 := ⟨(0 : Int), (0 : Int), (0 : Int), (0 : Int), (0 : Int)⟩
def k106 : Kd S106 := Kd.iso (Kd.pair (Kd.int .i64) (Kd.pair (Kd.int .i64) (Kd.pair (Kd.int .i64) (Kd.pair (Kd.int .i64) (Kd.int .i64))))) (fun x : S106 => (x.f0, x.f1, x.f2, x.f3, x.f4))
theorem k106_open {w : World} {x : S106} {cs : List Value} (h : k106.K w x cs) : cs = [.int .i64 x.f0, .int .i64 x.f1, .int .i64 x.f2, .int .i64 x.f3, .int .i64 x.f4] := by
 obtain ⟨_, _, rfl, rfl, ⟨_, _, rfl, rfl, ⟨_, _, rfl, rfl, ⟨_, _, rfl, rfl, rfl⟩⟩⟩⟩ := h
 exact rfl
theorem k106_openM {w : World} {base : Nat} {ok : Nat → Prop} {x : S106} {cs : List Value} (h : k106.M w base ok x cs) : cs = [.int .i64 x.f0, .int .i64 x.f1, .int .i64 x.f2, .int .i64 x.f3, .int .i64 x.f4] := by
 obtain ⟨_, _, rfl, rfl, ⟨_, _, rfl, rfl, ⟨_, _, rfl, rfl, ⟨_, _, rfl, rfl, rfl⟩⟩⟩⟩ := h
 exact rfl
theorem k106_mk (w : World) (x : S106)  : k106.K w x [.int .i64 x.f0, .int .i64 x.f1, .int .i64 x.f2, .int .i64 x.f3, .int .i64 x.f4] := ⟨[.int .i64 x.f0], [.int .i64 x.f1, .int .i64 x.f2, .int .i64 x.f3, .int .i64 x.f4], rfl, rfl, ⟨[.int .i64 x.f1], [.int .i64 x.f2, .int .i64 x.f3, .int .i64 x.f4], rfl, rfl, ⟨[.int .i64 x.f2], [.int .i64 x.f3, .int .i64 x.f4], rfl, rfl, ⟨[.int .i64 x.f3], [.int .i64 x.f4], rfl, rfl, rfl⟩⟩⟩⟩
theorem k106_mkM (w : World) (base : Nat) (ok : Nat → Prop) (x : S106)  : k106.M w base ok x [.int .i64 x.f0, .int .i64 x.f1, .int .i64 x.f2, .int .i64 x.f3, .int .i64 x.f4] := ⟨[.int .i64 x.f0], [.int .i64 x.f1, .int .i64 x.f2, .int .i64 x.f3, .int .i64 x.f4], rfl, rfl, ⟨[.int .i64 x.f1], [.int .i64 x.f2, .int .i64 x.f3, .int .i64 x.f4], rfl, rfl, ⟨[.int .i64 x.f2], [.int .i64 x.f3, .int .i64 x.f4], rfl, rfl, ⟨[.int .i64 x.f3], [.int .i64 x.f4], rfl, rfl, rfl⟩⟩⟩⟩
theorem k106_mkF (W : World) (ok : Nat → Prop) (x : S106) : Kd.FK k106 W ok x [.int .i64 x.f0, .int .i64 x.f1, .int .i64 x.f2, .int .i64 x.f3, .int .i64 x.f4] := fun W2 _ => k106_mk W2 x
def rd_T106 (xs : List S106) (i : Int) : S106 := xs.getD i.toNat z106
theorem at_T106 {w : World} {A : Option Addr} {n : Nat} {xs : List S106} (h : Kd.C k106 w A n xs) (i : Int) (h0 : 0 ≤ i) (h1 : i < n) : ∃ ad , A = some ad ∧ w.cell? (ad.add (i.toNat * 5)) = some (.int .i64 (rd_T106 xs i).f0) ∧ w.cell? ⟨(ad.add (i.toNat * 5)).block, (ad.add (i.toNat * 5)).off + 1, none⟩ = some (.int .i64 (rd_T106 xs i).f1) ∧ w.cell? ⟨(ad.add (i.toNat * 5)).block, (ad.add (i.toNat * 5)).off + 2, none⟩ = some (.int .i64 (rd_T106 xs i).f2) ∧ w.cell? ⟨(ad.add (i.toNat * 5)).block, (ad.add (i.toNat * 5)).off + 3, none⟩ = some (.int .i64 (rd_T106 xs i).f3) ∧ w.cell? ⟨(ad.add (i.toNat * 5)).block, (ad.add (i.toNat * 5)).off + 4, none⟩ = some (.int .i64 (rd_T106 xs i).f4) := by
 obtain ⟨ad, c, e, _, hK, hc0⟩ := Kd.C_get h z106 i h0 h1; have hc : ∀ j u, c[j]? = some u → w.cell? (ad.add (i.toNat * 5 + j)) = some u := hc0; obtain rfl := k106_open hK
 exact ⟨ad, e, hc 0 _ rfl, by rw [← add_field _ _ 1 (by omega)]; exact hc 1 _ rfl, by rw [← add_field _ _ 2 (by omega)]; exact hc 2 _ rfl, by rw [← add_field _ _ 3 (by omega)]; exact hc 3 _ rfl, by rw [← add_field _ _ 4 (by omega)]; exact hc 4 _ rfl⟩
def rd_L4 (xs : List (List Int)) (i : Int) : (List Int) := xs.getD i.toNat ([] : List Int)
theorem at_L4 {w : World} {A : Option Addr} {n : Nat} {xs : List (List Int)} (h : Kd.C (Kd.slice 43 (Kd.int .u64)) w A n xs) (i : Int) (h0 : 0 ≤ i) (h1 : i < n) : ∃ ad A0 c0, A = some ad ∧ w.cell? (ad.add i.toNat) = some (.slice A0 (rd_L4 xs i).length c0) ∧ (rd_L4 xs i).length ≤ c0 ∧ (Kd.int .u64).C w A0 (rd_L4 xs i).length (rd_L4 xs i) := by
 obtain ⟨ad, c, e, _, hK, hc0⟩ := Kd.C_get h ([] : List Int) i h0 h1; have hc : ∀ j u, c[j]? = some u → w.cell? (ad.add (i.toNat * 1 + j)) = some u := hc0; obtain ⟨A0, c0, rfl, l0, g0⟩ := hK
 exact ⟨ad, A0, c0, e, by have hq := hc 0 _ rfl; rwa [Nat.mul_one, Nat.add_zero] at hq, l0, g0⟩
def rd_L5 (xs : List (List S105)) (i : Int) : (List S105) := xs.getD i.toNat ([] : List S105)
theorem at_L5 {w : World} {A : Option Addr} {n : Nat} {xs : List (List S105)} (h : Kd.C (Kd.slice 105 k105) w A n xs) (i : Int) (h0 : 0 ≤ i) (h1 : i < n) : ∃ ad A0 c0, A = some ad ∧ w.cell? (ad.add i.toNat) = some (.slice A0 (rd_L5 xs i).length c0) ∧ (rd_L5 xs i).length ≤ c0 ∧ k105.C w A0 (rd_L5 xs i).length (rd_L5 xs i) := by
 obtain ⟨ad, c, e, _, hK, hc0⟩ := Kd.C_get h ([] : List S105) i h0 h1; have hc : ∀ j u, c[j]? = some u → w.cell? (ad.add (i.toNat * 1 + j)) = some u := hc0; obtain ⟨A0, c0, rfl, l0, g0⟩ := hK
 exact ⟨ad, A0, c0, e, by have hq := hc 0 _ rfl; rwa [Nat.mul_one, Nat.add_zero] at hq, l0, g0⟩
/-! #### struct type 24 -/
structure S24 where
 f0 : Int
 f1 : Int
 f2 : Int
 f3 : Int
 f4 : Int
 f5 : (List S105)
def z24 : S24 := ⟨(0 : Int), (0 : Int), (0 : Int), (0 : Int), (0 : Int), ([] : List S105)⟩
def k24 : Kd S24 := Kd.iso (Kd.pair (Kd.int .i64) (Kd.pair (Kd.int .i64) (Kd.pair (Kd.int .i64) (Kd.pair (Kd.int .i64) (Kd.pair (Kd.int .i64) (Kd.slice 105 k105)))))) (fun x : S24 => (x.f0, x.f1, x.f2, x.f3, x.f4, x.f5))
theorem k24_open {w : World} {x : S24} {cs : List Value} (h : k24.K w x cs) : ∃ A5 c5, cs = [.int .i64 x.f0, .int .i64 x.f1, .int .i64 x.f2, .int .i64 x.f3, .int .i64 x.f4, .slice A5 x.f5.length c5] ∧ x.f5.length ≤ c5 ∧ k105.C w A5 x.f5.length x.f5 := by
 obtain ⟨_, _, rfl, rfl, ⟨_, _, rfl, rfl, ⟨_, _, rfl, rfl, ⟨_, _, rfl, rfl, ⟨_, _, rfl, rfl, ⟨A5, c5, rfl, l5, g5⟩⟩⟩⟩⟩⟩ := h
 exact ⟨A5, c5, rfl, l5, g5⟩
theorem k24_openM {w : World} {base : Nat} {ok : Nat → Prop} {x : S24} {cs : List Value} (h : k24.M w base ok x cs) : ∃ v5, cs = [.int .i64 x.f0, .int .i64 x.f1, .int .i64 x.f2, .int .i64 x.f3, .int .i64 x.f4, v5] ∧ k105.R 105 w base ok v5 x.f5 := by
 obtain ⟨_, _, rfl, rfl, ⟨_, _, rfl, rfl, ⟨_, _, rfl, rfl, ⟨_, _, rfl, rfl, ⟨_, _, rfl, rfl, ⟨v5, rfl, g5⟩⟩⟩⟩⟩⟩ := h
 exact ⟨v5, rfl, g5⟩
theorem k24_mk (w : World) (x : S24) {A5 : Option Addr} {c5 : Nat} (l5 : x.f5.length ≤ c5) (g5 : k105.C w A5 x.f5.length x.f5) : k24.K w x [.int .i64 x.f0, .int .i64 x.f1, .int .i64 x.f2, .int .i64 x.f3, .int .i64 x.f4, .slice A5 x.f5.length c5] := ⟨[.int .i64 x.f0], [.int .i64 x.f1, .int .i64 x.f2, .int .i64 x.f3, .int .i64 x.f4, .slice A5 x.f5.length c5], rfl, rfl, ⟨[.int .i64 x.f1], [.int .i64 x.f2, .int .i64 x.f3, .int .i64 x.f4, .slice A5 x.f5.length c5], rfl, rfl, ⟨[.int .i64 x.f2], [.int .i64 x.f3, .int .i64 x.f4, .slice A5 x.f5.length c5], rfl, rfl, ⟨[.int .i64 x.f3], [.int .i64 x.f4, .slice A5 x.f5.length c5], rfl, rfl, ⟨[.int .i64 x.f4], [.slice A5 x.f5.length c5], rfl, rfl, ⟨A5, c5, rfl, l5, g5⟩⟩⟩⟩⟩⟩
theorem k24_mkM (w : World) (base : Nat) (ok : Nat → Prop) (x : S24) {v5 : Value} (g5 : k105.R 105 w base ok v5 x.f5) : k24.M w base ok x [.int .i64 x.f0, .int .i64 x.f1, .int .i64 x.f2, .int .i64 x.f3, .int .i64 x.f4, v5] := ⟨[.int .i64 x.f0], [.int .i64 x.f1, .int .i64 x.f2, .int .i64 x.f3, .int .i64 x.f4, v5], rfl, rfl, ⟨[.int .i64 x.f1], [.int .i64 x.f2, .int .i64 x.f3, .int .i64 x.f4, v5], rfl, rfl, ⟨[.int .i64 x.f2], [.int .i64 x.f3, .int .i64 x.f4, v5], rfl, rfl, ⟨[.int .i64 x.f3], [.int .i64 x.f4, v5], rfl, rfl, ⟨[.int .i64 x.f4], [v5], rfl, rfl, ⟨v5, rfl, g5⟩⟩⟩⟩⟩⟩
theorem k24_openF {W : World} {ok : Nat → Prop} {x : S24} {cs : List Value} (h : Kd.FK k24 W ok x cs) : ∃ A5 c5, cs = [.int .i64 x.f0, .int .i64 x.f1, .int .i64 x.f2, .int .i64 x.f3, .int .i64 x.f4, .slice A5 x.f5.length c5] ∧ x.f5.length ≤ c5 ∧ Kd.F k105 W ok A5 x.f5.length x.f5 := by
 obtain ⟨A5, c5, rfl, l5, _⟩ := k24_open (Kd.FK_now h)
 exact ⟨A5, c5, rfl, l5, (fun W' hW => by obtain ⟨A5_, c5_, he, l5_, g5_⟩ := k24_open (h W' hW); injection (Option.some.inj (show some (Value.slice A5 x.f5.length c5) = some (Value.slice A5_ x.f5.length c5_) from congrArg (fun l => l[5]?) he)) with ha_ _ _; rw [ha_]; exact g5_)⟩
theorem k24_mkF (W : World) (ok : Nat → Prop) (x : S24) {A5 : Option Addr} {c5 : Nat} (l5 : x.f5.length ≤ c5) (g5 : Kd.F k105 W ok A5 x.f5.length x.f5) : Kd.FK k24 W ok x [.int .i64 x.f0, .int .i64 x.f1, .int .i64 x.f2, .int .i64 x.f3, .int .i64 x.f4, .slice A5 x.f5.length c5] := fun W2 hW => k24_mk W2 x l5 (g5 W2 hW)
def rd_T24 (xs : List S24) (i : Int) : S24 := xs.getD i.toNat z24
theorem at_T24 {w : World} {A : Option Addr} {n : Nat} {xs : List S24} (h : Kd.C k24 w A n xs) (i : Int) (h0 : 0 ≤ i) (h1 : i < n) : ∃ ad A5 c5, A = some ad ∧ w.cell? (ad.add (i.toNat * 6)) = some (.int .i64 (rd_T24 xs i).f0) ∧ w.cell? ⟨(ad.add (i.toNat * 6)).block, (ad.add (i.toNat * 6)).off + 1, none⟩ = some (.int .i64 (rd_T24 xs i).f1) ∧ w.cell? ⟨(ad.add (i.toNat * 6)).block, (ad.add (i.toNat * 6)).off + 2, none⟩ = some (.int .i64 (rd_T24 xs i).f2) ∧ w.cell? ⟨(ad.add (i.toNat * 6)).block, (ad.add (i.toNat * 6)).off + 3, none⟩ = some (.int .i64 (rd_T24 xs i).f3) ∧ w.cell? ⟨(ad.add (i.toNat * 6)).block, (ad.add (i.toNat * 6)).off + 4, none⟩ = some (.int .i64 (rd_T24 xs i).f4) ∧ w.cell? ⟨(ad.add (i.toNat * 6)).block, (ad.add (i.toNat * 6)).off + 5, none⟩ = some (.slice A5 (rd_T24 xs i).f5.length c5) ∧ (rd_T24 xs i).f5.length ≤ c5 ∧ k105.C w A5 (rd_T24 xs i).f5.length (rd_T24 xs i).f5 := by
 obtain ⟨ad, c, e, _, hK, hc0⟩ := Kd.C_get h z24 i h0 h1; have hc : ∀ j u, c[j]? = some u → w.cell? (ad.add (i.toNat * 6 + j)) = some u := hc0; obtain ⟨A5, c5, rfl, l5, g5⟩ := k24_open hK
 exact ⟨ad, A5, c5, e, hc 0 _ rfl, by rw [← add_field _ _ 1 (by omega)]; exact hc 1 _ rfl, by rw [← add_field _ _ 2 (by omega)]; exact hc 2 _ rfl, by rw [← add_field _ _ 3 (by omega)]; exact hc 3 _ rfl, by rw [← add_field _ _ 4 (by omega)]; exact hc 4 _ rfl, by rw [← add_field _ _ 5 (by omega)]; exact hc 5 _ rfl, l5, g5⟩
def rd_L7 (xs : List (List (List Int))) (i : Int) : (List (List Int)) := xs.getD i.toNat ([] : List (List Int))
theorem at_L7 {w : World} {A : Option Addr} {n : Nat} {xs : List (List (List Int))} (h : Kd.C (Kd.slice 68 (Kd.slice 43 (Kd.int .u64))) w A n xs) (i : Int) (h0 : 0 ≤ i) (h1 : i < n) : ∃ ad A0 c0, A = some ad ∧ w.cell? (ad.add i.toNat) = some (.slice A0 (rd_L7 xs i).length c0) ∧ (rd_L7 xs i).length ≤ c0 ∧ (Kd.slice 43 (Kd.int .u64)).C w A0 (rd_L7 xs i).length (rd_L7 xs i) := by
 obtain ⟨ad, c, e, _, hK, hc0⟩ := Kd.C_get h ([] : List (List Int)) i h0 h1; have hc : ∀ j u, c[j]? = some u → w.cell? (ad.add (i.toNat * 1 + j)) = some u := hc0; obtain ⟨A0, c0, rfl, l0, g0⟩ := hK
 exact ⟨ad, A0, c0, e, by have hq := hc 0 _ rfl; rwa [Nat.mul_one, Nat.add_zero] at hq, l0, g0⟩
end Go.Proofs.Ythiiodgpdoljoaa.PLw
/- The arguments' own readings for this seat: a system of gates. -/
namespace Go.Proofs.Ythiiodgpdoljoaa.Rd
open Go.RowKit Go.ChangeShapes Go.WideShapes Go.Deep Go.Proofs.YthiiodgpdoljoaaW.PrintWords Go.Proofs.Ythiiodgpdoljoaa.PLw
set_option linter.unusedVariables false
instance : Inhabited S105 := ⟨z105⟩
def I64 (n : Int) : Prop := (Lit.int .i64 n).wf = true
theorem rdInt : Rd Try.prog 3 (Kd.int .i64) (fun n => (Lit.int .i64 n).wf = true) := Rd.int Try.underlying3
def wfGate (g : S105) : Prop := (Lit.int .i64 g.f0).wf = true ∧ (Lit.int .i64 g.f1).wf = true ∧ (Lit.int .i64 g.f2).wf = true ∧ (Lit.int .i64 g.f3).wf = true ∧ (Lit.int .i64 g.f4).wf = true
theorem rdGate : Rd Try.prog 105 k105 (fun g => (Lit.int .i64 g.f0).wf = true ∧ (Lit.int .i64 g.f1).wf = true ∧ (Lit.int .i64 g.f2).wf = true ∧ (Lit.int .i64 g.f3).wf = true ∧ (Lit.int .i64 g.f4).wf = true) :=
  Rd.struct Try.underlying105 (by kernel_rfl) (Sq.cons rfl (by kernel_rfl) rdInt (Sq.cons rfl (by kernel_rfl) rdInt (Sq.cons rfl (by kernel_rfl) rdInt (Sq.cons rfl (by kernel_rfl) rdInt (Sq.one rfl (by kernel_rfl) rdInt)))))
    (fun x : S105 => (x.f0, x.f1, x.f2, x.f3, x.f4)) (fun p => ⟨p.1, p.2.1, p.2.2.1, p.2.2.2.1, p.2.2.2.2⟩) (fun _ => rfl)
theorem rdGates : Rd Try.prog 22 (Kd.slice 105 k105) (fun l => l.length ≤ maxLen ∧ ∀ a ∈ l, wfGate a) := Rd.slice Try.underlying22 (by kernel_rfl) rdGate
set_option maxRecDepth 100000 in
/-- A system that came in. -/
theorem argSystem {H : Type} {enc : TypeId × Value → H} {w : World} {r : Reach} {base b0 : Nat} {spare : Nat → Bool} {held : Bool} {v : Value} {x : DataW H} {p : List MemPlace} (hv : Value.okWide Try.prog w r b0 24 v) (h : DataW.Trod enc Try.prog w base spare held 24 v x p) :
    ∃ (s0 s1 s2 s3 s4 : Int) (A : Option Addr) (c : Nat) (l : List S105), v = .agg #[.int .i64 s0, .int .i64 s1, .int .i64 s2, .int .i64 s3, .int .i64 s4, .slice A l.length c] ∧ Kd.C k105 w A l.length l ∧ l.length ≤ c ∧
      I64 s0 ∧ I64 s1 ∧ I64 s2 ∧ I64 s3 ∧ I64 s4 ∧ l.length ≤ maxLen := by
  have rdSystem := Rd.struct Try.underlying24 (by kernel_rfl) (Sq.cons rfl (by kernel_rfl) rdInt (Sq.cons rfl (by kernel_rfl) rdInt (Sq.cons rfl (by kernel_rfl) rdInt (Sq.cons rfl (by kernel_rfl) rdInt (Sq.cons rfl (by kernel_rfl) rdInt (Sq.one rfl (by kernel_rfl) rdGates)))))) id id (fun _ => rfl)
  obtain ⟨cs, a, rfl, hK, h0, h1, h2, h3, h4, h5⟩ := rdSystem.argStruct Try.underlying24 hv h
  obtain ⟨_, _, rfl, rfl, ⟨_, _, rfl, rfl, ⟨_, _, rfl, rfl, ⟨_, _, rfl, rfl, ⟨_, _, rfl, rfl, ⟨A, c, rfl, hl, hC⟩⟩⟩⟩⟩⟩ := hK
  exact ⟨_, _, _, _, _, A, c, _, rfl, hC, hl, h0, h1, h2, h3, h4, h5.1⟩
end Go.Proofs.Ythiiodgpdoljoaa.Rd
/- The arguments' own readings for this seat: columns of words. -/
namespace Go.Proofs.Ythiiodgpdoljoaa.Rd
open Go.RowKit Go.ChangeShapes Go.WideShapes Go.Deep Go.Proofs.YthiiodgpdoljoaaW.PrintWords Go.Proofs.Ythiiodgpdoljoaa.PLw
set_option linter.unusedVariables false
theorem rdWord : Rd Try.prog 43 (Kd.int .u64) (fun n => (Lit.int .u64 n).wf = true) := Rd.int Try.underlying43
theorem rdCol : Rd Try.prog 68 (Kd.slice 43 (Kd.int .u64)) (fun l => l.length ≤ maxLen ∧ ∀ a ∈ l, (Lit.int .u64 a).wf = true) := Rd.slice Try.underlying68 (by kernel_rfl) rdWord
theorem rdCols : Rd Try.prog 56 (Kd.slice 68 (Kd.slice 43 (Kd.int .u64))) (fun l => l.length ≤ maxLen ∧ ∀ a ∈ l, (a.length ≤ maxLen ∧ ∀ b ∈ a, (Lit.int .u64 b).wf = true)) := Rd.slice Try.underlying56 (by kernel_rfl) rdCol
theorem word_range {n : Int} (h : (Lit.int .u64 n).wf = true) : 0 ≤ n ∧ n < 2 ^ 64 := by
  simp [Lit.wf, IntKind.min, IntKind.max, IntKind.signed, IntKind.bits] at h
  omega
set_option maxRecDepth 100000 in
/-- Columns that came in. -/
theorem argCols {H : Type} {enc : TypeId × Value → H} {w : World} {r : Reach} {base b0 : Nat} {spare : Nat → Bool} {held : Bool} {v : Value} {x : DataW H} {p : List MemPlace} (hv : Value.okWide Try.prog w r b0 56 v) (h : DataW.Trod enc Try.prog w base spare held 56 v x p) :
    ∃ (A : Option Addr) (l : List (List Int)) (c : Nat), v = .slice A l.length c ∧ l.length ≤ c ∧ Kd.C (Kd.slice 43 (Kd.int .u64)) w A l.length l ∧ ∀ c ∈ l, ∀ y ∈ c, 0 ≤ y ∧ y < 2 ^ 64 := by
  obtain ⟨A, l, c, hv, hl, hC, _, hw⟩ := rdCols.argSlice Try.underlying56 hv h
  exact ⟨A, l, c, hv, hl, hC, fun c hc y hy => word_range ((hw c hc).2 y hy)⟩
end Go.Proofs.Ythiiodgpdoljoaa.Rd
namespace Go.Proofs.Ythiiodgpdoljoaa.Bit
open Go
set_option linter.unusedVariables false
set_option linter.unusedSimpArgs false
/-- The bits of a word, and the word that has bits. -/
def bitsOf (n x : Nat) : List Bool := (List.range n).map x.testBit
def num : List Bool → Nat
  | [] => 0
  | b :: bs => 2 * num bs + b.toNat
theorem num_lt : ∀ bs : List Bool, num bs < 2 ^ bs.length
  | [] => by simp [num]
  | b :: bs => by
    have h := num_lt bs
    have hb : b.toNat ≤ 1 := Bool.toNat_le b
    simp only [num, List.length_cons, Nat.pow_succ]
    omega
theorem num_testBit : ∀ (bs : List Bool) (i : Nat), (num bs).testBit i = bs.getD i false
  | [], i => by simp [num]
  | b :: bs, 0 => by
    cases b <;> simp [num, Nat.testBit_zero] <;> omega
  | b :: bs, i + 1 => by
    have h := num_testBit bs i
    have hb : (2 * num bs + b.toNat) / 2 = num bs := by cases b <;> simp <;> omega
    simp only [num, Nat.testBit_succ, hb, List.getD_cons_succ]
    exact h
theorem bitsOf_getD (n x i : Nat) : (bitsOf n x).getD i false = (decide (i < n) && x.testBit i) := by
  unfold bitsOf
  by_cases h : i < n
  · simp [List.getD_eq_getElem?_getD, h]
  · simp [List.getD_eq_getElem?_getD, h]
theorem num_eq {bs : List Bool} {x : Nat} (h : ∀ i, bs.getD i false = x.testBit i) : num bs = x :=
  Nat.eq_of_testBit_eq fun i => by rw [num_testBit, h]
theorem testBit_big {x n i : Nat} (h : x < 2 ^ n) (hi : n ≤ i) : x.testBit i = false :=
  Nat.testBit_lt_two_pow (Nat.lt_of_lt_of_le h (Nat.pow_le_pow_right (by decide) hi))
/-! The carries of a sum. -/
def car (x y : Nat) : Nat → Bool
  | 0 => false
  | i + 1 => (x.testBit i && y.testBit i) || (car x y i && (x.testBit i || y.testBit i))
theorem car_eq (x y : Nat) : ∀ i, car x y i = decide (2 ^ i ≤ x % 2 ^ i + y % 2 ^ i)
  | 0 => by simp [car, Nat.mod_one]
  | i + 1 => by
    have hx := Nat.mod_pow_succ (b := 2) (x := x) (k := i)
    have hy := Nat.mod_pow_succ (b := 2) (x := y) (k := i)
    have bx : x.testBit i = decide (x / 2 ^ i % 2 = 1) := Nat.testBit_eq_decide_div_mod_eq
    have by_ : y.testBit i = decide (y / 2 ^ i % 2 = 1) := Nat.testBit_eq_decide_div_mod_eq
    have h1 := Nat.mod_lt x (Nat.two_pow_pos i)
    have h2 := Nat.mod_lt y (Nat.two_pow_pos i)
    rw [car, car_eq x y i, bx, by_, hx, hy, Nat.pow_succ]
    have m1 : x / 2 ^ i % 2 = 0 ∨ x / 2 ^ i % 2 = 1 := by omega
    have m2 : y / 2 ^ i % 2 = 0 ∨ y / 2 ^ i % 2 = 1 := by omega
    generalize x / 2 ^ i % 2 = p at *
    generalize y / 2 ^ i % 2 = q at *
    generalize x % 2 ^ i = a at *
    generalize y % 2 ^ i = b at *
    generalize 2 ^ i = c at *
    rcases m1 with rfl | rfl <;> rcases m2 with rfl | rfl <;> simp <;> omega
theorem add_testBit (x y i : Nat) : (x + y).testBit i = ((x.testBit i != y.testBit i) != car x y i) := by
  rw [car_eq, Nat.testBit_eq_decide_div_mod_eq, Nat.testBit_eq_decide_div_mod_eq, Nat.testBit_eq_decide_div_mod_eq]
  have h1 := Nat.mod_lt x (Nat.two_pow_pos i)
  have h2 := Nat.mod_lt y (Nat.two_pow_pos i)
  have dx := Nat.div_add_mod x (2 ^ i)
  have dy := Nat.div_add_mod y (2 ^ i)
  have e : (x + y) / 2 ^ i = x / 2 ^ i + y / 2 ^ i + (x % 2 ^ i + y % 2 ^ i) / 2 ^ i := Nat.add_div (Nat.two_pow_pos i) |>.trans (by
    by_cases h : 2 ^ i ≤ x % 2 ^ i + y % 2 ^ i
    · rw [if_pos h]
      have : (x % 2 ^ i + y % 2 ^ i) / 2 ^ i = 1 := Nat.div_eq_of_lt_le (by omega) (by omega)
      omega
    · rw [if_neg h]
      have : (x % 2 ^ i + y % 2 ^ i) / 2 ^ i = 0 := Nat.div_eq_of_lt (by omega)
      omega)
  rw [e]
  by_cases h : 2 ^ i ≤ x % 2 ^ i + y % 2 ^ i
  · have h3 : (x % 2 ^ i + y % 2 ^ i) / 2 ^ i = 1 := Nat.div_eq_of_lt_le (by omega) (by omega)
    rw [h3]
    have m1 : x / 2 ^ i % 2 = 0 ∨ x / 2 ^ i % 2 = 1 := by omega
    have m2 : y / 2 ^ i % 2 = 0 ∨ y / 2 ^ i % 2 = 1 := by omega
    have m3 : (x / 2 ^ i + y / 2 ^ i + 1) % 2 = (x / 2 ^ i % 2 + y / 2 ^ i % 2 + 1) % 2 := by omega
    rw [m3]
    rcases m1 with m1 | m1 <;> rcases m2 with m2 | m2 <;> simp [m1, m2, h]
  · have h3 : (x % 2 ^ i + y % 2 ^ i) / 2 ^ i = 0 := Nat.div_eq_of_lt (by omega)
    rw [h3]
    have m1 : x / 2 ^ i % 2 = 0 ∨ x / 2 ^ i % 2 = 1 := by omega
    have m2 : y / 2 ^ i % 2 = 0 ∨ y / 2 ^ i % 2 = 1 := by omega
    have m3 : (x / 2 ^ i + y / 2 ^ i + 0) % 2 = (x / 2 ^ i % 2 + y / 2 ^ i % 2) % 2 := by omega
    rw [m3]
    rcases m1 with m1 | m1 <;> rcases m2 with m2 | m2 <;> simp [m1, m2, h]
end Go.Proofs.Ythiiodgpdoljoaa.Bit
namespace Go.Proofs.Ythiiodgpdoljoaa.Bit
open Go
set_option linter.unusedVariables false
set_option linter.unusedSimpArgs false
theorem range_getD (n : Nat) (f : Nat → Bool) (i : Nat) : ((List.range n).map f).getD i false = (decide (i < n) && f i) := by
  by_cases h : i < n
  · simp [List.getD_eq_getElem?_getD, h]
  · simp [List.getD_eq_getElem?_getD, h]
theorem made_xor {x y n : Nat} (hx : x < 2 ^ n) (hy : y < 2 ^ n) : num ((List.range n).map fun i => x.testBit i != y.testBit i) = x ^^^ y :=
  num_eq fun i => by
    rw [range_getD, Nat.testBit_xor]
    by_cases h : i < n
    · simp [h, bne]
    · simp [h, testBit_big hx (Nat.le_of_not_lt h), testBit_big hy (Nat.le_of_not_lt h)]
theorem made_and {x y n : Nat} (hx : x < 2 ^ n) (hy : y < 2 ^ n) : num ((List.range n).map fun i => x.testBit i && y.testBit i) = x &&& y :=
  num_eq fun i => by
    rw [range_getD, Nat.testBit_and]
    by_cases h : i < n
    · simp [h]
    · simp [h, testBit_big hx (Nat.le_of_not_lt h)]
theorem made_not {x n : Nat} (hx : x < 2 ^ n) : num ((List.range n).map fun i => !x.testBit i) = x ^^^ (2 ^ n - 1) :=
  num_eq fun i => by
    rw [range_getD, Nat.testBit_xor, Nat.testBit_two_pow_sub_one]
    by_cases h : i < n
    · simp [h]
    · simp [h, testBit_big hx (Nat.le_of_not_lt h)]
theorem made_sum {x y n : Nat} : num ((List.range n).map fun i => (x.testBit i != y.testBit i) != car x y i) = (x + y) &&& (2 ^ n - 1) :=
  num_eq fun i => by
    rw [range_getD, Nat.testBit_and, Nat.testBit_two_pow_sub_one, add_testBit, Bool.and_comm]
theorem car_top {x y n : Nat} (hx : x < 2 ^ n) (hy : y < 2 ^ n) : ∀ j, car x y (n + j + 1) = false
  | 0 => by
    show car x y (n + 1) = false
    rw [car_eq]
    have h1 := Nat.mod_le x (2 ^ (n + 1))
    have h2 := Nat.mod_le y (2 ^ (n + 1))
    have h3 : 2 ^ (n + 1) = 2 ^ n * 2 := Nat.pow_succ _ _
    exact decide_eq_false (by omega)
  | j + 1 => by
    rw [car, testBit_big hx (by omega), testBit_big hy (by omega)]
    simp
theorem made_carry {x y n : Nat} (hx : x < 2 ^ n) (hy : y < 2 ^ n) : num ((List.range n).map fun i => car x y (i + 1)) = ((x + y) ^^^ x ^^^ y) / 2 :=
  num_eq fun i => by
    rw [range_getD, ← Nat.testBit_succ, Nat.testBit_xor, Nat.testBit_xor, add_testBit]
    by_cases h : i < n
    · simp only [h, decide_true, Bool.true_and]
      cases x.testBit (i + 1) <;> cases y.testBit (i + 1) <;> cases car x y (i + 1) <;> rfl
    · obtain ⟨j, rfl⟩ : ∃ j, i = n + j := ⟨i - n, by omega⟩
      simp [h, testBit_big hx (show n ≤ n + j + 1 by omega), testBit_big hy (show n ≤ n + j + 1 by omega), car_top hx hy j]
theorem made_left {x n s : Nat} : num ((List.range n).map fun i => decide (s ≤ i) && x.testBit (i - s)) = (x <<< s) &&& (2 ^ n - 1) :=
  num_eq fun i => by
    rw [range_getD, Nat.testBit_and, Nat.testBit_two_pow_sub_one, Nat.testBit_shiftLeft, Bool.and_comm]
theorem made_right {x n s : Nat} (hx : x < 2 ^ n) : num ((List.range n).map fun i => decide (i + s < n) && x.testBit (i + s)) = x >>> s :=
  num_eq fun i => by
    rw [range_getD, Nat.testBit_shiftRight, Nat.add_comm s i]
    by_cases h : i + s < n
    · simp [h, show i < n by omega]
    · simp [h, testBit_big hx (Nat.le_of_not_lt h)]
theorem made_round {x n s : Nat} (hx : x < 2 ^ n) (hs : s < n) : num ((List.range n).map fun i => x.testBit ((i + (n - s)) % n)) = ((x <<< s) ||| (x >>> (n - s))) &&& (2 ^ n - 1) :=
  num_eq fun i => by
    rw [range_getD, Nat.testBit_and, Nat.testBit_two_pow_sub_one, Nat.testBit_or, Nat.testBit_shiftLeft, Nat.testBit_shiftRight]
    by_cases h : i < n
    · by_cases h2 : s ≤ i
      · have e : (i + (n - s)) % n = i - s := by
          rw [show i + (n - s) = (i - s) + n by omega, Nat.add_mod_right, Nat.mod_eq_of_lt (by omega)]
        rw [e, testBit_big hx (show n ≤ n - s + i by omega)]
        simp [h, h2]
      · have e : (i + (n - s)) % n = n - s + i := by rw [Nat.mod_eq_of_lt (by omega)]; omega
        rw [e]
        simp [h, h2]
    · simp [h]
end Go.Proofs.Ythiiodgpdoljoaa.Bit
namespace Go.Proofs.Ythiiodgpdoljoaa.PLw
open Go.RowKit Go.Proofs.YthiiodgpdoljoaaW.PrintWords Go.Proofs.YthiiodgpdoljoaaW.PrintLast Go.Proofs.YthiiodgpdoljoaaW.PrintMore
attribute [local go_sem] max2_int min2_int max_two min_two max_three min_three max_four min_four   -- for this text's walks alone
set_option linter.unusedVariables false
set_option linter.unusedSimpArgs false
/-! ### slices_Clone_uint64_uint64: function 66 -/
def slices_Clone_uint64_uint64.f (l : List Int) : Option (List Int) := if l.length ≤ 1000000 then some l else none
set_option maxHeartbeats 8000000 in
set_option maxRecDepth 100000 in
theorem slices_Clone_uint64_uint64.calls (A : Option Addr) (c : Nat) (l : List Int) (r : List Int) (w : World) (hr : Kd.C (Kd.int .u64) w A l.length l) (hc : l.length ≤ c) (h : slices_Clone_uint64_uint64.f l = some r) :
  Calls Try.prog 66 #[.slice A l.length c] w fun e w' => ∃ v, e = .returned v ∧ Kd.R (Kd.int .u64) 43 w' w.heap.size (fun _ => True) v r ∧ Below w.heap.size w w' := by
 unfold slices_Clone_uint64_uint64.f at h
 by_cases hn : l.length ≤ 1000000
 case neg => rw [if_neg hn] at h; cases h
 rw [if_pos hn] at h
 obtain rfl := Option.some.inj h; clear h; have HB := Aside0.mk (Below.refl w.heap.size w); have HR := Aside0.mk hr; have HN := Aside0.mk hn; clear hn
 cases A with
 | none =>
  have h0 : l = [] := by
   rcases l with _ | ⟨x, xs⟩
   ·rfl
   ·obtain ⟨ad, h, _⟩ := hr.2.2 (by simp)
    cases h
  subst h0; clear hr
  have he : ∀ (n c : Nat) (w : World), (binOp BinOp.eql 68 (Value.slice none n c) (Value.slice none 0 0)).run Try.prog w = .ok (.bool true) w := fun _ _ _ => by first | rfl | (simp [go_sem, binOp, Try.underlying68]; done) | trace_state
  go_enter Try.func66, Try.ntmps66
  go_wp2
  go_ret
  exact ⟨_, rfl, Kd.R_nil _ _ _ _ _, blA HB.out⟩
 | some ad =>
  clear hr
  have he : ∀ (n c : Nat) (w : World), (binOp BinOp.eql 68 (Value.slice (some ad) n c) (Value.slice none 0 0)).run Try.prog w = .ok (.bool false) w := fun _ _ _ => by first | rfl | (simp [go_sem, binOp, Try.underlying68]; done) | trace_state
  go_enter Try.func66, Try.ntmps66
  go_wp2_with (first
   | ((with_reducible refine gate_dst (N := 5) rfl ?_); refine Kd.R_lit (Kd.int .u64) _ 43 ?hg (N := 5) ?hd (xs := ([] : List Int)) (inner := []) (ok := fun _ => True) (okp := fun _ => True) ?hr ?hp (fun _ hk => hk) trivial (Below.refl _ _) (Nat.le_refl _) (by simp) ?_; (case hd => rfl); (case hg => rfl); (case hr => first | (go_simp; done) | (go_simp; rfl)); (case hp => exact Reps.none _ _); intro v1 w1 ho hb hg_ hnew_; clear hg_ hnew_; have HO := Aside0.mk (Kd.R_lower ho (below_size (blA HB.out))); replace HB := Aside0.mk (below_step (blA HB.out) hb); clear ho hb)
   | ((with_reducible refine gate_builtin (b := .append) (xs := #[.tmp 5, .tmp 6]) rfl ?_); at_builtin; refine Kd.R_append_rows (Kd.int .u64) (w0 := w) w.heap.size rfl (.tmp 5) (.tmp 6) 68 43 (.int .u64 0) 8 rfl Try.underlying68 info43 rfl (by decide) (by omega) v1 [] l _ _ _ (fun _ => True) (fun _ => False) rfl rfl ?aO ?aR (fun _ _ h => h) (fun _ h => h.elim) ?aF ?aB ?aS ?aL ?_; (case aO => exact HO.out); (case aR => exact Kd.C_below HR.out (blA HB.out)); (case aF => exact fun _ _ => trivial); (case aB => exact blA HB.out); (case aS => exact below_size (blA HB.out)); (case aL => have := HN.out; simp; omega); intro v2 w2 ho hb hg_ hnew_; clear hg_ hnew_; have HO2 := Aside0.mk ho; replace HB := Aside0.mk hb; clear ho hb))
  go_ret
  exact ⟨_, rfl, HO2.out, blA HB.out⟩
/-! ### slices_Equal_uint64_uint64: function 67 -/
def slices_Equal_uint64_uint64.l0 : Nat → List Int → List Int → Int → Int → Option (Bool)
 | 0, _, _, _, _ => none
 | k + 1, x0, x1, x12, x13 => if x13 < x12 then (if 0 ≤ x13 then (if x13 < (x0.length : Int) then (if x13 < (x1.length : Int) then (if (rd x0 x13) = (rd x1 x13) then (slices_Equal_uint64_uint64.l0 k x0 x1 x12 (wrap64 (x13 + 1))) else (some false)) else (none)) else (none)) else (none)) else (some true)
def slices_Equal_uint64_uint64.f (k : Nat) (l0 : List Int) (l1 : List Int) : Option (Bool) := if (l0.length : Int) = (l1.length : Int) then (slices_Equal_uint64_uint64.l0 k l0 l1 (l0.length : Int) 0) else (some false)
theorem slices_Equal_uint64_uint64.mono_l : ∀ k, (∀ y0 y1 y2 y3, LeO (slices_Equal_uint64_uint64.l0 k y0 y1 y2 y3) (slices_Equal_uint64_uint64.l0 (k + 1) y0 y1 y2 y3))
 | 0 => fun _ _ _ _ r h => by simp [slices_Equal_uint64_uint64.l0] at h
 | k + 1 => by
  have ih0 := slices_Equal_uint64_uint64.mono_l k
  ·intro y0 y1 y2 y3
   unfold slices_Equal_uint64_uint64.l0
   repeat' first
   | (with_reducible exact ih0 _ _ _ _)
   | (with_reducible exact LeO.refl _)
   | (with_reducible exact LeO.none _)
   | (with_reducible refine LeO.ite ?_ ?_)
   | (with_reducible refine LeO.bind ?_ (fun _ => ?_))
   | exact ih0 _ _ _ _
   | exact LeO.none _
   | refine LeO.ite ?_ ?_
   | refine LeO.bind ?_ (fun _ => ?_)
theorem slices_Equal_uint64_uint64.mono : ∀ a0 a1 k, LeO (slices_Equal_uint64_uint64.f k a0 a1) (slices_Equal_uint64_uint64.f (k + 1) a0 a1) := by
 intro a0 a1 k
 have ih0 := slices_Equal_uint64_uint64.mono_l k
 unfold slices_Equal_uint64_uint64.f
 repeat' first
   | (with_reducible exact ih0 _ _ _ _)
   | (with_reducible exact LeO.refl _)
   | (with_reducible exact LeO.none _)
   | (with_reducible refine LeO.ite ?_ ?_)
   | (with_reducible refine LeO.bind ?_ (fun _ => ?_))
   | exact ih0 _ _ _ _
   | exact LeO.none _
   | refine LeO.ite ?_ ?_
   | refine LeO.bind ?_ (fun _ => ?_)
set_option maxHeartbeats 8000000 in
set_option maxRecDepth 100000 in
theorem slices_Equal_uint64_uint64.calls (k : Nat) (A0 : Option Addr) (c0 : Nat) (l0 : List Int) (A1 : Option Addr) (c1 : Nat) (l1 : List Int) (r : Bool) (w : World) (hr0 : Kd.C (Kd.int .u64) w A0 l0.length l0) (hc0 : l0.length ≤ c0) (hr1 : Kd.C (Kd.int .u64) w A1 l1.length l1) (hc1 : l1.length ≤ c1) (h : slices_Equal_uint64_uint64.f k l0 l1 = some r) :
  Calls Try.prog 67 #[.slice A0 l0.length c0, .slice A1 l1.length c1] w fun e w' => e = .returned (.bool r) ∧ Drawn0 w w' := by
 have HR0 := Aside0.mk hr0; have HC0 := Aside0.mk hc0; clear hr0 hc0; have HR1 := Aside0.mk hr1; have HC1 := Aside0.mk hc1; clear hr1 hc1
 have H : (if (l0.length : Int) = (l1.length : Int) then (slices_Equal_uint64_uint64.l0 k l0 l1 (l0.length : Int) 0) else (some false)) = some r := h
 clear h
 by_cases c3 : (l0.length : Int) = (l1.length : Int)
 ·rw [if_pos c3] at H
  have c3b0 : ((l0.length : Int) == (l1.length : Int)) = true := beq_iff_eq.mpr c3; have c3b1 : ((l0.length : Int) != (l1.length : Int)) = false := bne_eq_false_iff_eq.mpr c3
  have c3b2 : (l0.length == l1.length) = true := by first | simpa using c3 | (simp at c3 ⊢; omega)
  clear c3; have H' := Aside0.mk H; clear H
  go_enter Try.func67, Try.ntmps67
  go_wp2
  repeat (go_quiet (fail); try go_wp2)
  go_loopg [13] k (fun kq v13 w' => ∃ (x13_1 : Int), v13 = .int .i64 x13_1 ∧ Aside0 (slices_Equal_uint64_uint64.l0 kq l0 l1 (l0.length : Int) x13_1 = some r) ∧ Aside0 (kq ≤ k) ∧ Drawn0 w w')
  case atStart => exact ⟨(0), eqA, H', ⟨Nat.le_refl _⟩, dwA⟩
  case round =>
   clear H'; (try clear c1); (try clear p2); (try clear c3); (try clear c3b0); (try clear c3b1); (try clear c3b2)
   obtain ⟨x13_1, rfl, HA, HK1, ⟨m1, rfl⟩⟩ := hrel
   cases gk with
   | zero => exact absurd HA.out (by simp [slices_Equal_uint64_uint64.l0])
   | succ k1 =>
    have H := HA.out; clear HA
    simp only [slices_Equal_uint64_uint64.l0] at H
    by_cases c4 : x13_1 < (l0.length : Int)
    ·rw [if_pos c4] at H
     have c4b0 : decide (x13_1 < (l0.length : Int)) = true := decide_eq_true c4; clear c4
     by_cases c5 : 0 ≤ x13_1
     ·rw [if_pos c5] at H
      have c5b0 : decide (0 ≤ x13_1) = true := decide_eq_true c5; clear c5
      by_cases c6 : x13_1 < (l0.length : Int)
      ·rw [if_pos c6] at H
       have c6b0 : decide (x13_1 < (l0.length : Int)) = true := decide_eq_true c6; clear c6
       by_cases c7 : x13_1 < (l1.length : Int)
       ·rw [if_pos c7] at H
        have c7b0 : decide (x13_1 < (l1.length : Int)) = true := decide_eq_true c7; clear c7
        by_cases c8 : (rd l0 x13_1) = (rd l1 x13_1)
        ·rw [if_pos c8] at H
         have c8b0 : ((rd l0 x13_1) == (rd l1 x13_1)) = true := beq_iff_eq.mpr c8; have c8b1 : ((rd l0 x13_1) != (rd l1 x13_1)) = false := bne_eq_false_iff_eq.mpr c8; clear c8; have H' := Aside0.mk H; clear H
         have p154 : 0 ≤ (x13_1 : Int) := of_decide_eq_true (by first | (with_reducible assumption) | assumption)
         have q154 : x13_1 < (l0.length : Int) := of_decide_eq_true (by first | (with_reducible assumption) | assumption)
         obtain ⟨ad154, e154, hx154_0⟩ := Kd.at_int HR0.out x13_1 p154 q154
         cases e154
         replace p154 := eq_true p154; replace q154 := eq_true q154
         have p155 : 0 ≤ (x13_1 : Int) := of_decide_eq_true (by first | (with_reducible assumption) | assumption)
         have q155 : x13_1 < (l1.length : Int) := of_decide_eq_true (by first | (with_reducible assumption) | assumption)
         obtain ⟨ad155, e155, hx155_0⟩ := Kd.at_int HR1.out x13_1 p155 q155
         cases e155
         replace p155 := eq_true p155; replace q155 := eq_true q155
         go_wp2
         repeat (go_quiet (fail); try go_wp2)
         go_roundg k1
         case measure => have := HK1.out; omega
         case rel => exact ⟨(wrap64 (x13_1 + 1)), eqA, H', ⟨by have := HK1.out; omega⟩, dwA⟩
        ·rw [if_neg c8] at H
         have c8b0 : ((rd l0 x13_1) == (rd l1 x13_1)) = false := beq_eq_false_iff_ne.mpr c8; have c8b1 : ((rd l0 x13_1) != (rd l1 x13_1)) = true := bne_iff_ne.mpr c8; obtain rfl := Option.some.inj H
         have p154 : 0 ≤ (x13_1 : Int) := of_decide_eq_true (by first | (with_reducible assumption) | assumption)
         have q154 : x13_1 < (l0.length : Int) := of_decide_eq_true (by first | (with_reducible assumption) | assumption)
         obtain ⟨ad154, e154, hx154_0⟩ := Kd.at_int HR0.out x13_1 p154 q154
         cases e154
         replace p154 := eq_true p154; replace q154 := eq_true q154
         have p155 : 0 ≤ (x13_1 : Int) := of_decide_eq_true (by first | (with_reducible assumption) | assumption)
         have q155 : x13_1 < (l1.length : Int) := of_decide_eq_true (by first | (with_reducible assumption) | assumption)
         obtain ⟨ad155, e155, hx155_0⟩ := Kd.at_int HR1.out x13_1 p155 q155
         cases e155
         replace p155 := eq_true p155; replace q155 := eq_true q155
         go_wp2
         repeat (go_quiet (fail); try go_wp2)
         go_ret
         exact ⟨eqA, dwA⟩
       ·rw [if_neg c7] at H
        exact absurd H (by simp)
      ·rw [if_neg c6] at H
       exact absurd H (by simp)
     ·rw [if_neg c5] at H
      exact absurd H (by simp)
    ·rw [if_neg c4] at H
     have c4b0 : decide (x13_1 < (l0.length : Int)) = false := decide_eq_false c4; clear c4; obtain rfl := Option.some.inj H
     go_wp2
     repeat (go_quiet (fail); try go_wp2)
     go_ret
     exact ⟨eqA, dwA⟩
 ·rw [if_neg c3] at H
  have c3b0 : ((l0.length : Int) == (l1.length : Int)) = false := beq_eq_false_iff_ne.mpr c3; have c3b1 : ((l0.length : Int) != (l1.length : Int)) = true := bne_iff_ne.mpr c3
  have c3b2 : (l0.length == l1.length) = false := by first | simpa using c3 | (simp at c3 ⊢; omega)
  obtain rfl := Option.some.inj H
  go_enter Try.func67, Try.ntmps67
  go_wp2
  repeat (go_quiet (fail); try go_wp2)
  go_ret
  exact ⟨eqA, dwA⟩
/-! ### witness_most: function 97 -/
def witness_most.f (a0 : Int) : Option (Int) := if 0 ≤ a0 ∧ a0 ≤ 5 then some (2 ^ (2 ^ a0.toNat : Nat) - 1) else none
set_option maxHeartbeats 8000000 in
set_option maxRecDepth 100000 in
theorem witness_most.calls (a0 : Int) (r : Int) (w : World) (h : witness_most.f a0 = some r) :
 Calls Try.prog 97 #[.int .i64 a0] w fun e w' => e = .returned (.int .u64 r) ∧ Drawn0 w w' := by
 unfold witness_most.f at h
 by_cases hc : 0 ≤ a0 ∧ a0 ≤ 5
 ·rw [if_pos hc] at h
  obtain rfl := Option.some.inj h
  have hd : a0 = 0 ∨ a0 = 1 ∨ a0 = 2 ∨ a0 = 3 ∨ a0 = 4 ∨ a0 = 5 := by omega
  clear h hc
  rcases hd with rfl | rfl | rfl | rfl | rfl | rfl
  all_goals
   go_enter Try.func97, Try.ntmps97
   go_wp2
   repeat (go_quiet (fail); try go_wp2)
   go_ret
   exact ⟨rfl, dwA⟩
 ·rw [if_neg hc] at h; cases h
end Go.Proofs.Ythiiodgpdoljoaa.PLw
namespace Go.Proofs.Ythiiodgpdoljoaa.PLw
open Go.RowKit Go.Proofs.YthiiodgpdoljoaaW.PrintWords Go.Proofs.YthiiodgpdoljoaaW.PrintLast Go.Proofs.YthiiodgpdoljoaaW.PrintMore
attribute [local go_sem] max2_int min2_int max_two min_two max_three min_three max_four min_four   -- for this text's walks alone
set_option linter.unusedVariables false
set_option linter.unusedSimpArgs false
/-! ### witness_shifted: function 84 -/
def witness_shifted.f (a0 : Int) (a1 : Int) (a2 : Int) (a3 : Int) : Option (Int) := if 0 ≤ a1 then (if a0 = 1 then (if 0 ≤ a2 then ((witness_most.f a1).bind fun t156 => (some (Go.bits .and .u64 (shl .u64 a3 a2) t156))) else (none)) else (if a0 = 2 then (if 0 ≤ a2 then (some (shr .u64 a3 a2)) else (none)) else (if a0 = 3 then (if 0 ≤ a2 then (if 0 ≤ (wrap64 ((shl .i64 1 a1) - a2)) then ((witness_most.f a1).bind fun t157 => (some (Go.bits .and .u64 (Go.bits .or .u64 (shl .u64 a3 a2) (shr .u64 a3 (wrap64 ((shl .i64 1 a1) - a2)))) t157))) else (none)) else (none)) else (some a3)))) else (none)
set_option maxHeartbeats 8000000 in
set_option maxRecDepth 100000 in
theorem witness_shifted.calls (a0 : Int) (a1 : Int) (a2 : Int) (a3 : Int) (r : Int) (w : World) (h : witness_shifted.f a0 a1 a2 a3 = some r) :
  Calls Try.prog 84 #[.int .i64 a0, .int .i64 a1, .int .i64 a2, .int .u64 a3] w fun e w' => e = .returned (.int .u64 r) ∧ Drawn0 w w' := by
 have H : (if 0 ≤ a1 then (if a0 = 1 then (if 0 ≤ a2 then ((witness_most.f a1).bind fun t156 => (some (Go.bits .and .u64 (shl .u64 a3 a2) t156))) else (none)) else (if a0 = 2 then (if 0 ≤ a2 then (some (shr .u64 a3 a2)) else (none)) else (if a0 = 3 then (if 0 ≤ a2 then (if 0 ≤ (wrap64 ((shl .i64 1 a1) - a2)) then ((witness_most.f a1).bind fun t157 => (some (Go.bits .and .u64 (Go.bits .or .u64 (shl .u64 a3 a2) (shr .u64 a3 (wrap64 ((shl .i64 1 a1) - a2)))) t157))) else (none)) else (none)) else (some a3)))) else (none)) = some r := h
 clear h
 by_cases c5 : 0 ≤ a1
 ·rw [if_pos c5] at H
  have c5b0 := eq_true c5; have c5b1 : decide (0 ≤ a1) = true := decide_eq_true c5; clear c5
  obtain ⟨ji6, hji6⟩ : ∃ j_ : Int, (shl .i64 1 a1) = j_ := ⟨_, rfl⟩
  replace H : (if a0 = 1 then (if 0 ≤ a2 then ((witness_most.f a1).bind fun t156 => (some (Go.bits .and .u64 (shl .u64 a3 a2) t156))) else (none)) else (if a0 = 2 then (if 0 ≤ a2 then (some (shr .u64 a3 a2)) else (none)) else (if a0 = 3 then (if 0 ≤ a2 then (if 0 ≤ (wrap64 ((ji6) - a2)) then ((witness_most.f a1).bind fun t157 => (some (Go.bits .and .u64 (Go.bits .or .u64 (shl .u64 a3 a2) (shr .u64 a3 (wrap64 ((ji6) - a2)))) t157))) else (none)) else (none)) else (some a3)))) = some r := by first | (rw [hji6] at H; exact H) | (simp only [hji6] at H ⊢; exact H)
  have hji6_ : (IntKind.i64.wrap (1 * 2 ^ min a1.toNat 64)) = ji6 := hji6; have hji6z : a1 ≤ 64 → (IntKind.i64.wrap (1 * 2 ^ a1.toNat)) = ji6 := shl_small hji6
  have hji6u : (IntKind.i64.wrap (2 ^ min a1.toNat 64)) = ji6 := by have h_ := hji6_; rw [Int.one_mul] at h_; exact h_
  have hji6v : a1 ≤ 64 → (IntKind.i64.wrap (2 ^ a1.toNat)) = ji6 := fun hle_ => by have h_ := hji6z hle_; rw [Int.one_mul] at h_; exact h_
  have hji6y : (wrap64 (1 * 2 ^ min a1.toNat 64)) = ji6 := (i64_w _).symm.trans hji6_
  have hji6x : a1 ≤ 64 → (wrap64 (1 * 2 ^ a1.toNat)) = ji6 := fun h_ => (i64_w _).symm.trans (hji6z h_)
  by_cases c7 : a0 = 1
  ·rw [if_pos c7] at H
   have c7b0 : (a0 == 1) = true := beq_iff_eq.mpr c7; have c7b1 : (a0 != 1) = false := bne_eq_false_iff_eq.mpr c7; clear c7
   by_cases c8 : 0 ≤ a2
   ·rw [if_pos c8] at H
    have c8b0 := eq_true c8; have c8b1 : decide (0 ≤ a2) = true := decide_eq_true c8; clear c8
    obtain ⟨ji9, hji9⟩ : ∃ j_ : Int, (shl .u64 a3 a2) = j_ := ⟨_, rfl⟩
    replace H : ((witness_most.f a1).bind fun t156 => (some (Go.bits .and .u64 (ji9) t156))) = some r := by first | (rw [hji9] at H; exact H) | (simp only [hji9] at H ⊢; exact H)
    have hji9_ : (IntKind.u64.wrap (a3 * 2 ^ min a2.toNat 64)) = ji9 := hji9; have hji9z : a2 ≤ 64 → (IntKind.u64.wrap (a3 * 2 ^ a2.toNat)) = ji9 := shl_small hji9; replace H := Option.bind_eq_some_iff.mp H; obtain ⟨t156, A100, H⟩ := H; replace H : (some (Go.bits .and .u64 (ji9) t156)) = some r := H; have A10 := Aside0.mk A100; clear A100; obtain rfl := Option.some.inj H
    go_enter Try.func84, Try.ntmps84
    go_wp2_with (first | (go_at_call 97; (with_reducible refine (witness_most.calls a1 t156 _ A10.out).mono ?_); rintro e w' ⟨rfl, ⟨nd, rfl⟩⟩; (try first | exact ⟨rfl, _, World.drewN_drewN _ _ _⟩ | exact ⟨rfl, _, Eq.trans (World.drewN_drewN _ _ _) (congrArg (World.drewN _) (Nat.add_assoc _ _ _))⟩)))
    repeat (go_quiet (first | (go_at_call 97; (with_reducible refine (witness_most.calls a1 t156 _ A10.out).mono ?_); rintro e w' ⟨rfl, ⟨nd, rfl⟩⟩; (try first | exact ⟨rfl, _, World.drewN_drewN _ _ _⟩ | exact ⟨rfl, _, Eq.trans (World.drewN_drewN _ _ _) (congrArg (World.drewN _) (Nat.add_assoc _ _ _))⟩))); try go_wp2_with (first | (go_at_call 97; (with_reducible refine (witness_most.calls a1 t156 _ A10.out).mono ?_); rintro e w' ⟨rfl, ⟨nd, rfl⟩⟩; (try first | exact ⟨rfl, _, World.drewN_drewN _ _ _⟩ | exact ⟨rfl, _, Eq.trans (World.drewN_drewN _ _ _) (congrArg (World.drewN _) (Nat.add_assoc _ _ _))⟩))))
    go_ret
    exact ⟨by first | rfl | (simp; done) | (simp only [← hji6, ← hji9] <;> (first | rfl | simp)) | (simp [*]; done), dwA⟩
   ·rw [if_neg c8] at H
    exact absurd H (by simp)
  ·rw [if_neg c7] at H
   have c7b0 : (a0 == 1) = false := beq_eq_false_iff_ne.mpr c7; have c7b1 : (a0 != 1) = true := bne_iff_ne.mpr c7
   by_cases c11 : a0 = 2
   ·rw [if_pos c11] at H
    have c11b0 : (a0 == 2) = true := beq_iff_eq.mpr c11; have c11b1 : (a0 != 2) = false := bne_eq_false_iff_eq.mpr c11; clear c11
    by_cases c12 : 0 ≤ a2
    ·rw [if_pos c12] at H
     have c12b0 := eq_true c12; have c12b1 : decide (0 ≤ a2) = true := decide_eq_true c12; clear c12
     obtain ⟨ji13, hji13⟩ : ∃ j_ : Int, (shr .u64 a3 a2) = j_ := ⟨_, rfl⟩
     replace H : (some ji13) = some r := by first | (rw [hji13] at H; exact H) | (simp only [hji13] at H ⊢; exact H)
     have hji13_ : (a3 / 2 ^ min a2.toNat 64) = ji13 := hji13; have hji13z : a2 ≤ 64 → (a3 / 2 ^ a2.toNat) = ji13 := shr_small hji13; obtain rfl := Option.some.inj H
     go_enter Try.func84, Try.ntmps84
     go_wp2
     repeat (go_quiet (fail); try go_wp2)
     go_ret
     exact ⟨by first | rfl | (simp; done) | (simp only [← hji6, ← hji13] <;> (first | rfl | simp)) | (simp [*]; done), dwA⟩
    ·rw [if_neg c12] at H
     exact absurd H (by simp)
   ·rw [if_neg c11] at H
    have c11b0 : (a0 == 2) = false := beq_eq_false_iff_ne.mpr c11; have c11b1 : (a0 != 2) = true := bne_iff_ne.mpr c11
    by_cases c14 : a0 = 3
    ·rw [if_pos c14] at H
     have c14b0 : (a0 == 3) = true := beq_iff_eq.mpr c14; have c14b1 : (a0 != 3) = false := bne_eq_false_iff_eq.mpr c14; clear c14
     by_cases c15 : 0 ≤ a2
     ·rw [if_pos c15] at H
      have c15b0 := eq_true c15; have c15b1 : decide (0 ≤ a2) = true := decide_eq_true c15; clear c15
      obtain ⟨ji16, hji16⟩ : ∃ j_ : Int, (shl .u64 a3 a2) = j_ := ⟨_, rfl⟩
      replace H : (if 0 ≤ (wrap64 ((ji6) - a2)) then ((witness_most.f a1).bind fun t157 => (some (Go.bits .and .u64 (Go.bits .or .u64 (ji16) (shr .u64 a3 (wrap64 ((ji6) - a2)))) t157))) else (none)) = some r := by first | (rw [hji16] at H; exact H) | (simp only [hji16] at H ⊢; exact H)
      have hji16_ : (IntKind.u64.wrap (a3 * 2 ^ min a2.toNat 64)) = ji16 := hji16; have hji16z : a2 ≤ 64 → (IntKind.u64.wrap (a3 * 2 ^ a2.toNat)) = ji16 := shl_small hji16
      obtain ⟨ji17, hji17⟩ : ∃ j_ : Int, (wrap64 ((ji6) - a2)) = j_ := ⟨_, rfl⟩
      replace H : (if 0 ≤ (ji17) then ((witness_most.f a1).bind fun t157 => (some (Go.bits .and .u64 (Go.bits .or .u64 (ji16) (shr .u64 a3 (ji17))) t157))) else (none)) = some r := by first | (rw [hji17] at H; exact H) | (simp only [hji17] at H ⊢; exact H)
      have hji17w : (IntKind.i64.wrap ((ji6) - a2)) = ji17 := (i64_w _).trans hji17
      by_cases c18 : 0 ≤ (ji17)
      ·rw [if_pos c18] at H
       have c18b0 := eq_true c18; have c18b1 : decide (0 ≤ (ji17)) = true := decide_eq_true c18; clear c18
       obtain ⟨ji19, hji19⟩ : ∃ j_ : Int, (shr .u64 a3 (ji17)) = j_ := ⟨_, rfl⟩
       replace H : ((witness_most.f a1).bind fun t157 => (some (Go.bits .and .u64 (Go.bits .or .u64 (ji16) (ji19)) t157))) = some r := by first | (rw [hji19] at H; exact H) | (simp only [hji19] at H ⊢; exact H)
       have hji19_ : (a3 / 2 ^ min (ji17).toNat 64) = ji19 := hji19; have hji19z : (ji17) ≤ 64 → (a3 / 2 ^ (ji17).toNat) = ji19 := shr_small hji19; replace H := Option.bind_eq_some_iff.mp H; obtain ⟨t157, A200, H⟩ := H; replace H : (some (Go.bits .and .u64 (Go.bits .or .u64 (ji16) (ji19)) t157)) = some r := H; have A20 := Aside0.mk A200; clear A200; obtain rfl := Option.some.inj H
       go_enter Try.func84, Try.ntmps84
       go_wp2_with (first | (go_at_call 97; (with_reducible refine (witness_most.calls a1 t157 _ A20.out).mono ?_); rintro e w' ⟨rfl, ⟨nd, rfl⟩⟩; (try first | exact ⟨rfl, _, World.drewN_drewN _ _ _⟩ | exact ⟨rfl, _, Eq.trans (World.drewN_drewN _ _ _) (congrArg (World.drewN _) (Nat.add_assoc _ _ _))⟩)))
       repeat (go_quiet (first | (go_at_call 97; (with_reducible refine (witness_most.calls a1 t157 _ A20.out).mono ?_); rintro e w' ⟨rfl, ⟨nd, rfl⟩⟩; (try first | exact ⟨rfl, _, World.drewN_drewN _ _ _⟩ | exact ⟨rfl, _, Eq.trans (World.drewN_drewN _ _ _) (congrArg (World.drewN _) (Nat.add_assoc _ _ _))⟩))); try go_wp2_with (first | (go_at_call 97; (with_reducible refine (witness_most.calls a1 t157 _ A20.out).mono ?_); rintro e w' ⟨rfl, ⟨nd, rfl⟩⟩; (try first | exact ⟨rfl, _, World.drewN_drewN _ _ _⟩ | exact ⟨rfl, _, Eq.trans (World.drewN_drewN _ _ _) (congrArg (World.drewN _) (Nat.add_assoc _ _ _))⟩))))
       go_ret
       exact ⟨by first | rfl | (simp; done) | (simp only [← hji6, ← hji16, ← hji17, ← hji19] <;> (first | rfl | simp)) | (simp [*]; done), dwA⟩
      ·rw [if_neg c18] at H
       exact absurd H (by simp)
     ·rw [if_neg c15] at H
      exact absurd H (by simp)
    ·rw [if_neg c14] at H
     have c14b0 : (a0 == 3) = false := beq_eq_false_iff_ne.mpr c14; have c14b1 : (a0 != 3) = true := bne_iff_ne.mpr c14; obtain rfl := Option.some.inj H
     go_enter Try.func84, Try.ntmps84
     go_wp2
     repeat (go_quiet (fail); try go_wp2)
     go_ret
     exact ⟨by first | rfl | (simp; done) | (simp only [← hji6] <;> (first | rfl | simp)) | (simp [*]; done), dwA⟩
 ·rw [if_neg c5] at H
  exact absurd H (by simp)
/-! ### witness_made: function 68 -/
def witness_made.f (a0_0 : Int) (a0_1 : Int) (a0_2 : Int) (a0_3 : Int) (a0_4 : Int) (l0_5 : List (S105)) (a1_0 : Int) (a1_1 : Int) (a1_2 : Int) (a1_3 : Int) (a1_4 : Int) (a2 : Int) (a3 : Int) : Option (Int × Int) := if a1_0 = 1 then (some (Go.bits .xor .u64 a2 a3, 0)) else (if a1_0 = 2 then (some (Go.bits .and .u64 a2 a3, 0)) else (if a1_0 = 3 then ((witness_most.f a0_0).bind fun t160 => (some (Go.bits .xor .u64 a2 t160, 0))) else (if a1_0 = 4 then ((witness_shifted.f 1 a0_0 a1_4 a2).bind fun t161 => (some (t161, 0))) else (if a1_0 = 5 then ((witness_shifted.f 2 a0_0 a1_4 a2).bind fun t162 => (some (t162, 0))) else (if a1_0 = 6 then ((witness_shifted.f 3 a0_0 a1_4 a2).bind fun t163 => (some (t163, 0))) else (if a1_0 = 7 then ((witness_most.f a0_0).bind fun t164 => (some (Go.bits .and .u64 (IntKind.u64.wrap (a2 + a3)) t164, (Go.bits .xor .u64 (Go.bits .xor .u64 (IntKind.u64.wrap (a2 + a3)) a2) a3) / 2))) else (some (0, 0))))))))
set_option maxHeartbeats 8000000 in
set_option maxRecDepth 100000 in
theorem witness_made.calls (a0_0 : Int) (a0_1 : Int) (a0_2 : Int) (a0_3 : Int) (a0_4 : Int) (A0_5 : Option Addr) (c0_5 : Nat) (l0_5 : List (S105)) (a1_0 : Int) (a1_1 : Int) (a1_2 : Int) (a1_3 : Int) (a1_4 : Int) (a2 : Int) (a3 : Int) (r1 : Int) (r2 : Int) (w : World) (hr0_5 : Kd.C k105 w A0_5 l0_5.length l0_5) (hc0_5 : l0_5.length ≤ c0_5) (h : witness_made.f a0_0 a0_1 a0_2 a0_3 a0_4 l0_5 a1_0 a1_1 a1_2 a1_3 a1_4 a2 a3 = some (r1, r2)) :
  Calls Try.prog 68 #[.agg #[.int .i64 a0_0, .int .i64 a0_1, .int .i64 a0_2, .int .i64 a0_3, .int .i64 a0_4, .slice A0_5 l0_5.length c0_5], .agg #[.int .i64 a1_0, .int .i64 a1_1, .int .i64 a1_2, .int .i64 a1_3, .int .i64 a1_4], .int .u64 a2, .int .u64 a3] w fun e w' => e = .returned (.tuple #[.int .u64 r1, .int .u64 r2]) ∧ Below w.heap.size w w' := by
 have hu24 := Try.underlying24; have hu105 := Try.underlying105; have HR0_5 := Aside0.mk hr0_5; have HC0_5 := Aside0.mk hc0_5; clear hr0_5 hc0_5; have HB := Aside0.mk (Below.refl w.heap.size w)
 have H : (if a1_0 = 1 then (some (Go.bits .xor .u64 a2 a3, 0)) else (if a1_0 = 2 then (some (Go.bits .and .u64 a2 a3, 0)) else (if a1_0 = 3 then ((witness_most.f a0_0).bind fun t160 => (some (Go.bits .xor .u64 a2 t160, 0))) else (if a1_0 = 4 then ((witness_shifted.f 1 a0_0 a1_4 a2).bind fun t161 => (some (t161, 0))) else (if a1_0 = 5 then ((witness_shifted.f 2 a0_0 a1_4 a2).bind fun t162 => (some (t162, 0))) else (if a1_0 = 6 then ((witness_shifted.f 3 a0_0 a1_4 a2).bind fun t163 => (some (t163, 0))) else (if a1_0 = 7 then ((witness_most.f a0_0).bind fun t164 => (some (Go.bits .and .u64 (IntKind.u64.wrap (a2 + a3)) t164, (Go.bits .xor .u64 (Go.bits .xor .u64 (IntKind.u64.wrap (a2 + a3)) a2) a3) / 2))) else (some (0, 0))))))))) = some (r1, r2) := h
 clear h
 by_cases c5 : a1_0 = 1
 ·rw [if_pos c5] at H
  have c5b0 : (a1_0 == 1) = true := beq_iff_eq.mpr c5; have c5b1 : (a1_0 != 1) = false := bne_eq_false_iff_eq.mpr c5; clear c5
  simp only [Option.some.injEq, Prod.mk.injEq] at H
  obtain ⟨rfl, rfl⟩ := H
  go_enter Try.func68, Try.ntmps68
  go_wp2_with (first | ((with_reducible refine gate_dst (N := 4) rfl ?_); refine box_event ?hg (N := 4) ?hd (cs := #[.int .i64 a0_0, .int .i64 a0_1, .int .i64 a0_2, .int .i64 a0_3, .int .i64 a0_4, .slice A0_5 l0_5.length c0_5]) (t := 24) ?hr ?_; (case hd => rfl); (case hg => rfl); (case hr => first | (go_simp; done) | (go_simp; rfl)); intro gb158 hg w6 hbox hb; have n0_ := Aside0.mk (below_step (blA HB.out) hb); have n1_ := Aside0.mk (hbox); have n2_ := Aside0.mk ((by rw [hg]; exact (below_size (blA HB.out)) : w.heap.size ≤ gb158)); have n3_ := Aside0.mk ((by rw [hg]; exact (below_size (blA HB.out)) : w.heap.size ≤ gb158)); clear HB; have HB := n0_; have BK158 := n1_; have GW158 := n2_; have GE158 := n3_; clear n0_ n1_ n2_ n3_; clear hb hbox hg) | ((with_reducible refine gate_dst (N := 5) rfl ?_); refine box_event ?hg (N := 5) ?hd (cs := #[.int .i64 a1_0, .int .i64 a1_1, .int .i64 a1_2, .int .i64 a1_3, .int .i64 a1_4]) (t := 105) ?hr ?_; (case hd => rfl); (case hg => rfl); (case hr => first | (go_simp; done) | (go_simp; rfl)); intro gb159 hg w7 hbox hb; have n0_ := Aside0.mk (blk_below (bkA BK158.out) hb); have n1_ := Aside0.mk (below_step (blA HB.out) hb); have n2_ := Aside0.mk (hbox); have n3_ := Aside0.mk ((by rw [hg]; exact (below_size (blA HB.out)) : w.heap.size ≤ gb159)); have n4_ := Aside0.mk ((by rw [hg]; exact (below_size (blA HB.out)) : w.heap.size ≤ gb159)); have n5_ := Aside0.mk ((by rw [hg]; exact Nat.ne_of_lt (blk_lt (bkA BK158.out)) : gb158 ≠ gb159)); have n6_ := Aside0.mk ((by rw [hg]; exact Nat.ne_of_gt (blk_lt (bkA BK158.out)) : gb159 ≠ gb158)); clear BK158; clear HB; have BK158 := n0_; have HB := n1_; have BK159 := n2_; have GW159 := n3_; have GE159 := n4_; have NB158_159 := n5_; have NB159_158 := n6_; clear n0_ n1_ n2_ n3_ n4_ n5_ n6_; clear hb hbox hg; have hnb8 := NB159_158.out; have hnc8 := NB158_159.out; have hcz9 := fun i => blk_cell BK159.out i; have hfz9 := fun i => blk_frozen BK159.out i; ))
  go_ret2
  exact ⟨by first | rfl | (simp [errW_none, errW_some] <;> rfl) | (simp [*, errW_none, errW_some] <;> rfl), blA HB.out⟩
 ·rw [if_neg c5] at H
  have c5b0 : (a1_0 == 1) = false := beq_eq_false_iff_ne.mpr c5; have c5b1 : (a1_0 != 1) = true := bne_iff_ne.mpr c5
  by_cases c10 : a1_0 = 2
  ·rw [if_pos c10] at H
   have c10b0 : (a1_0 == 2) = true := beq_iff_eq.mpr c10; have c10b1 : (a1_0 != 2) = false := bne_eq_false_iff_eq.mpr c10; clear c10
   simp only [Option.some.injEq, Prod.mk.injEq] at H
   obtain ⟨rfl, rfl⟩ := H
   go_enter Try.func68, Try.ntmps68
   go_wp2_with (first | ((with_reducible refine gate_dst (N := 4) rfl ?_); refine box_event ?hg (N := 4) ?hd (cs := #[.int .i64 a0_0, .int .i64 a0_1, .int .i64 a0_2, .int .i64 a0_3, .int .i64 a0_4, .slice A0_5 l0_5.length c0_5]) (t := 24) ?hr ?_; (case hd => rfl); (case hg => rfl); (case hr => first | (go_simp; done) | (go_simp; rfl)); intro gb158 hg w11 hbox hb; have n0_ := Aside0.mk (below_step (blA HB.out) hb); have n1_ := Aside0.mk (hbox); have n2_ := Aside0.mk ((by rw [hg]; exact (below_size (blA HB.out)) : w.heap.size ≤ gb158)); have n3_ := Aside0.mk ((by rw [hg]; exact (below_size (blA HB.out)) : w.heap.size ≤ gb158)); clear HB; have HB := n0_; have BK158 := n1_; have GW158 := n2_; have GE158 := n3_; clear n0_ n1_ n2_ n3_; clear hb hbox hg) | ((with_reducible refine gate_dst (N := 5) rfl ?_); refine box_event ?hg (N := 5) ?hd (cs := #[.int .i64 a1_0, .int .i64 a1_1, .int .i64 a1_2, .int .i64 a1_3, .int .i64 a1_4]) (t := 105) ?hr ?_; (case hd => rfl); (case hg => rfl); (case hr => first | (go_simp; done) | (go_simp; rfl)); intro gb159 hg w12 hbox hb; have n0_ := Aside0.mk (blk_below (bkA BK158.out) hb); have n1_ := Aside0.mk (below_step (blA HB.out) hb); have n2_ := Aside0.mk (hbox); have n3_ := Aside0.mk ((by rw [hg]; exact (below_size (blA HB.out)) : w.heap.size ≤ gb159)); have n4_ := Aside0.mk ((by rw [hg]; exact (below_size (blA HB.out)) : w.heap.size ≤ gb159)); have n5_ := Aside0.mk ((by rw [hg]; exact Nat.ne_of_lt (blk_lt (bkA BK158.out)) : gb158 ≠ gb159)); have n6_ := Aside0.mk ((by rw [hg]; exact Nat.ne_of_gt (blk_lt (bkA BK158.out)) : gb159 ≠ gb158)); clear BK158; clear HB; have BK158 := n0_; have HB := n1_; have BK159 := n2_; have GW159 := n3_; have GE159 := n4_; have NB158_159 := n5_; have NB159_158 := n6_; clear n0_ n1_ n2_ n3_ n4_ n5_ n6_; clear hb hbox hg; have hnb13 := NB159_158.out; have hnc13 := NB158_159.out; have hcz14 := fun i => blk_cell BK159.out i; have hfz14 := fun i => blk_frozen BK159.out i; ))
   go_ret2
   exact ⟨by first | rfl | (simp [errW_none, errW_some] <;> rfl) | (simp [*, errW_none, errW_some] <;> rfl), blA HB.out⟩
  ·rw [if_neg c10] at H
   have c10b0 : (a1_0 == 2) = false := beq_eq_false_iff_ne.mpr c10; have c10b1 : (a1_0 != 2) = true := bne_iff_ne.mpr c10
   by_cases c15 : a1_0 = 3
   ·rw [if_pos c15] at H
    have c15b0 : (a1_0 == 3) = true := beq_iff_eq.mpr c15; have c15b1 : (a1_0 != 3) = false := bne_eq_false_iff_eq.mpr c15; clear c15; replace H := Option.bind_eq_some_iff.mp H; obtain ⟨t160, A160, H⟩ := H; replace H : (some (Go.bits .xor .u64 a2 t160, 0)) = some (r1, r2) := H; have A16 := Aside0.mk A160; clear A160
    simp only [Option.some.injEq, Prod.mk.injEq] at H
    obtain ⟨rfl, rfl⟩ := H
    go_enter Try.func68, Try.ntmps68
    go_wp2_with (first | ((with_reducible refine gate_dst (N := 4) rfl ?_); refine box_event ?hg (N := 4) ?hd (cs := #[.int .i64 a0_0, .int .i64 a0_1, .int .i64 a0_2, .int .i64 a0_3, .int .i64 a0_4, .slice A0_5 l0_5.length c0_5]) (t := 24) ?hr ?_; (case hd => rfl); (case hg => rfl); (case hr => first | (go_simp; done) | (go_simp; rfl)); intro gb158 hg w17 hbox hb; have n0_ := Aside0.mk (below_step (blA HB.out) hb); have n1_ := Aside0.mk (hbox); have n2_ := Aside0.mk ((by rw [hg]; exact (below_size (blA HB.out)) : w.heap.size ≤ gb158)); have n3_ := Aside0.mk ((by rw [hg]; exact (below_size (blA HB.out)) : w.heap.size ≤ gb158)); clear HB; have HB := n0_; have BK158 := n1_; have GW158 := n2_; have GE158 := n3_; clear n0_ n1_ n2_ n3_; clear hb hbox hg) | ((with_reducible refine gate_dst (N := 5) rfl ?_); refine box_event ?hg (N := 5) ?hd (cs := #[.int .i64 a1_0, .int .i64 a1_1, .int .i64 a1_2, .int .i64 a1_3, .int .i64 a1_4]) (t := 105) ?hr ?_; (case hd => rfl); (case hg => rfl); (case hr => first | (go_simp; done) | (go_simp; rfl)); intro gb159 hg w18 hbox hb; have n0_ := Aside0.mk (blk_below (bkA BK158.out) hb); have n1_ := Aside0.mk (below_step (blA HB.out) hb); have n2_ := Aside0.mk (hbox); have n3_ := Aside0.mk ((by rw [hg]; exact (below_size (blA HB.out)) : w.heap.size ≤ gb159)); have n4_ := Aside0.mk ((by rw [hg]; exact (below_size (blA HB.out)) : w.heap.size ≤ gb159)); have n5_ := Aside0.mk ((by rw [hg]; exact Nat.ne_of_lt (blk_lt (bkA BK158.out)) : gb158 ≠ gb159)); have n6_ := Aside0.mk ((by rw [hg]; exact Nat.ne_of_gt (blk_lt (bkA BK158.out)) : gb159 ≠ gb158)); clear BK158; clear HB; have BK158 := n0_; have HB := n1_; have BK159 := n2_; have GW159 := n3_; have GE159 := n4_; have NB158_159 := n5_; have NB159_158 := n6_; clear n0_ n1_ n2_ n3_ n4_ n5_ n6_; clear hb hbox hg; have hnb19 := NB159_158.out; have hnc19 := NB158_159.out; have hcz20 := fun i => blk_cell BK159.out i; have hfz20 := fun i => blk_frozen BK159.out i; have hcz21 := fun i => blk_cell BK158.out i; have hfz21 := fun i => blk_frozen BK158.out i; ) | ((with_reducible refine gate_callee (f := 97) rfl ?_); refine goesL_ (some 28) rfl rfl Try.func97 (by kernel_rfl) rfl #[.int .i64 a0_0] rfl gsA ?_; (with_reducible refine (witness_most.calls a0_0 t160 _ A16.out).mono ?_); rintro e w' ⟨rfl, ⟨nd, rfl⟩⟩; refine ⟨_, rfl, ?_⟩))
    go_ret2
    exact ⟨by first | rfl | (simp [errW_none, errW_some] <;> rfl) | (simp [*, errW_none, errW_some] <;> rfl), blA HB.out⟩
   ·rw [if_neg c15] at H
    have c15b0 : (a1_0 == 3) = false := beq_eq_false_iff_ne.mpr c15; have c15b1 : (a1_0 != 3) = true := bne_iff_ne.mpr c15
    by_cases c22 : a1_0 = 4
    ·rw [if_pos c22] at H
     have c22b0 : (a1_0 == 4) = true := beq_iff_eq.mpr c22; have c22b1 : (a1_0 != 4) = false := bne_eq_false_iff_eq.mpr c22; clear c22; replace H := Option.bind_eq_some_iff.mp H; obtain ⟨t161, A230, H⟩ := H; replace H : (some (t161, 0)) = some (r1, r2) := H; have A23 := Aside0.mk A230; clear A230
     simp only [Option.some.injEq, Prod.mk.injEq] at H
     obtain ⟨rfl, rfl⟩ := H
     go_enter Try.func68, Try.ntmps68
     go_wp2_with (first | ((with_reducible refine gate_dst (N := 4) rfl ?_); refine box_event ?hg (N := 4) ?hd (cs := #[.int .i64 a0_0, .int .i64 a0_1, .int .i64 a0_2, .int .i64 a0_3, .int .i64 a0_4, .slice A0_5 l0_5.length c0_5]) (t := 24) ?hr ?_; (case hd => rfl); (case hg => rfl); (case hr => first | (go_simp; done) | (go_simp; rfl)); intro gb158 hg w24 hbox hb; have n0_ := Aside0.mk (below_step (blA HB.out) hb); have n1_ := Aside0.mk (hbox); have n2_ := Aside0.mk ((by rw [hg]; exact (below_size (blA HB.out)) : w.heap.size ≤ gb158)); have n3_ := Aside0.mk ((by rw [hg]; exact (below_size (blA HB.out)) : w.heap.size ≤ gb158)); clear HB; have HB := n0_; have BK158 := n1_; have GW158 := n2_; have GE158 := n3_; clear n0_ n1_ n2_ n3_; clear hb hbox hg) | ((with_reducible refine gate_dst (N := 5) rfl ?_); refine box_event ?hg (N := 5) ?hd (cs := #[.int .i64 a1_0, .int .i64 a1_1, .int .i64 a1_2, .int .i64 a1_3, .int .i64 a1_4]) (t := 105) ?hr ?_; (case hd => rfl); (case hg => rfl); (case hr => first | (go_simp; done) | (go_simp; rfl)); intro gb159 hg w25 hbox hb; have n0_ := Aside0.mk (blk_below (bkA BK158.out) hb); have n1_ := Aside0.mk (below_step (blA HB.out) hb); have n2_ := Aside0.mk (hbox); have n3_ := Aside0.mk ((by rw [hg]; exact (below_size (blA HB.out)) : w.heap.size ≤ gb159)); have n4_ := Aside0.mk ((by rw [hg]; exact (below_size (blA HB.out)) : w.heap.size ≤ gb159)); have n5_ := Aside0.mk ((by rw [hg]; exact Nat.ne_of_lt (blk_lt (bkA BK158.out)) : gb158 ≠ gb159)); have n6_ := Aside0.mk ((by rw [hg]; exact Nat.ne_of_gt (blk_lt (bkA BK158.out)) : gb159 ≠ gb158)); clear BK158; clear HB; have BK158 := n0_; have HB := n1_; have BK159 := n2_; have GW159 := n3_; have GE159 := n4_; have NB158_159 := n5_; have NB159_158 := n6_; clear n0_ n1_ n2_ n3_ n4_ n5_ n6_; clear hb hbox hg; have hnb26 := NB159_158.out; have hnc26 := NB158_159.out; have hcz27 := fun i => blk_cell BK159.out i; have hfz27 := fun i => blk_frozen BK159.out i; have hcz28 := fun i => blk_cell BK158.out i; have hfz28 := fun i => blk_frozen BK158.out i; ) | ((with_reducible refine gate_callee (f := 84) rfl ?_); refine goesL_ (some 37) rfl rfl Try.func84 (by kernel_rfl) rfl #[.int .i64 1, .int .i64 a0_0, .int .i64 a1_4, .int .u64 a2] rfl gsA ?_; (with_reducible refine (witness_shifted.calls 1 a0_0 a1_4 a2 t161 _ A23.out).mono ?_); rintro e w' ⟨rfl, ⟨nd, rfl⟩⟩; refine ⟨_, rfl, ?_⟩))
     go_ret2
     exact ⟨by first | rfl | (simp [errW_none, errW_some] <;> rfl) | (simp [*, errW_none, errW_some] <;> rfl), blA HB.out⟩
    ·rw [if_neg c22] at H
     have c22b0 : (a1_0 == 4) = false := beq_eq_false_iff_ne.mpr c22; have c22b1 : (a1_0 != 4) = true := bne_iff_ne.mpr c22
     by_cases c29 : a1_0 = 5
     ·rw [if_pos c29] at H
      have c29b0 : (a1_0 == 5) = true := beq_iff_eq.mpr c29; have c29b1 : (a1_0 != 5) = false := bne_eq_false_iff_eq.mpr c29; clear c29; replace H := Option.bind_eq_some_iff.mp H; obtain ⟨t162, A300, H⟩ := H; replace H : (some (t162, 0)) = some (r1, r2) := H; have A30 := Aside0.mk A300; clear A300
      simp only [Option.some.injEq, Prod.mk.injEq] at H
      obtain ⟨rfl, rfl⟩ := H
      go_enter Try.func68, Try.ntmps68
      go_wp2_with (first | ((with_reducible refine gate_dst (N := 4) rfl ?_); refine box_event ?hg (N := 4) ?hd (cs := #[.int .i64 a0_0, .int .i64 a0_1, .int .i64 a0_2, .int .i64 a0_3, .int .i64 a0_4, .slice A0_5 l0_5.length c0_5]) (t := 24) ?hr ?_; (case hd => rfl); (case hg => rfl); (case hr => first | (go_simp; done) | (go_simp; rfl)); intro gb158 hg w31 hbox hb; have n0_ := Aside0.mk (below_step (blA HB.out) hb); have n1_ := Aside0.mk (hbox); have n2_ := Aside0.mk ((by rw [hg]; exact (below_size (blA HB.out)) : w.heap.size ≤ gb158)); have n3_ := Aside0.mk ((by rw [hg]; exact (below_size (blA HB.out)) : w.heap.size ≤ gb158)); clear HB; have HB := n0_; have BK158 := n1_; have GW158 := n2_; have GE158 := n3_; clear n0_ n1_ n2_ n3_; clear hb hbox hg) | ((with_reducible refine gate_dst (N := 5) rfl ?_); refine box_event ?hg (N := 5) ?hd (cs := #[.int .i64 a1_0, .int .i64 a1_1, .int .i64 a1_2, .int .i64 a1_3, .int .i64 a1_4]) (t := 105) ?hr ?_; (case hd => rfl); (case hg => rfl); (case hr => first | (go_simp; done) | (go_simp; rfl)); intro gb159 hg w32 hbox hb; have n0_ := Aside0.mk (blk_below (bkA BK158.out) hb); have n1_ := Aside0.mk (below_step (blA HB.out) hb); have n2_ := Aside0.mk (hbox); have n3_ := Aside0.mk ((by rw [hg]; exact (below_size (blA HB.out)) : w.heap.size ≤ gb159)); have n4_ := Aside0.mk ((by rw [hg]; exact (below_size (blA HB.out)) : w.heap.size ≤ gb159)); have n5_ := Aside0.mk ((by rw [hg]; exact Nat.ne_of_lt (blk_lt (bkA BK158.out)) : gb158 ≠ gb159)); have n6_ := Aside0.mk ((by rw [hg]; exact Nat.ne_of_gt (blk_lt (bkA BK158.out)) : gb159 ≠ gb158)); clear BK158; clear HB; have BK158 := n0_; have HB := n1_; have BK159 := n2_; have GW159 := n3_; have GE159 := n4_; have NB158_159 := n5_; have NB159_158 := n6_; clear n0_ n1_ n2_ n3_ n4_ n5_ n6_; clear hb hbox hg; have hnb33 := NB159_158.out; have hnc33 := NB158_159.out; have hcz34 := fun i => blk_cell BK159.out i; have hfz34 := fun i => blk_frozen BK159.out i; have hcz35 := fun i => blk_cell BK158.out i; have hfz35 := fun i => blk_frozen BK158.out i; ) | ((with_reducible refine gate_callee (f := 84) rfl ?_); refine goesL_ (some 45) rfl rfl Try.func84 (by kernel_rfl) rfl #[.int .i64 2, .int .i64 a0_0, .int .i64 a1_4, .int .u64 a2] rfl gsA ?_; (with_reducible refine (witness_shifted.calls 2 a0_0 a1_4 a2 t162 _ A30.out).mono ?_); rintro e w' ⟨rfl, ⟨nd, rfl⟩⟩; refine ⟨_, rfl, ?_⟩))
      go_ret2
      exact ⟨by first | rfl | (simp [errW_none, errW_some] <;> rfl) | (simp [*, errW_none, errW_some] <;> rfl), blA HB.out⟩
     ·rw [if_neg c29] at H
      have c29b0 : (a1_0 == 5) = false := beq_eq_false_iff_ne.mpr c29; have c29b1 : (a1_0 != 5) = true := bne_iff_ne.mpr c29
      by_cases c36 : a1_0 = 6
      ·rw [if_pos c36] at H
       have c36b0 : (a1_0 == 6) = true := beq_iff_eq.mpr c36; have c36b1 : (a1_0 != 6) = false := bne_eq_false_iff_eq.mpr c36; clear c36; replace H := Option.bind_eq_some_iff.mp H; obtain ⟨t163, A370, H⟩ := H; replace H : (some (t163, 0)) = some (r1, r2) := H; have A37 := Aside0.mk A370; clear A370
       simp only [Option.some.injEq, Prod.mk.injEq] at H
       obtain ⟨rfl, rfl⟩ := H
       go_enter Try.func68, Try.ntmps68
       go_wp2_with (first | ((with_reducible refine gate_dst (N := 4) rfl ?_); refine box_event ?hg (N := 4) ?hd (cs := #[.int .i64 a0_0, .int .i64 a0_1, .int .i64 a0_2, .int .i64 a0_3, .int .i64 a0_4, .slice A0_5 l0_5.length c0_5]) (t := 24) ?hr ?_; (case hd => rfl); (case hg => rfl); (case hr => first | (go_simp; done) | (go_simp; rfl)); intro gb158 hg w38 hbox hb; have n0_ := Aside0.mk (below_step (blA HB.out) hb); have n1_ := Aside0.mk (hbox); have n2_ := Aside0.mk ((by rw [hg]; exact (below_size (blA HB.out)) : w.heap.size ≤ gb158)); have n3_ := Aside0.mk ((by rw [hg]; exact (below_size (blA HB.out)) : w.heap.size ≤ gb158)); clear HB; have HB := n0_; have BK158 := n1_; have GW158 := n2_; have GE158 := n3_; clear n0_ n1_ n2_ n3_; clear hb hbox hg) | ((with_reducible refine gate_dst (N := 5) rfl ?_); refine box_event ?hg (N := 5) ?hd (cs := #[.int .i64 a1_0, .int .i64 a1_1, .int .i64 a1_2, .int .i64 a1_3, .int .i64 a1_4]) (t := 105) ?hr ?_; (case hd => rfl); (case hg => rfl); (case hr => first | (go_simp; done) | (go_simp; rfl)); intro gb159 hg w39 hbox hb; have n0_ := Aside0.mk (blk_below (bkA BK158.out) hb); have n1_ := Aside0.mk (below_step (blA HB.out) hb); have n2_ := Aside0.mk (hbox); have n3_ := Aside0.mk ((by rw [hg]; exact (below_size (blA HB.out)) : w.heap.size ≤ gb159)); have n4_ := Aside0.mk ((by rw [hg]; exact (below_size (blA HB.out)) : w.heap.size ≤ gb159)); have n5_ := Aside0.mk ((by rw [hg]; exact Nat.ne_of_lt (blk_lt (bkA BK158.out)) : gb158 ≠ gb159)); have n6_ := Aside0.mk ((by rw [hg]; exact Nat.ne_of_gt (blk_lt (bkA BK158.out)) : gb159 ≠ gb158)); clear BK158; clear HB; have BK158 := n0_; have HB := n1_; have BK159 := n2_; have GW159 := n3_; have GE159 := n4_; have NB158_159 := n5_; have NB159_158 := n6_; clear n0_ n1_ n2_ n3_ n4_ n5_ n6_; clear hb hbox hg; have hnb40 := NB159_158.out; have hnc40 := NB158_159.out; have hcz41 := fun i => blk_cell BK159.out i; have hfz41 := fun i => blk_frozen BK159.out i; have hcz42 := fun i => blk_cell BK158.out i; have hfz42 := fun i => blk_frozen BK158.out i; ) | ((with_reducible refine gate_callee (f := 84) rfl ?_); refine goesL_ (some 53) rfl rfl Try.func84 (by kernel_rfl) rfl #[.int .i64 3, .int .i64 a0_0, .int .i64 a1_4, .int .u64 a2] rfl gsA ?_; (with_reducible refine (witness_shifted.calls 3 a0_0 a1_4 a2 t163 _ A37.out).mono ?_); rintro e w' ⟨rfl, ⟨nd, rfl⟩⟩; refine ⟨_, rfl, ?_⟩))
       go_ret2
       exact ⟨by first | rfl | (simp [errW_none, errW_some] <;> rfl) | (simp [*, errW_none, errW_some] <;> rfl), blA HB.out⟩
      ·rw [if_neg c36] at H
       have c36b0 : (a1_0 == 6) = false := beq_eq_false_iff_ne.mpr c36; have c36b1 : (a1_0 != 6) = true := bne_iff_ne.mpr c36
       by_cases c43 : a1_0 = 7
       ·rw [if_pos c43] at H
        have c43b0 : (a1_0 == 7) = true := beq_iff_eq.mpr c43; have c43b1 : (a1_0 != 7) = false := bne_eq_false_iff_eq.mpr c43; clear c43; replace H := Option.bind_eq_some_iff.mp H; obtain ⟨t164, A440, H⟩ := H; replace H : (some (Go.bits .and .u64 (IntKind.u64.wrap (a2 + a3)) t164, (Go.bits .xor .u64 (Go.bits .xor .u64 (IntKind.u64.wrap (a2 + a3)) a2) a3) / 2)) = some (r1, r2) := H; have A44 := Aside0.mk A440; clear A440
        simp only [Option.some.injEq, Prod.mk.injEq] at H
        obtain ⟨rfl, rfl⟩ := H
        go_enter Try.func68, Try.ntmps68
        go_wp2_with (first | ((with_reducible refine gate_dst (N := 4) rfl ?_); refine box_event ?hg (N := 4) ?hd (cs := #[.int .i64 a0_0, .int .i64 a0_1, .int .i64 a0_2, .int .i64 a0_3, .int .i64 a0_4, .slice A0_5 l0_5.length c0_5]) (t := 24) ?hr ?_; (case hd => rfl); (case hg => rfl); (case hr => first | (go_simp; done) | (go_simp; rfl)); intro gb158 hg w45 hbox hb; have n0_ := Aside0.mk (below_step (blA HB.out) hb); have n1_ := Aside0.mk (hbox); have n2_ := Aside0.mk ((by rw [hg]; exact (below_size (blA HB.out)) : w.heap.size ≤ gb158)); have n3_ := Aside0.mk ((by rw [hg]; exact (below_size (blA HB.out)) : w.heap.size ≤ gb158)); clear HB; have HB := n0_; have BK158 := n1_; have GW158 := n2_; have GE158 := n3_; clear n0_ n1_ n2_ n3_; clear hb hbox hg) | ((with_reducible refine gate_dst (N := 5) rfl ?_); refine box_event ?hg (N := 5) ?hd (cs := #[.int .i64 a1_0, .int .i64 a1_1, .int .i64 a1_2, .int .i64 a1_3, .int .i64 a1_4]) (t := 105) ?hr ?_; (case hd => rfl); (case hg => rfl); (case hr => first | (go_simp; done) | (go_simp; rfl)); intro gb159 hg w46 hbox hb; have n0_ := Aside0.mk (blk_below (bkA BK158.out) hb); have n1_ := Aside0.mk (below_step (blA HB.out) hb); have n2_ := Aside0.mk (hbox); have n3_ := Aside0.mk ((by rw [hg]; exact (below_size (blA HB.out)) : w.heap.size ≤ gb159)); have n4_ := Aside0.mk ((by rw [hg]; exact (below_size (blA HB.out)) : w.heap.size ≤ gb159)); have n5_ := Aside0.mk ((by rw [hg]; exact Nat.ne_of_lt (blk_lt (bkA BK158.out)) : gb158 ≠ gb159)); have n6_ := Aside0.mk ((by rw [hg]; exact Nat.ne_of_gt (blk_lt (bkA BK158.out)) : gb159 ≠ gb158)); clear BK158; clear HB; have BK158 := n0_; have HB := n1_; have BK159 := n2_; have GW159 := n3_; have GE159 := n4_; have NB158_159 := n5_; have NB159_158 := n6_; clear n0_ n1_ n2_ n3_ n4_ n5_ n6_; clear hb hbox hg; have hnb47 := NB159_158.out; have hnc47 := NB158_159.out; have hcz48 := fun i => blk_cell BK159.out i; have hfz48 := fun i => blk_frozen BK159.out i; have hcz49 := fun i => blk_cell BK158.out i; have hfz49 := fun i => blk_frozen BK158.out i; ) | ((with_reducible refine gate_callee (f := 97) rfl ?_); refine goesL_ (some 68) rfl rfl Try.func97 (by kernel_rfl) rfl #[.int .i64 a0_0] rfl gsA ?_; (with_reducible refine (witness_most.calls a0_0 t164 _ A44.out).mono ?_); rintro e w' ⟨rfl, ⟨nd, rfl⟩⟩; refine ⟨_, rfl, ?_⟩))
        go_ret2
        exact ⟨by first | rfl | (simp [errW_none, errW_some] <;> rfl) | (simp [*, errW_none, errW_some] <;> rfl), blA HB.out⟩
       ·rw [if_neg c43] at H
        have c43b0 : (a1_0 == 7) = false := beq_eq_false_iff_ne.mpr c43; have c43b1 : (a1_0 != 7) = true := bne_iff_ne.mpr c43
        simp only [Option.some.injEq, Prod.mk.injEq] at H
        obtain ⟨rfl, rfl⟩ := H
        go_enter Try.func68, Try.ntmps68
        go_wp2_with (first | ((with_reducible refine gate_dst (N := 4) rfl ?_); refine box_event ?hg (N := 4) ?hd (cs := #[.int .i64 a0_0, .int .i64 a0_1, .int .i64 a0_2, .int .i64 a0_3, .int .i64 a0_4, .slice A0_5 l0_5.length c0_5]) (t := 24) ?hr ?_; (case hd => rfl); (case hg => rfl); (case hr => first | (go_simp; done) | (go_simp; rfl)); intro gb158 hg w50 hbox hb; have n0_ := Aside0.mk (below_step (blA HB.out) hb); have n1_ := Aside0.mk (hbox); have n2_ := Aside0.mk ((by rw [hg]; exact (below_size (blA HB.out)) : w.heap.size ≤ gb158)); have n3_ := Aside0.mk ((by rw [hg]; exact (below_size (blA HB.out)) : w.heap.size ≤ gb158)); clear HB; have HB := n0_; have BK158 := n1_; have GW158 := n2_; have GE158 := n3_; clear n0_ n1_ n2_ n3_; clear hb hbox hg) | ((with_reducible refine gate_dst (N := 5) rfl ?_); refine box_event ?hg (N := 5) ?hd (cs := #[.int .i64 a1_0, .int .i64 a1_1, .int .i64 a1_2, .int .i64 a1_3, .int .i64 a1_4]) (t := 105) ?hr ?_; (case hd => rfl); (case hg => rfl); (case hr => first | (go_simp; done) | (go_simp; rfl)); intro gb159 hg w51 hbox hb; have n0_ := Aside0.mk (blk_below (bkA BK158.out) hb); have n1_ := Aside0.mk (below_step (blA HB.out) hb); have n2_ := Aside0.mk (hbox); have n3_ := Aside0.mk ((by rw [hg]; exact (below_size (blA HB.out)) : w.heap.size ≤ gb159)); have n4_ := Aside0.mk ((by rw [hg]; exact (below_size (blA HB.out)) : w.heap.size ≤ gb159)); have n5_ := Aside0.mk ((by rw [hg]; exact Nat.ne_of_lt (blk_lt (bkA BK158.out)) : gb158 ≠ gb159)); have n6_ := Aside0.mk ((by rw [hg]; exact Nat.ne_of_gt (blk_lt (bkA BK158.out)) : gb159 ≠ gb158)); clear BK158; clear HB; have BK158 := n0_; have HB := n1_; have BK159 := n2_; have GW159 := n3_; have GE159 := n4_; have NB158_159 := n5_; have NB159_158 := n6_; clear n0_ n1_ n2_ n3_ n4_ n5_ n6_; clear hb hbox hg; have hnb52 := NB159_158.out; have hnc52 := NB158_159.out; have hcz53 := fun i => blk_cell BK159.out i; have hfz53 := fun i => blk_frozen BK159.out i; ))
        go_ret2
        exact ⟨by first | rfl | (simp [errW_none, errW_some] <;> rfl) | (simp [*, errW_none, errW_some] <;> rfl), blA HB.out⟩
end Go.Proofs.Ythiiodgpdoljoaa.PLw
namespace Go.Proofs.Ythiiodgpdoljoaa.Bit
open Go Go.RowKit Go.Proofs.Ythiiodgpdoljoaa.PLw Go.Proofs.YthiiodgpdoljoaaW.PrintWords Go.Proofs.YthiiodgpdoljoaaW.PrintLast
set_option linter.unusedVariables false
set_option linter.unusedSimpArgs false
theorem wrap64u (n : Nat) (h : n < 2 ^ 64) : IntKind.u64.wrap (n : Int) = n := by
  simp [IntKind.wrap, IntKind.bits, IntKind.signed]; omega
theorem band (a b : Nat) (ha : a < 2 ^ 64) (hb : b < 2 ^ 64) : Go.bits .and .u64 a b = ((a &&& b : Nat) : Int) := by
  have ha' : a % 2 ^ 64 = a := Nat.mod_eq_of_lt ha
  have hb' : b % 2 ^ 64 = b := Nat.mod_eq_of_lt hb
  have e : (BitVec.ofNat 64 a &&& BitVec.ofNat 64 b).toNat = a &&& b := by rw [BitVec.toNat_and, BitVec.toNat_ofNat, BitVec.toNat_ofNat, ha', hb']
  have hw := wrap64u (a &&& b) (Nat.and_lt_two_pow _ hb)
  simp only [Go.bits, BitVec.ofInt_natCast, IntKind.bits]
  exact (congrArg (fun z : Nat => IntKind.u64.wrap (z : Int)) e).trans hw
theorem bor (a b : Nat) (ha : a < 2 ^ 64) (hb : b < 2 ^ 64) : Go.bits .or .u64 a b = ((a ||| b : Nat) : Int) := by
  have ha' : a % 2 ^ 64 = a := Nat.mod_eq_of_lt ha
  have hb' : b % 2 ^ 64 = b := Nat.mod_eq_of_lt hb
  have e : (BitVec.ofNat 64 a ||| BitVec.ofNat 64 b).toNat = a ||| b := by rw [BitVec.toNat_or, BitVec.toNat_ofNat, BitVec.toNat_ofNat, ha', hb']
  have hw := wrap64u (a ||| b) (Nat.or_lt_two_pow ha hb)
  simp only [Go.bits, BitVec.ofInt_natCast, IntKind.bits]
  exact (congrArg (fun z : Nat => IntKind.u64.wrap (z : Int)) e).trans hw
theorem bxor (a b : Nat) (ha : a < 2 ^ 64) (hb : b < 2 ^ 64) : Go.bits .xor .u64 a b = ((a ^^^ b : Nat) : Int) := by
  have ha' : a % 2 ^ 64 = a := Nat.mod_eq_of_lt ha
  have hb' : b % 2 ^ 64 = b := Nat.mod_eq_of_lt hb
  have e : (BitVec.ofNat 64 a ^^^ BitVec.ofNat 64 b).toNat = a ^^^ b := by rw [BitVec.toNat_xor, BitVec.toNat_ofNat, BitVec.toNat_ofNat, ha', hb']
  have hw := wrap64u (a ^^^ b) (Nat.xor_lt_two_pow ha hb)
  simp only [Go.bits, BitVec.ofInt_natCast, IntKind.bits]
  exact (congrArg (fun z : Nat => IntKind.u64.wrap (z : Int)) e).trans hw
def madeN (n : Nat) (k : Int) (s x y : Nat) : Nat × Nat :=
  if k = 1 then (x ^^^ y, 0) else if k = 2 then (x &&& y, 0) else if k = 3 then (x ^^^ (2 ^ n - 1), 0)
  else if k = 4 then ((x <<< s) &&& (2 ^ n - 1), 0) else if k = 5 then (x >>> s, 0) else if k = 6 then (((x <<< s) ||| (x >>> (n - s))) &&& (2 ^ n - 1), 0)
  else if k = 7 then ((x + y) &&& (2 ^ n - 1), ((x + y) ^^^ x ^^^ y) / 2) else (0, 0)
end Go.Proofs.Ythiiodgpdoljoaa.Bit
namespace Go.Proofs.Ythiiodgpdoljoaa.Bit
open Go Go.RowKit Go.Proofs.Ythiiodgpdoljoaa.PLw Go.Proofs.YthiiodgpdoljoaaW.PrintWords Go.Proofs.YthiiodgpdoljoaaW.PrintLast Go.Proofs.YthiiodgpdoljoaaW.PrintMore
set_option linter.unusedVariables false
set_option linter.unusedSimpArgs false
theorem most_eq (w : Nat) (hw : w ≤ 5) : witness_most.f (w : Int) = some (((2 ^ 2 ^ w - 1 : Nat) : Int)) := by
  have : w = 0 ∨ w = 1 ∨ w = 2 ∨ w = 3 ∨ w = 4 ∨ w = 5 := by omega
  rcases this with rfl | rfl | rfl | rfl | rfl | rfl <;> decide
theorem shl_nat (x s : Nat) (hx : x < 2 ^ 32) (hs : s < 32) : shl .u64 (x : Int) (s : Int) = ((x <<< s : Nat) : Int) := by
  have h1 : x * 2 ^ s < 2 ^ 64 := by
    have h2 : 2 ^ s ≤ 2 ^ 32 := Nat.pow_le_pow_right (by decide) (by omega)
    have h3 := Nat.mul_le_mul (Nat.le_of_lt hx) h2
    have h4 : x * 2 ^ s ≤ (2 ^ 32 - 1) * 2 ^ 32 := Nat.mul_le_mul (by omega) h2
    omega
  unfold shl
  rw [show min (s : Int).toNat IntKind.u64.bits = s from by simp [IntKind.bits]; omega, Nat.shiftLeft_eq]
  have := wrap64u (x * 2 ^ s) h1
  rw [← this]
  push_cast
  rfl
theorem shr_nat (x s : Nat) (hs : s ≤ 32) : shr .u64 (x : Int) (s : Int) = ((x >>> s : Nat) : Int) := by
  unfold shr
  rw [show min (s : Int).toNat IntKind.u64.bits = s from by simp [IntKind.bits]; omega, Nat.shiftRight_eq_div_pow]
  push_cast
  rfl
theorem made_eq (w : Nat) (hw : w ≤ 5) (a1 a2 a3 a4 : Int) (l : List S105) (k dst p q : Int) (s x y : Nat) (hk : 1 ≤ k) (hk7 : k ≤ 7) (hs : 4 ≤ k → k ≤ 6 → s < 2 ^ w) (hx : x < 2 ^ 2 ^ w) (hy : y < 2 ^ 2 ^ w) :
    witness_made.f (w : Int) a1 a2 a3 a4 l k dst p q (s : Int) (x : Int) (y : Int) = some (((madeN (2 ^ w) k s x y).1 : Int), ((madeN (2 ^ w) k s x y).2 : Int)) := by
  have hn : 2 ^ w ≤ 32 := by
    have : w = 0 ∨ w = 1 ∨ w = 2 ∨ w = 3 ∨ w = 4 ∨ w = 5 := by omega
    rcases this with rfl | rfl | rfl | rfl | rfl | rfl <;> decide
  have hp : 2 ^ 2 ^ w ≤ 2 ^ 32 := Nat.pow_le_pow_right (by decide) hn
  have hpos : 0 < 2 ^ 2 ^ w := Nat.two_pow_pos _
  have hm := most_eq w hw
  have hshl1 : shl .i64 1 (w : Int) = ((2 ^ w : Nat) : Int) := by
    have : w = 0 ∨ w = 1 ∨ w = 2 ∨ w = 3 ∨ w = 4 ∨ w = 5 := by omega
    rcases this with rfl | rfl | rfl | rfl | rfl | rfl <;> decide
  generalize hM : 2 ^ 2 ^ w = M at *
  have hk' : k = 1 ∨ k = 2 ∨ k = 3 ∨ k = 4 ∨ k = 5 ∨ k = 6 ∨ k = 7 := by omega
  rcases hk' with rfl | rfl | rfl | rfl | rfl | rfl | rfl
  · simp only [witness_made.f, madeN, if_true]
    rw [bxor x y (by omega) (by omega)]; rfl
  · simp only [witness_made.f, madeN, Int.reduceEq, if_true, if_false]
    rw [band x y (by omega) (by omega)]; rfl
  · simp only [witness_made.f, madeN, Int.reduceEq, if_true, if_false, hm, Option.bind_some]
    rw [bxor x (M - 1) (by omega) (by omega), hM]; rfl
  · have hs' := hs (by omega) (by omega)
    have h1 : x <<< s < 2 ^ 64 := by rw [Nat.shiftLeft_eq]; exact Nat.lt_of_le_of_lt (Nat.mul_le_mul (show x ≤ 2 ^ 32 - 1 by omega) (Nat.pow_le_pow_right (by decide) (show s ≤ 31 by omega))) (by decide)
    simp only [witness_made.f, witness_shifted.f, madeN, Int.reduceEq, if_true, if_false, hm, Option.bind_some]
    rw [if_pos (by omega), if_pos (by omega), shl_nat x s (by omega) (by omega), band _ (M - 1) h1 (by omega), hM]; rfl
  · have hs' := hs (by omega) (by omega)
    simp only [witness_made.f, witness_shifted.f, madeN, Int.reduceEq, if_true, if_false, hm, Option.bind_some]
    rw [if_pos (by omega), if_pos (by omega), shr_nat x s (by omega)]; rfl
  · have hs' := hs (by omega) (by omega)
    have h1 : x <<< s < 2 ^ 64 := by rw [Nat.shiftLeft_eq]; exact Nat.lt_of_le_of_lt (Nat.mul_le_mul (show x ≤ 2 ^ 32 - 1 by omega) (Nat.pow_le_pow_right (by decide) (show s ≤ 31 by omega))) (by decide)
    have h2 : x >>> (2 ^ w - s) < 2 ^ 64 := by rw [Nat.shiftRight_eq_div_pow]; exact Nat.lt_of_le_of_lt (Nat.div_le_self _ _) (by omega)
    have e : wrap64 (shl .i64 1 (w : Int) - (s : Int)) = ((2 ^ w - s : Nat) : Int) := by rw [hshl1]; unfold wrap64; omega
    simp only [witness_made.f, witness_shifted.f, madeN, Int.reduceEq, if_true, if_false, hm, Option.bind_some]
    rw [e, if_pos (by omega), if_pos (by omega), if_pos (by omega), shl_nat x s (by omega) (by omega), shr_nat x _ (by omega), bor _ _ h1 h2, band _ (M - 1) (Nat.or_lt_two_pow h1 h2) (by omega), hM]; rfl
  · have hxy : IntKind.u64.wrap ((x : Int) + (y : Int)) = ((x + y : Nat) : Int) := by rw [← wrap64u (x + y) (by omega)]; push_cast; rfl
    have h1 : (x + y) ^^^ x < 2 ^ 64 := Nat.xor_lt_two_pow (by omega) (by omega)
    have h2 : (x + y) ^^^ x ^^^ y < 2 ^ 64 := Nat.xor_lt_two_pow h1 (by omega)
    simp only [witness_made.f, madeN, Int.reduceEq, if_true, if_false, hm, Option.bind_some]
    rw [hxy, band _ (M - 1) (by omega) (by omega), bxor _ x (by omega) (by omega), bxor _ y h1 (by omega), hM]
    push_cast
    rfl
end Go.Proofs.Ythiiodgpdoljoaa.Bit
namespace Go.Proofs.Ythiiodgpdoljoaa.PLw
open Go.RowKit Go.Proofs.YthiiodgpdoljoaaW.PrintWords Go.Proofs.YthiiodgpdoljoaaW.PrintLast Go.Proofs.YthiiodgpdoljoaaW.PrintMore
attribute [local go_sem] max2_int min2_int max_two min_two max_three min_three max_four min_four   -- for this text's walks alone
set_option linter.unusedVariables false
set_option linter.unusedSimpArgs false
/-! ### steepleref15_Two: function 32 -/
def steepleref15_Two.l0 : Nat → Int → Int → Int → Option (Int)
 | 0, _, _, _ => none
 | k + 1, x0, x3, x4 => if x4 < x0 then (steepleref15_Two.l0 k x0 (wrap64 (2 * x3)) (wrap64 (x4 + 1))) else (some x3)
def steepleref15_Two.f (k : Nat) (a0 : Int) : Option (Int) := steepleref15_Two.l0 k a0 1 0
theorem steepleref15_Two.mono_l : ∀ k, (∀ y0 y1 y2, LeO (steepleref15_Two.l0 k y0 y1 y2) (steepleref15_Two.l0 (k + 1) y0 y1 y2))
 | 0 => fun _ _ _ r h => by simp [steepleref15_Two.l0] at h
 | k + 1 => by
  have ih0 := steepleref15_Two.mono_l k
  ·intro y0 y1 y2
   unfold steepleref15_Two.l0
   repeat' first
   | (with_reducible exact ih0 _ _ _)
   | (with_reducible exact LeO.refl _)
   | (with_reducible exact LeO.none _)
   | (with_reducible refine LeO.ite ?_ ?_)
   | (with_reducible refine LeO.bind ?_ (fun _ => ?_))
   | exact ih0 _ _ _
   | exact LeO.none _
   | refine LeO.ite ?_ ?_
   | refine LeO.bind ?_ (fun _ => ?_)
theorem steepleref15_Two.mono : ∀ a0 k, LeO (steepleref15_Two.f k a0) (steepleref15_Two.f (k + 1) a0) := by
 intro a0 k
 have ih0 := steepleref15_Two.mono_l k
 unfold steepleref15_Two.f
 repeat' first
   | (with_reducible exact ih0 _ _ _)
   | (with_reducible exact LeO.refl _)
   | (with_reducible exact LeO.none _)
   | (with_reducible refine LeO.ite ?_ ?_)
   | (with_reducible refine LeO.bind ?_ (fun _ => ?_))
   | exact ih0 _ _ _
   | exact LeO.none _
   | refine LeO.ite ?_ ?_
   | refine LeO.bind ?_ (fun _ => ?_)
set_option maxHeartbeats 8000000 in
set_option maxRecDepth 100000 in
theorem steepleref15_Two.calls (k : Nat) (a0 : Int) (r : Int) (w : World) (h : steepleref15_Two.f k a0 = some r) :
  Calls Try.prog 32 #[.int .i64 a0] w fun e w' => e = .returned (.int .i64 r) ∧ Drawn0 w w' := by
 have H : (steepleref15_Two.l0 k a0 1 0) = some r := h; clear h; have H' := Aside0.mk H; clear H
 go_enter Try.func32, Try.ntmps32
 go_wp2
 go_loopg [3, 4] k (fun kq v3 v4 w' => ∃ (x3_1 : Int) (x4_1 : Int), v3 = .int .i64 x3_1 ∧ v4 = .int .i64 x4_1 ∧ Aside0 (steepleref15_Two.l0 kq a0 x3_1 x4_1 = some r) ∧ Aside0 (kq ≤ k) ∧ Drawn0 w w')
 case atStart => exact ⟨(1), (0), eqA, eqA, H', ⟨Nat.le_refl _⟩, dwA⟩
 case round =>
  clear H'
  obtain ⟨x3_1, x4_1, rfl, rfl, HA, HK1, ⟨m1, rfl⟩⟩ := hrel
  cases gk with
  | zero => exact absurd HA.out (by simp [steepleref15_Two.l0])
  | succ k1 =>
   have H := HA.out; clear HA
   simp only [steepleref15_Two.l0] at H
   by_cases c2 : x4_1 < a0
   ·rw [if_pos c2] at H
    have c2b0 : decide (x4_1 < a0) = true := decide_eq_true c2; clear c2; have H' := Aside0.mk H; clear H
    go_wp2
    go_roundg k1
    case measure => have := HK1.out; omega
    case rel => exact ⟨(wrap64 (2 * x3_1)), (wrap64 (x4_1 + 1)), eqA, eqA, H', ⟨by have := HK1.out; omega⟩, dwA⟩
   ·rw [if_neg c2] at H
    have c2b0 : decide (x4_1 < a0) = false := decide_eq_false c2; clear c2; obtain rfl := Option.some.inj H
    go_wp2
    go_ret
    exact ⟨eqA, dwA⟩
/-! ### steepleref18_Fits: function 56 -/
def steepleref18_Fits.f (k : Nat) (a0 : Int) (a1 : Int) (a2 : Int) : Option (Bool) := if a0 < 0 then (some false) else (if a0 > 3 then (some false) else (if a1 < 0 then (some false) else (if a1 > 6 then (some false) else (if a2 < 0 then (some false) else ((steepleref15_Two.f k a1).bind fun t108 => (if a2 ≥ t108 then (some false) else (if a0 = 0 then (some (a2 == 0)) else (some true))))))))
theorem steepleref18_Fits.mono : ∀ a0 a1 a2 k, LeO (steepleref18_Fits.f k a0 a1 a2) (steepleref18_Fits.f (k + 1) a0 a1 a2) := by
 intro a0 a1 a2 k
 unfold steepleref18_Fits.f
 repeat' first
   | (with_reducible exact steepleref15_Two.mono _ _)
   | (with_reducible exact LeO.refl _)
   | (with_reducible exact LeO.none _)
   | (with_reducible refine LeO.ite ?_ ?_)
   | (with_reducible refine LeO.bind ?_ (fun _ => ?_))
   | exact steepleref15_Two.mono _ _
   | exact LeO.none _
   | refine LeO.ite ?_ ?_
   | refine LeO.bind ?_ (fun _ => ?_)
set_option maxHeartbeats 8000000 in
set_option maxRecDepth 100000 in
theorem steepleref18_Fits.calls (k : Nat) (a0 : Int) (a1 : Int) (a2 : Int) (r : Bool) (w : World) (h : steepleref18_Fits.f k a0 a1 a2 = some r) :
  Calls Try.prog 56 #[.int .i64 a0, .int .i64 a1, .int .i64 a2] w fun e w' => e = .returned (.bool r) ∧ Drawn0 w w' := by
 have H : (if a0 < 0 then (some false) else (if a0 > 3 then (some false) else (if a1 < 0 then (some false) else (if a1 > 6 then (some false) else (if a2 < 0 then (some false) else ((steepleref15_Two.f k a1).bind fun t108 => (if a2 ≥ t108 then (some false) else (if a0 = 0 then (some (a2 == 0)) else (some true))))))))) = some r := h
 clear h
 by_cases c4 : a0 < 0
 ·rw [if_pos c4] at H
  have c4b0 : decide (a0 < 0) = true := decide_eq_true c4; clear c4; obtain rfl := Option.some.inj H
  go_enter Try.func56, Try.ntmps56
  go_wp2
  go_ret
  exact ⟨eqA, dwA⟩
 ·rw [if_neg c4] at H
  have c4b0 : decide (a0 < 0) = false := decide_eq_false c4; clear c4
  by_cases c5 : a0 > 3
  ·rw [if_pos c5] at H
   have c5b0 : decide (3 < a0) = true := decide_eq_true c5; clear c5; obtain rfl := Option.some.inj H
   go_enter Try.func56, Try.ntmps56
   go_wp2
   go_ret
   exact ⟨eqA, dwA⟩
  ·rw [if_neg c5] at H
   have c5b0 : decide (3 < a0) = false := decide_eq_false c5; clear c5
   by_cases c6 : a1 < 0
   ·rw [if_pos c6] at H
    have c6b0 : decide (a1 < 0) = true := decide_eq_true c6; clear c6; obtain rfl := Option.some.inj H
    go_enter Try.func56, Try.ntmps56
    go_wp2
    go_ret
    exact ⟨eqA, dwA⟩
   ·rw [if_neg c6] at H
    have c6b0 : decide (a1 < 0) = false := decide_eq_false c6; clear c6
    by_cases c7 : a1 > 6
    ·rw [if_pos c7] at H
     have c7b0 : decide (6 < a1) = true := decide_eq_true c7; clear c7; obtain rfl := Option.some.inj H
     go_enter Try.func56, Try.ntmps56
     go_wp2
     go_ret
     exact ⟨eqA, dwA⟩
    ·rw [if_neg c7] at H
     have c7b0 : decide (6 < a1) = false := decide_eq_false c7; clear c7
     by_cases c8 : a2 < 0
     ·rw [if_pos c8] at H
      have c8b0 : decide (a2 < 0) = true := decide_eq_true c8; clear c8; obtain rfl := Option.some.inj H
      go_enter Try.func56, Try.ntmps56
      go_wp2
      go_ret
      exact ⟨eqA, dwA⟩
     ·rw [if_neg c8] at H
      have c8b0 : decide (a2 < 0) = false := decide_eq_false c8; clear c8; replace H := Option.bind_eq_some_iff.mp H; obtain ⟨t108, A90, H⟩ := H
      (try dsimp only at H)
      have A9 := Aside0.mk A90; clear A90
      by_cases c10 : a2 ≥ t108
      ·rw [if_pos c10] at H
       have c10b0 : decide (t108 ≤ a2) = true := decide_eq_true c10; clear c10; obtain rfl := Option.some.inj H
       go_enter Try.func56, Try.ntmps56
       go_wp2_with (first | (go_at_call 32; (with_reducible refine (steepleref15_Two.calls k a1 t108 _ A9.out).mono ?_); rintro e w' ⟨rfl, ⟨nd, rfl⟩⟩))
       go_ret
       exact ⟨eqA, dwA⟩
      ·rw [if_neg c10] at H
       have c10b0 : decide (t108 ≤ a2) = false := decide_eq_false c10; clear c10
       by_cases c11 : a0 = 0
       ·rw [if_pos c11] at H
        have c11b0 : (a0 == 0) = true := beq_iff_eq.mpr c11; have c11b1 : (a0 != 0) = false := bne_eq_false_iff_eq.mpr c11; clear c11; obtain rfl := Option.some.inj H
        go_enter Try.func56, Try.ntmps56
        go_wp2_with (first | (go_at_call 32; (with_reducible refine (steepleref15_Two.calls k a1 t108 _ A9.out).mono ?_); rintro e w' ⟨rfl, ⟨nd, rfl⟩⟩))
        go_ret
        exact ⟨eqA, dwA⟩
       ·rw [if_neg c11] at H
        have c11b0 : (a0 == 0) = false := beq_eq_false_iff_ne.mpr c11; have c11b1 : (a0 != 0) = true := bne_iff_ne.mpr c11; obtain rfl := Option.some.inj H
        go_enter Try.func56, Try.ntmps56
        go_wp2_with (first | (go_at_call 32; (with_reducible refine (steepleref15_Two.calls k a1 t108 _ A9.out).mono ?_); rintro e w' ⟨rfl, ⟨nd, rfl⟩⟩))
        go_ret
        exact ⟨eqA, dwA⟩
/-! ### steepleref25_Makes: function 60 -/
def steepleref25_Makes.f (a0_0 : Int) (a0_1 : Int) (a0_2 : Int) (a0_3 : Int) (a0_4 : Int) : Option (Int) := if a0_0 = 8 then (some 0) else (if a0_0 = 7 then (some 2) else (some 1))
set_option maxHeartbeats 8000000 in
set_option maxRecDepth 100000 in
theorem steepleref25_Makes.calls (a0_0 : Int) (a0_1 : Int) (a0_2 : Int) (a0_3 : Int) (a0_4 : Int) (r : Int) (w : World) (h : steepleref25_Makes.f a0_0 a0_1 a0_2 a0_3 a0_4 = some r) :
  Calls Try.prog 60 #[.agg #[.int .i64 a0_0, .int .i64 a0_1, .int .i64 a0_2, .int .i64 a0_3, .int .i64 a0_4]] w fun e w' => e = .returned (.int .i64 r) ∧ Below w.heap.size w w' := by
 have hu106 := Try.underlying106; have HB := Aside0.mk (Below.refl w.heap.size w)
 have H : (if a0_0 = 8 then (some 0) else (if a0_0 = 7 then (some 2) else (some 1))) = some r := h
 clear h
 by_cases c2 : a0_0 = 8
 ·rw [if_pos c2] at H
  have c2b0 : (a0_0 == 8) = true := beq_iff_eq.mpr c2; have c2b1 : (a0_0 != 8) = false := bne_eq_false_iff_eq.mpr c2; clear c2; obtain rfl := Option.some.inj H
  go_enter Try.func60, Try.ntmps60
  go_wp2_with (first | ((with_reducible refine gate_dst (N := 1) rfl ?_); refine box_event ?hg (N := 1) ?hd (cs := #[.int .i64 a0_0, .int .i64 a0_1, .int .i64 a0_2, .int .i64 a0_3, .int .i64 a0_4]) (t := 106) ?hr ?_; (case hd => rfl); (case hg => rfl); (case hr => first | (go_simp; done) | (go_simp; rfl)); intro gb109 hg w3 hbox hb; have n0_ := Aside0.mk (below_step (blA HB.out) hb); have n1_ := Aside0.mk (hbox); have n2_ := Aside0.mk ((by rw [hg]; exact (below_size (blA HB.out)) : w.heap.size ≤ gb109)); have n3_ := Aside0.mk ((by rw [hg]; exact (below_size (blA HB.out)) : w.heap.size ≤ gb109)); clear HB; have HB := n0_; have BK109 := n1_; have GW109 := n2_; have GE109 := n3_; clear n0_ n1_ n2_ n3_; clear hb hbox hg; have hcz4 := fun i => blk_cell BK109.out i; have hfz4 := fun i => blk_frozen BK109.out i; ))
  go_ret
  exact ⟨by first | rfl | (simp [errW_none, errW_some] <;> rfl) | (simp [*, errW_none, errW_some] <;> rfl), blA HB.out⟩
 ·rw [if_neg c2] at H
  have c2b0 : (a0_0 == 8) = false := beq_eq_false_iff_ne.mpr c2; have c2b1 : (a0_0 != 8) = true := bne_iff_ne.mpr c2
  by_cases c5 : a0_0 = 7
  ·rw [if_pos c5] at H
   have c5b0 : (a0_0 == 7) = true := beq_iff_eq.mpr c5; have c5b1 : (a0_0 != 7) = false := bne_eq_false_iff_eq.mpr c5; clear c5; obtain rfl := Option.some.inj H
   go_enter Try.func60, Try.ntmps60
   go_wp2_with (first | ((with_reducible refine gate_dst (N := 1) rfl ?_); refine box_event ?hg (N := 1) ?hd (cs := #[.int .i64 a0_0, .int .i64 a0_1, .int .i64 a0_2, .int .i64 a0_3, .int .i64 a0_4]) (t := 106) ?hr ?_; (case hd => rfl); (case hg => rfl); (case hr => first | (go_simp; done) | (go_simp; rfl)); intro gb109 hg w6 hbox hb; have n0_ := Aside0.mk (below_step (blA HB.out) hb); have n1_ := Aside0.mk (hbox); have n2_ := Aside0.mk ((by rw [hg]; exact (below_size (blA HB.out)) : w.heap.size ≤ gb109)); have n3_ := Aside0.mk ((by rw [hg]; exact (below_size (blA HB.out)) : w.heap.size ≤ gb109)); clear HB; have HB := n0_; have BK109 := n1_; have GW109 := n2_; have GE109 := n3_; clear n0_ n1_ n2_ n3_; clear hb hbox hg; have hcz7 := fun i => blk_cell BK109.out i; have hfz7 := fun i => blk_frozen BK109.out i; ))
   go_ret
   exact ⟨by first | rfl | (simp [errW_none, errW_some] <;> rfl) | (simp [*, errW_none, errW_some] <;> rfl), blA HB.out⟩
  ·rw [if_neg c5] at H
   have c5b0 : (a0_0 == 7) = false := beq_eq_false_iff_ne.mpr c5; have c5b1 : (a0_0 != 7) = true := bne_iff_ne.mpr c5; obtain rfl := Option.some.inj H
   go_enter Try.func60, Try.ntmps60
   go_wp2_with (first | ((with_reducible refine gate_dst (N := 1) rfl ?_); refine box_event ?hg (N := 1) ?hd (cs := #[.int .i64 a0_0, .int .i64 a0_1, .int .i64 a0_2, .int .i64 a0_3, .int .i64 a0_4]) (t := 106) ?hr ?_; (case hd => rfl); (case hg => rfl); (case hr => first | (go_simp; done) | (go_simp; rfl)); intro gb109 hg w8 hbox hb; have n0_ := Aside0.mk (below_step (blA HB.out) hb); have n1_ := Aside0.mk (hbox); have n2_ := Aside0.mk ((by rw [hg]; exact (below_size (blA HB.out)) : w.heap.size ≤ gb109)); have n3_ := Aside0.mk ((by rw [hg]; exact (below_size (blA HB.out)) : w.heap.size ≤ gb109)); clear HB; have HB := n0_; have BK109 := n1_; have GW109 := n2_; have GE109 := n3_; clear n0_ n1_ n2_ n3_; clear hb hbox hg; have hcz9 := fun i => blk_cell BK109.out i; have hfz9 := fun i => blk_frozen BK109.out i; ))
   go_ret
   exact ⟨by first | rfl | (simp [errW_none, errW_some] <;> rfl) | (simp [*, errW_none, errW_some] <;> rfl), blA HB.out⟩
/-! ### steepleref25_two: function 89 -/
def steepleref25_two.f (a0 : Int) : Option (Bool) := if a0 = 1 then (some true) else (if a0 = 2 then (some true) else (if a0 = 7 then (some true) else (some (a0 == 8))))
set_option maxHeartbeats 8000000 in
set_option maxRecDepth 100000 in
theorem steepleref25_two.calls (a0 : Int) (r : Bool) (w : World) (h : steepleref25_two.f a0 = some r) :
  Calls Try.prog 89 #[.int .i64 a0] w fun e w' => e = .returned (.bool r) ∧ Drawn0 w w' := by
 have H : (if a0 = 1 then (some true) else (if a0 = 2 then (some true) else (if a0 = 7 then (some true) else (some (a0 == 8))))) = some r := h
 clear h
 by_cases c2 : a0 = 1
 ·rw [if_pos c2] at H
  have c2b0 : (a0 == 1) = true := beq_iff_eq.mpr c2; have c2b1 : (a0 != 1) = false := bne_eq_false_iff_eq.mpr c2; clear c2; obtain rfl := Option.some.inj H
  go_enter Try.func89, Try.ntmps89
  go_wp2
  go_ret
  exact ⟨eqA, dwA⟩
 ·rw [if_neg c2] at H
  have c2b0 : (a0 == 1) = false := beq_eq_false_iff_ne.mpr c2; have c2b1 : (a0 != 1) = true := bne_iff_ne.mpr c2
  by_cases c3 : a0 = 2
  ·rw [if_pos c3] at H
   have c3b0 : (a0 == 2) = true := beq_iff_eq.mpr c3; have c3b1 : (a0 != 2) = false := bne_eq_false_iff_eq.mpr c3; clear c3; obtain rfl := Option.some.inj H
   go_enter Try.func89, Try.ntmps89
   go_wp2
   go_ret
   exact ⟨eqA, dwA⟩
  ·rw [if_neg c3] at H
   have c3b0 : (a0 == 2) = false := beq_eq_false_iff_ne.mpr c3; have c3b1 : (a0 != 2) = true := bne_iff_ne.mpr c3
   by_cases c4 : a0 = 7
   ·rw [if_pos c4] at H
    have c4b0 : (a0 == 7) = true := beq_iff_eq.mpr c4; have c4b1 : (a0 != 7) = false := bne_eq_false_iff_eq.mpr c4; clear c4; obtain rfl := Option.some.inj H
    go_enter Try.func89, Try.ntmps89
    go_wp2
    go_ret
    exact ⟨eqA, dwA⟩
   ·rw [if_neg c4] at H
    have c4b0 : (a0 == 7) = false := beq_eq_false_iff_ne.mpr c4; have c4b1 : (a0 != 7) = true := bne_iff_ne.mpr c4; obtain rfl := Option.some.inj H
    go_enter Try.func89, Try.ntmps89
    go_wp2
    go_ret
    exact ⟨eqA, dwA⟩
end Go.Proofs.Ythiiodgpdoljoaa.PLw
namespace Go.Proofs.Ythiiodgpdoljoaa.Bit
open Go Go.RowKit Go.Proofs.Ythiiodgpdoljoaa.PLw Go.Proofs.YthiiodgpdoljoaaW.PrintWords Go.Proofs.YthiiodgpdoljoaaW.PrintLast Go.Proofs.YthiiodgpdoljoaaW.PrintMore
set_option linter.unusedVariables false
set_option linter.unusedSimpArgs false
theorem w64 {x : Int} (h0 : -1000000 ≤ x) (h1 : x ≤ 1000000) : wrap64 x = x := by unfold wrap64; omega
theorem two_eq (m w : Nat) (hw : w ≤ 6) : steepleref15_Two.f (m + 9) (w : Int) = some ((2 ^ w : Nat) : Int) := by
  have : w = 0 ∨ w = 1 ∨ w = 2 ∨ w = 3 ∨ w = 4 ∨ w = 5 ∨ w = 6 := by omega
  rcases this with rfl | rfl | rfl | rfl | rfl | rfl | rfl <;> simp [steepleref15_Two.f, steepleref15_Two.l0, wrap64]
theorem two_le {w : Nat} (hw : w ≤ 5) : 1 ≤ 2 ^ w ∧ 2 ^ w ≤ 32 := by
  have : w = 0 ∨ w = 1 ∨ w = 2 ∨ w = 3 ∨ w = 4 ∨ w = 5 := by omega
  rcases this with rfl | rfl | rfl | rfl | rfl | rfl <;> decide
end Go.Proofs.Ythiiodgpdoljoaa.Bit
