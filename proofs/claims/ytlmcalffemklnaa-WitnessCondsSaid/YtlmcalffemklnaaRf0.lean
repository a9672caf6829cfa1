/- Types of what a walk knows of values, and a walk by reckoning: what a Go function comes to is computed out of its operations by one function. -/
import Derived.Calls
import Derived.KernelRfl
import Derived.Laws.Sem
import Derived.Orders
import Derived.Laws.World
import Derived.Below
set_option linter.unusedVariables false
set_option linter.unusedSimpArgs false
namespace Go.Proofs.Ytlmcalffemklnaa.Rf
inductive Ty where
  | int (k : IntKind) | bool | str | nils | nilp | hole | unit
  | sl (fr : Bool) (t : Ty) | osl (fr : Bool) (t : Ty) | optr (fr : Bool) (t : Ty) | sptr (t : Ty)
  | pair (a b : Ty) | arr (n : Nat) (t : Ty)
  deriving DecidableEq
def Ty.den : Ty → Type
  | .int _ => Int | .bool => Bool | .str => ByteArray | .nils => Unit | .nilp => Unit | .hole => Unit | .unit => Unit
  | .sl _ t => List t.den | .osl _ t => List t.den | .optr _ t => t.den | .sptr t => t.den
  | .pair a b => a.den × b.den | .arr _ t => List t.den
def Ty.sz : Ty → Nat
  | .pair a b => a.sz + b.sz | .arr n t => n * t.sz | .unit => 0 | _ => 1
def Ty.hasOwn : Ty → Bool
  | .osl _ _ => true | .optr _ _ => true | .pair a b => a.hasOwn || b.hasOwn | .arr _ t => t.hasOwn | .hole => true | .sl _ t => t.hasOwn | .sptr t => t.hasOwn | _ => false
def Ty.agg : Ty → Bool
  | .pair _ _ => true | .arr _ _ => true | .unit => true | _ => false
def Ty.dflt : (t : Ty) → t.den
  | .int _ => (0 : Int) | .bool => false | .str => ByteArray.empty | .nils => () | .nilp => () | .hole => () | .unit => ()
  | .sl _ _ => [] | .osl _ _ => [] | .optr _ t => t.dflt | .sptr t => t.dflt
  | .pair a b => (a.dflt, b.dflt) | .arr n t => List.replicate n t.dflt
/-- One type's values with the marks of ownership left out. -/
def Ty.er : Ty → Ty
  | .sl _ t => .sl false t.er | .osl _ t => .sl false t.er | .optr _ t => .sptr t.er | .sptr t => .sptr t.er
  | .pair a b => .pair a.er b.er | .arr n t => .arr n t.er | t => t
def Ty.frz : Ty → Ty
  | .sl f t => .sl f t.frz | .osl f t => .sl f t.frz | .optr _ t => .sptr t.frz | .sptr t => .sptr t.frz
  | .pair a b => .pair a.frz b.frz | .arr n t => .arr n t.frz | t => t
theorem Ty.den_er : (t : Ty) → t.er.den = t.den
  | .int _ => rfl | .bool => rfl | .str => rfl | .nils => rfl | .nilp => rfl | .hole => rfl | .unit => rfl
  | .sl _ t => congrArg List t.den_er | .osl _ t => congrArg List t.den_er | .optr _ t => t.den_er | .sptr t => t.den_er
  | .pair a b => by show (a.er.den × b.er.den) = (a.den × b.den); rw [a.den_er, b.den_er]
  | .arr _ t => congrArg List t.den_er
def Ty.beq : Ty → Ty → Bool
  | .int k, .int k' => decide (k = k') | .bool, .bool => true | .str, .str => true | .nils, .nils => true | .nilp, .nilp => true
  | .hole, .hole => true | .unit, .unit => true
  | .sl f t, .sl f' t' => (f == f') && t.beq t' | .osl f t, .osl f' t' => (f == f') && t.beq t' | .optr f t, .optr f' t' => (f == f') && t.beq t'
  | .sptr t, .sptr t' => t.beq t' | .pair a b, .pair a' b' => a.beq a' && b.beq b' | .arr n t, .arr n' t' => Nat.beq n n' && t.beq t'
  | _, _ => false
theorem Ty.eq_of_beq : (a b : Ty) → a.beq b = true → a = b := by
  intro a
  induction a with
  | int k => intro b h; cases b <;> simp_all [Ty.beq]
  | sl f t ih => intro b h; cases b <;> simp_all [Ty.beq]; exact ih _ h.2
  | osl f t ih => intro b h; cases b <;> simp_all [Ty.beq]; exact ih _ h.2
  | optr f t ih => intro b h; cases b <;> simp_all [Ty.beq]; exact ih _ h.2
  | sptr t ih => intro b h; cases b <;> simp_all [Ty.beq]; exact ih _ h
  | pair a c iha ihc => intro b h; cases b <;> simp_all [Ty.beq]; exact ⟨iha _ h.1, ihc _ h.2⟩
  | arr n t ih => intro b h; cases b <;> simp_all [Ty.beq]; exact ih _ h.2
  | _ => intro b h; cases b <;> simp_all [Ty.beq]
/-- 't' may be taken for 'u', which owns nothing: what is shared may be less fresh, what is owned is given up. -/
def Ty.subF : Ty → Ty → Bool
  | .int k, .int k' => decide (k = k') | .bool, .bool => true | .str, .str => true | .nils, .nils => true | .nilp, .nilp => true
  | .unit, .unit => true
  | .sl f t, .sl f' t' => (f || !f') && t.subF t'
  | .osl f t, .sl f' t' => (f || !f') && t.subF t'
  | .optr _ t, .sptr t' => t.subF t'
  | .sptr t, .sptr t' => t.subF t' | .pair a b, .pair a' b' => a.subF a' && b.subF b' | .arr n t, .arr n' t' => Nat.beq n n' && t.subF t'
  | _, _ => false
def Ty.sub (a b : Ty) : Bool :=
  a.beq b || a.subF b || (match a, b with | .osl f t, .osl f' t' => (f == f') && !t.hasOwn && t.subF t' | _, _ => false)
theorem Ty.er_of_subF : (a b : Ty) → a.subF b = true → a.er = b.er := by
  intro a
  induction a with
  | int k => intro b h; cases b <;> simp_all [Ty.subF, Ty.er]
  | sl f t ih => intro b h; cases b <;> simp_all [Ty.subF, Ty.er]; exact ih _ h.2
  | osl f t ih => intro b h; cases b <;> simp_all [Ty.subF, Ty.er]; exact ih _ h.2
  | optr f t ih => intro b h; cases b <;> simp_all [Ty.subF, Ty.er]; exact ih _ h
  | sptr t ih => intro b h; cases b <;> simp_all [Ty.subF, Ty.er]; exact ih _ h
  | pair a c iha ihc => intro b h; cases b <;> simp_all [Ty.subF, Ty.er]; exact ⟨iha _ h.1, ihc _ h.2⟩
  | arr n t ih => intro b h; cases b <;> simp_all [Ty.subF, Ty.er]; exact ih _ h.2
  | _ => intro b h; cases b <;> simp_all [Ty.subF, Ty.er]
theorem Ty.subF_own : (a b : Ty) → a.subF b = true → b.hasOwn = false := by
  intro a
  induction a with
  | int k => intro b h; cases b <;> simp_all [Ty.subF, Ty.hasOwn]
  | sl f t ih => intro b h; cases b <;> simp_all [Ty.subF, Ty.hasOwn]
  | osl f t ih => intro b h; cases b <;> simp_all [Ty.subF, Ty.hasOwn]
  | optr f t ih => intro b h; cases b <;> simp_all [Ty.subF, Ty.hasOwn]
  | sptr t ih => intro b h; cases b <;> simp_all [Ty.subF, Ty.hasOwn]
  | pair a c iha ihc => intro b h; cases b <;> simp_all [Ty.subF, Ty.hasOwn]
  | arr n t ih => intro b h; cases b <;> simp_all [Ty.subF, Ty.hasOwn]
  | _ => intro b h; cases b <;> simp_all [Ty.subF, Ty.hasOwn]
theorem Ty.sub_cases {a b : Ty} (h : a.sub b = true) : a = b ∨ a.subF b = true ∨ ∃ f t t', a = .osl f t ∧ b = .osl f t' ∧ t.hasOwn = false ∧ t.subF t' = true := by
  simp only [Ty.sub, Bool.or_eq_true] at h
  rcases h with (h | h) | h
  · exact .inl (Ty.eq_of_beq _ _ h)
  · exact .inr (.inl h)
  · split at h
    · simp only [Bool.and_eq_true, Bool.not_eq_true'] at h
      rename_i f t f' t'
      have : f = f' := by simpa using h.1.1
      subst this
      exact .inr (.inr ⟨f, t, t', rfl, rfl, h.1.2, h.2⟩)
    · cases h
theorem Ty.den_of_subF {a b : Ty} (h : a.subF b = true) : a.den = b.den := by
  rw [← a.den_er, ← b.den_er, a.er_of_subF b h]
theorem Ty.den_of_sub {a b : Ty} (h : a.sub b = true) : a.den = b.den := by
  rcases Ty.sub_cases h with rfl | h | ⟨f, t, t', rfl, rfl, _, h⟩
  · rfl
  · exact Ty.den_of_subF h
  · exact congrArg List (Ty.den_of_subF h)
abbrev Dv := (t : Ty) × t.den
/-- A value taken for one of another type. -/
def castT (t u : Ty) (x : t.den) : Option u.den :=
  match h : t.sub u with
  | true => some (cast (Ty.den_of_sub h) x)
  | false => none
/-- .. of just this type. -/
def castE (t u : Ty) (x : t.den) : Option u.den :=
  match h : t.beq u with
  | true => some (cast (congrArg Ty.den (Ty.eq_of_beq _ _ h)) x)
  | false => none
def coe : (u : Ty) → (t : Ty) → t.den → Option u.den
  | .sl _ _, .nils, _ => some []
  | .osl _ _, .nils, _ => some []
  | .pair a b, .pair a' b', x =>
    match (Ty.pair a' b').sub (.pair a b) with
    | true => castT (.pair a' b') (.pair a b) x
    | false => match coe a a' x.1, coe b b' x.2 with
      | some y, some z => some (y, z)
      | _, _ => none
  | .optr f a, .optr f' a', x =>
    match f == f' with
    | true => coe a a' x
    | false => none
  | u, t, x => castT t u x
inductive Step where
  | l | r | d | i (n : Nat)
def rd {t : Ty} (l : List t.den) (n : Nat) : t.den := l.getD n t.dflt
def get : List Step → (t : Ty) → t.den → Option Dv
  | [], t, x => some ⟨t, x⟩
  | .l :: p, .pair a _, x => get p a x.1
  | .r :: p, .pair _ b, x => get p b x.2
  | .d :: p, .optr _ t, x => get p t x
  | .i n :: p, .osl _ t, x => get p t (rd x n)
  | .i n :: p, .arr _ t, x => get p t (rd x n)
  | _, _, _ => none
/-- What stands at a place becomes another value: of any type, but in a list. -/
def put : List Step → (t : Ty) → t.den → Dv → Option Dv
  | [], _, _, d => some d
  | .l :: p, .pair a b, x, d => match put p a x.1 d with | some ⟨a', y⟩ => some ⟨.pair a' b, (y, x.2)⟩ | none => none
  | .r :: p, .pair a b, x, d => match put p b x.2 d with | some ⟨b', y⟩ => some ⟨.pair a b', (x.1, y)⟩ | none => none
  | .d :: p, .optr f t, x, d => match put p t x d with | some ⟨t', y⟩ => some ⟨.optr f t', y⟩ | none => none
  | .i n :: p, .osl f t, x, d => match put p t (rd x n) d with
    | some ⟨t', y⟩ => match castE t' t y with | some y => some ⟨.osl f t, x.set n y⟩ | none => none
    | none => none
  | .i n :: p, .arr m t, x, d => match put p t (rd x n) d with
    | some ⟨t', y⟩ => match castE t' t y with | some y => some ⟨.arr m t, x.set n y⟩ | none => none
    | none => none
  | _, _, _, _ => none
inductive Ent where
  | val (d : Dv) | ref (s : Nat) (p : List Step) (t : Ty) | al (s : Nat) (p : List Step) (t : Ty)
  | tup (l : List Dv) | fn (f : FuncId) (caps : List Dv) | dead
abbrev St := Nat → Ent
def Ent.owns : Ent → Bool
  | .val d => d.1.hasOwn
  | .tup l => l.any (·.1.hasOwn)
  | _ => false
def Step.like : Step → Step → Bool
  | .l, .l => true | .r, .r => true | .d, .d => true | .i _, .i _ => true | _, _ => false
def ext : List Step → List Step → Bool
  | [], _ => true
  | _ :: _, [] => false
  | a :: p, b :: q => a.like b && ext p q
/-- What falls where the place 'p' of slot 's' is taken, or gets another header. -/
def Ent.kill (s : Nat) (p : List Step) : Ent → Ent
  | .ref s' q t => match Nat.beq s' s && ext p q && Nat.blt p.length q.length with | true => .dead | false => .ref s' q t
  | .al s' q t => match Nat.beq s' s && ext p q with | true => .dead | false => .al s' q t
  | e => e
def Ent.drop (s : Nat) : Ent → Ent
  | .ref s' q t => match Nat.beq s' s with | true => .dead | false => .ref s' q t
  | .al s' q t => match Nat.beq s' s with | true => .dead | false => .al s' q t
  | e => e
def setS (st : St) (d : Option Nat) (e : Ent) : St :=
  match d with
  | none => st
  | some d => match (st d).owns with
    | true => fun s => match Nat.beq s d with | true => e.drop d | false => (st s).drop d
    | false => fun s => match Nat.beq s d with | true => e.drop d | false => st s
/-- A slot's value moves out. -/
def takeS (st : St) (d : Nat) : St := fun s => match Nat.beq s d with | true => .dead | false => (st s).drop d
def getP (st : St) (s : Nat) (p : List Step) : Option Dv :=
  match st s with
  | .val d => get p d.1 d.2
  | _ => none
def ptrTop : List Step → Ty → Bool
  | [], _ => true
  | _, .optr _ _ => true
  | _, .osl _ _ => true
  | _, _ => false
def putP (st : St) (s : Nat) (p : List Step) (d : Dv) : Option St :=
  match st s with
  | .val ⟨t, x⟩ => match get p t x, ptrTop p t with
    | some old, true => match put p t x d with
      | some new => match !old.1.hasOwn && d.1.beq old.1 with
        | false => some fun s' => match Nat.beq s' s with | true => .val new | false => (st s').kill s p
        | true => some fun s' => match Nat.beq s' s with | true => .val new | false => st s'
      | none => none
    | _, _ => none
  | _ => none
/-- A place's value is shared from here on. -/
def Ty.toFrz (t : Ty) (x : t.den) : Option Dv := match castT t t.frz x with | some y => some ⟨t.frz, y⟩ | none => none
def frzP (st : St) (s : Nat) (p : List Step) : Option (Dv × St) :=
  match getP st s p with
  | some ⟨t, x⟩ => match t.frz.hasOwn with
    | true => none
    | false => match t.toFrz x with
      | some d => match putP st s p d with
        | some st' => some (d, st')
        | none => none
      | none => none
  | none => none
def cst : Value → Ent
  | .int k n => .val ⟨.int k, n⟩
  | .bool b => .val ⟨.bool, b⟩
  | .string s => .val ⟨.str, s⟩
  | .slice none 0 0 => .val ⟨.nils, ()⟩
  | .pointer none => .val ⟨.nilp, ()⟩
  | _ => .dead
def opd (st : St) : Operand → Ent
  | .tmp t => st t
  | .const v => cst v
  | .func f => .fn f []
  | .global _ => .dead
/-- A slot read: of what it owns an other name. -/
def seen (st : St) (x : Operand) : Ent :=
  match x with
  | .tmp s => match st s with
    | .val ⟨.osl f t, y⟩ => .al s [] t
    | .val ⟨.optr f t, y⟩ => .ref s [.d] t
    | .val d => match d.1.hasOwn with | true => .dead | false => .val d
    | .tup l => match (Ent.tup l).owns with | true => .dead | false => .tup l
    | e => e
  | x => opd st x
/-- An operand's value, to be put into something: what it owned is given away. -/
def useV (st : St) (x : Operand) : Option (Dv × St) :=
  match x with
  | .tmp s => match st s with
    | .val d => match d.1.hasOwn with | true => some (d, takeS st s) | false => some (d, st)
    | .al s' p _ => frzP st s' p
    | _ => none
  | x => match opd st x with | .val d => some (d, st) | _ => none
/-- .. a whole slot's value that another name was for moves. -/
def takeV (st : St) (x : Operand) : Option (Dv × St) :=
  match x with
  | .tmp s => match st s with
    | .val d => match d.1.hasOwn with | true => some (d, takeS st s) | false => some (d, st)
    | .al s' [] _ => match st s' with | .val d => some (d, takeS st s') | _ => none
    | .al s' p _ => frzP st s' p
    | _ => none
  | x => match opd st x with | .val d => some (d, st) | _ => none
/-- An operand's value, to be looked at. -/
def lookV (st : St) (x : Operand) : Option Dv :=
  match opd st x with
  | .val d => some d
  | .al s p _ => getP st s p
  | _ => none
def brB {ρ : Type} (b : Bool) (f : Bool → Option ρ) : Option ρ := cond b (f true) (f false)
open Classical in
/-- What comes out either way. -/
noncomputable def both {ρ : Type} (a b : Option ρ) : Option ρ := if a = b then a else none
/-- A list held against nil: of an empty one nobody knows. -/
noncomputable def nilB {ρ α : Type} (l : List α) (a b : Option ρ) : Option ρ := cond l.isEmpty (both a b) b
def inB (i : Int) (n : Nat) : Bool := decide (0 ≤ i) && decide (i < n)
def room (n bytes : Nat) : Bool := Nat.ble (n * bytes) 140737488355328
/-- The type of a Go type, as it is known of a zero value. -/
def tyOf (P : Program) : Nat → TypeId → Option Ty
  | 0, _ => none
  | n + 1, t => match P.underlying t with
    | some (.int k) => some (.int k)
    | some .bool => some .bool
    | some .string => some .str
    | some (.slice e) => match tyOf P n e with | some t => some (.sl true t) | none => none
    | some (.array m e) => match tyOf P n e with | some t => some (.arr m t) | none => none
    | some (.struct fs) => fs.toList.foldr (fun f r => match tyOf P n f.type, r with | some a, some b => some (.pair a b) | _, _ => none) (some .unit)
    | some (.pointer _) => some .nilp
    | _ => none
def Ty.nilz : Ty → Ty
  | .sl _ _ => .nils | .pair a b => .pair a.nilz b.nilz | t => t
def fpath : Nat → List Step
  | 0 => [.l]
  | n + 1 => .r :: fpath n
def isStruct (P : Program) (t : TypeId) : Bool := match P.underlying t with | some (.struct _) => true | _ => false
def isAggB (P : Program) (t : TypeId) : Bool := match P.underlying t with | some (.struct _) => true | some (.array _ _) => true | _ => false
def fits (P : Program) (t : TypeId) (ty : Ty) : Bool := (P.underlying t).isSome && ((isAggB P t == ty.agg) && Nat.beq (P.cellsOf t) ty.sz) && Nat.blt 0 ty.sz
/-- A struct's fields lie as its type tells. -/
def layF (P : Program) : List Field → Nat → Ty → Bool
  | [], _, .unit => true
  | f :: fs, n, .pair a b => Nat.beq f.offset n && fits P f.type a && layF P fs (n + a.sz) b
  | _, _, _ => false
def layB (P : Program) (t : TypeId) (ty : Ty) : Bool := match P.underlying t with | some (.struct fs) => layF P fs.toList 0 ty | _ => false
/-- Cells that hold the zero value of a type. -/
def zAll (n : Nat) (f : Nat → Bool) : Bool := match n with | 0 => true | n + 1 => f n && zAll n f
def zOk : Ty → (Nat → Option Value) → Nat → Bool
  | .int k, g, o => match g o with | some (.int k' n) => decide (k = k') && n == 0 | _ => false
  | .bool, g, o => match g o with | some (.bool b) => !b | _ => false
  | .str, g, o => match g o with | some (.string s) => Nat.beq s.size 0 | _ => false
  | .nils, g, o => match g o with | some (.slice none 0 0) => true | _ => false
  | .sl _ _, g, o => match g o with | some (.slice none 0 0) => true | _ => false
  | .nilp, g, o => match g o with | some (.pointer none) => true | _ => false
  | .unit, _, _ => true
  | .pair a b, g, o => zOk a g o && zOk b g (o + a.sz)
  | .arr n t, g, o => zAll n fun i => zOk t g (o + i * t.sz)
  | _, _, _ => false
def isAggV (v : Value) : Bool := match v with | .agg _ => true | _ => false
def zeroB (P : Program) (t : TypeId) (ty : Ty) : Bool :=
  match P.info? t with
  | some i => match i.zero with
    | some v => zOk ty (fun o => v.cells[o]?) 0 && Nat.beq v.cells.size ty.sz && (isAggV v == ty.agg)
    | none => false
  | none => false
def isSl (P : Program) (t : TypeId) (ty : Ty) : Option TypeId :=
  match P.underlying t with
  | some (.slice e) => match Nat.beq (P.cellsOf e) ty.sz && Nat.blt 0 ty.sz with | true => some e | false => none
  | _ => none
/-- Whole numbers. -/
def binI (op : BinOp) (k : IntKind) (a b : Int) : Option Dv :=
  match op with
  | .add => some ⟨.int k, k.wrap (a + b)⟩
  | .sub => some ⟨.int k, k.wrap (a - b)⟩
  | .mul => some ⟨.int k, k.wrap (a * b)⟩
  | .and => some ⟨.int k, k.wrap (BitVec.ofInt k.bits a &&& BitVec.ofInt k.bits b).toNat⟩
  | .or => some ⟨.int k, k.wrap (BitVec.ofInt k.bits a ||| BitVec.ofInt k.bits b).toNat⟩
  | .xor => some ⟨.int k, k.wrap (BitVec.ofInt k.bits a ^^^ BitVec.ofInt k.bits b).toNat⟩
  | .andNot => some ⟨.int k, k.wrap (BitVec.ofInt k.bits a &&& ~~~ (BitVec.ofInt k.bits b)).toNat⟩
  | .eql => some ⟨.bool, a == b⟩
  | .neq => some ⟨.bool, a != b⟩
  | .lss => some ⟨.bool, decide (a < b)⟩
  | .leq => some ⟨.bool, decide (a ≤ b)⟩
  | .gtr => some ⟨.bool, decide (a > b)⟩
  | .geq => some ⟨.bool, decide (a ≥ b)⟩
  | _ => none
end Go.Proofs.Ytlmcalffemklnaa.Rf
namespace Go.Proofs.Ytlmcalffemklnaa.Rf
/-- What is known of a slot where a walk is cut. -/
inductive LS where
  | v (t : Ty) | al (s : Nat) (p : List Step) (t : Ty) | ref (s : Nat) (p : List Step) (t : Ty) | fn (f : FuncId) (ts : List Ty) | no
def HL : List Ty → Type
  | [] => Unit
  | t :: ts => t.den × HL ts
def HR : List Ty → Type
  | [] => Unit
  | [t] => t.den
  | t :: u :: ts => t.den × HR (u :: ts)
def LL : List (Nat × LS) → Type
  | [] => Unit
  | (_, .v t) :: r => t.den × LL r
  | (_, .fn _ ts) :: r => HL ts × LL r
  | _ :: r => LL r
def HL.dvs : (ts : List Ty) → HL ts → List Dv
  | [], _ => []
  | t :: ts, h => ⟨t, h.1⟩ :: HL.dvs ts h.2
def HR.dvs : (ts : List Ty) → HR ts → List Dv
  | [], _ => []
  | [t], h => [⟨t, h⟩]
  | t :: u :: ts, h => ⟨t, h.1⟩ :: HR.dvs (u :: ts) h.2
def HL.of : (ts : List Ty) → List Dv → Option (HL ts)
  | [], [] => some ()
  | t :: ts, d :: ds => match coe t d.1 d.2, HL.of ts ds with | some x, some y => some (x, y) | _, _ => none
  | _, _ => none
def HR.of : (ts : List Ty) → List Dv → Option (HR ts)
  | [], [] => some ()
  | [t], [d] => coe t d.1 d.2
  | t :: u :: ts, d :: ds => match coe t d.1 d.2, HR.of (u :: ts) ds with | some x, some y => some (x, y) | _, _ => none
  | _, _ => none
def mkSt : (l : List (Nat × LS)) → LL l → St
  | [], _ => fun _ => .dead
  | (n, .v t) :: r, h => fun s => match Nat.beq s n with | true => .val ⟨t, h.1⟩ | false => mkSt r h.2 s
  | (n, .fn f ts) :: r, h => fun s => match Nat.beq s n with | true => .fn f (HL.dvs ts h.1) | false => mkSt r h.2 s
  | (n, .al s' p t) :: r, h => fun s => match Nat.beq s n with | true => .al s' p t | false => mkSt r h s
  | (n, .ref s' p t) :: r, h => fun s => match Nat.beq s n with | true => .ref s' p t | false => mkSt r h s
  | (_, .no) :: r, h => mkSt r h
def Step.same : Step → Step → Bool
  | .l, .l => true | .r, .r => true | .d, .d => true | _, _ => false
def sameP : List Step → List Step → Bool
  | [], [] => true
  | a :: p, b :: q => a.same b && sameP p q
  | _, _ => false
def keptList (s : Nat) : List (Nat × LS) → Bool
  | [] => false
  | (m, x) :: r => match Nat.beq m s with
    | true => match x with | .v (.osl _ _) => true | _ => false
    | false => keptList s r
/-- What is kept of names: of whole lists that are kept. -/
def namesOk (l : List (Nat × LS)) : List (Nat × LS) → Bool
  | [] => true
  | (_, .al s p _) :: r => (match p with | [] => keptList s l | _ => false) && namesOk l r
  | (_, .ref _ _ _) :: _ => false
  | _ :: r => namesOk l r
/-- The state, cut down to what is live. -/
def projL (st : St) : (l : List (Nat × LS)) → Option (LL l)
  | [] => some ()
  | (n, .v t) :: r => match st n with
    | .val d => match coe t d.1 d.2, projL st r with | some x, some y => some (x, y) | _, _ => none
    | _ => none
  | (n, .fn f ts) :: r => match st n with
    | .fn f' ds => match Nat.beq f' f && ts.all fun t => !t.hasOwn with
      | true => match HL.of ts ds, projL st r with | some x, some y => some (x, y) | _, _ => none
      | false => none
    | _ => none
  | (n, .al s p t) :: r => match st n with
    | .al s' p' t' => match Nat.beq s' s && sameP p' p && t'.beq t with | true => projL st r | false => none
    | _ => none
  | (n, .ref s p t) :: r => match st n with
    | .ref s' p' t' => match Nat.beq s' s && sameP p' p && t'.beq t with | true => projL st r | false => none
    | _ => none
  | (_, .no) :: r => projL st r
/-- A Go function as it is walked: its form, what comes in, what comes out, where the walk is cut. -/
structure Fn where
  fid : FuncId
  f : Func
  ps : List LS
  rs : List Ty
  pts : List (Nat × List (Nat × LS)) := []
  mkf : Option FuncId := none
  hints : List (Nat × List (Nat × List Step)) := []
/-- Whether a function's first argument is a box that comes in and goes out. -/
def inoP : List LS → List Nat
  | .v (.optr _ _) :: _ => [0]
  | _ => []
def Fn.ino (F : Fn) : List Nat := inoP F.ps
def idx : Nat → List LS → List (Nat × LS)
  | _, [] => []
  | n, s :: r => (n, s) :: idx (n + 1) r
def asso {α : Type} (n : Nat) : List (Nat × α) → Option α
  | [] => none
  | (m, a) :: r => match Nat.beq m n with | true => some a | false => asso n r
def Fn.sh (F : Fn) (key : Nat) : List (Nat × LS) :=
  match key with
  | 0 => idx 0 F.ps
  | n => match asso n F.pts with | some l => l | none => []
def lastD : List Step → Bool
  | [.d] => true
  | _ :: p => lastD p
  | [] => false
def Ty.noFr : Ty → Bool
  | .sl f t => !f && t.noFr | .osl _ t => t.noFr | .optr _ t => t.noFr | .sptr t => t.noFr
  | .pair a b => a.noFr && b.noFr | .arr _ t => t.noFr | _ => true
/-- What a call's argument is for a callee. -/
def argL (st : St) : (n : Nat) → (l : List LS) → List Ent → Option (LL (idx n l))
  | _, [], [] => some ()
  | n, .v t :: r, e :: es => match t.hasOwn with
    | true => none
    | false => match e with
      | .val d => match coe t d.1 d.2, argL st (n + 1) r es with | some x, some y => some (x, y) | _, _ => none
      | .al s p _ => match getP st s p, t.noFr with
        | some d, true => match coe t d.1 d.2, argL st (n + 1) r es with | some x, some y => some (x, y) | _, _ => none
        | _, _ => none
      | _ => none
  | n, .fn f ts :: r, e :: es => match e with
    | .fn f' ds => match Nat.beq f' f && ts.all fun t => !t.hasOwn with
      | true => match HL.of ts ds, argL st (n + 1) r es with | some x, some y => some (x, y) | _, _ => none
      | false => none
    | _ => none
  | n, .no :: r, _ :: es => argL st (n + 1) r es
  | _, _, _ => none
structure Cx (ρ : Type) where
  P : Program
  tab : List Fn
  D : (v : Nat) → (key : Nat) → LL ((tab.getD v ⟨0, default, [], [], [], none, []⟩).sh key) → Option (HR (tab.getD v ⟨0, default, [], [], [], none, []⟩).rs)
def fn0 : Fn := ⟨0, default, [], [], [], none, []⟩
section
variable {ρ : Type}
def Cx.fn (C : Cx ρ) (v : Nat) : Fn := C.tab.getD v fn0
def endsDv (d : Dv) : Ent := .val d
def resE : List Dv → Ent
  | [d] => .val d
  | l => .tup l
/-- What a call hands back: a function's results, or the function that it makes. -/
def resF (F : Fn) (ds : List Dv) : Ent :=
  match F.mkf with
  | none => resE ds
  | some g => .fn g ds
def mkB (F : Fn) : Bool := (match F.ino with | [] => true | _ => false) && match F.mkf with | none => true | some _ => F.rs.all fun t => !t.hasOwn
/-- An argument, as a call looks at it. -/
def entOf (st : St) (x : Operand) : Ent :=
  match x with
  | .tmp s => match st s with
    | .val d => match d.1.hasOwn with | true => .al s [] d.1 | false => .val d
    | e => e
  | x => opd st x
def entsOf (st : St) : List Operand → List Ent
  | [] => []
  | x :: xs => entOf st x :: entsOf st xs
/-- Values of one type, as a list of it. -/
def lstOf (t : Ty) : List Dv → Option (List t.den)
  | [] => some []
  | d :: ds => match coe t d.1 d.2, lstOf t ds with | some x, some l => some (x :: l) | _, _ => none
/-- Values in hand lie in slots behind all. -/
def VB : Nat := 1000000
def lowX (x : Operand) : Bool := match x with | .tmp s => Nat.blt s VB | _ => true
def useAll (st : St) (b : Nat) : List Operand → Option (List Dv × St)
  | [] => some ([], st)
  | x :: xs => match useV st x, lowX x with
    | some (d, st1), true => match useAll (setS st1 (some b) (.val d)) (b + 1) xs with
      | some (ds, st2) => some (d :: ds, st2)
      | none => none
    | _, _ => none
def clr (st : St) : St := fun x => match Nat.ble VB x with | true => .dead | false => st x
def putParts (t : Ty) (x : t.den) : List (List Step × Dv) → Option Dv
  | [] => some ⟨t, x⟩
  | (p, d) :: r => match get p t x, put p t x d with
    | some old, some ⟨t', y⟩ => match Nat.beq old.1.sz d.1.sz with | true => putParts t' y r | false => none
    | _, _ => none
def inOrder : Nat → List Nat → Bool
  | _, [] => true
  | n, i :: r => Nat.beq i n && inOrder (n + 1) r
def shift (op : BinOp) (k : IntKind) (a b : Int) (κ : Dv → Option ρ) : Option ρ :=
  brB (decide (b < 0)) fun neg => match neg with
    | true => none
    | false => match op with
      | .shl => κ ⟨.int k, k.wrap (a * 2 ^ min b.toNat k.bits)⟩
      | .shr => κ ⟨.int k, a.fdiv (2 ^ min b.toNat k.bits)⟩
      | _ => none
/-- Whether two values of a type without memory are the same. -/
def eqI (a b : Int) : Option Bool := some (a == b)
def eqB (a b : Bool) : Option Bool := some (a == b)
def eqS (a b : ByteArray) : Option Bool := some (a == b)
def eqV : (t : Ty) → t.den → t.den → Option Bool
  | .int _, x, y => eqI x y
  | .bool, x, y => eqB x y
  | .str, x, y => eqS x y
  | .unit, _, _ => some true
  | .pair a b, x, y => match eqV a x.1 y.1, eqV b x.2 y.2 with
    | some p, some q => some (match b with | .unit => p | _ => p && q)
    | _, _ => none
  | _, _, _ => none
/-- Values of a type are held against each other field by field. -/
def eqF (P : Program) (one : Ty → TypeId → Bool) : List Field → Nat → Ty → Bool
  | [], _, .unit => true
  | f :: fs, o, .pair a b => !(f.name == "_") && Nat.beq f.offset o && fits P f.type a && one a f.type && eqF P one fs (o + a.sz) b
  | _, _, _ => false
def eqT (P : Program) : Nat → Ty → TypeId → Bool
  | 0, _, _ => false
  | n + 1, ty, t => match ty with
    | .int _ => match P.underlying t with | some (.int _) => true | _ => false
    | .bool => match P.underlying t with | some .bool => true | _ => false
    | .str => match P.underlying t with | some .string => true | _ => false
    | ty => match P.underlying t with | some (.struct fs) => !P.stoodInHeld t && eqF P (eqT P n) fs.toList 0 ty | _ => false
def binII (op : BinOp) (k k' : IntKind) (a b : Int) (κ : Dv → Option ρ) : Option ρ :=
  match op with
  | .shl => shift .shl k a b κ
  | .shr => shift .shr k a b κ
  | op => match decide (k = k') with
    | true => match op with
      | .quo => brB (b == 0) fun z => match z with | true => none | false => κ ⟨.int k, k.wrap (Int.tdiv a b)⟩
      | .rem => brB (b == 0) fun z => match z with | true => none | false => κ ⟨.int k, Int.tmod a b⟩
      | op => match binI op k a b with | some d => κ d | none => none
    | false => none
def binBB (op : BinOp) (a b : Bool) : Option Dv :=
  match op with
  | .eql => some ⟨.bool, a == b⟩ | .neq => some ⟨.bool, !(a == b)⟩ | _ => none
def binSS (op : BinOp) (a b : ByteArray) (κ : Dv → Option ρ) : Option ρ :=
  match op with
  | .add => brB (Nat.ble (a.size + b.size) 9223372036854775807) fun z => match z with | true => κ ⟨.str, a ++ b⟩ | false => none
  | .eql => κ ⟨.bool, a.toList == b.toList⟩ | .neq => κ ⟨.bool, !(a.toList == b.toList)⟩
  | _ => none
def isSlT (P : Program) (t : TypeId) : Bool := match P.underlying t with | some (.slice _) => true | _ => false
def isStrT (P : Program) (t : TypeId) : Bool := match P.underlying t with | some .string => true | _ => false
noncomputable def nilV (op : BinOp) {t : Ty} (l : List t.den) (κ : Dv → Option ρ) : Option ρ :=
  match op with
  | .eql => nilB l (κ ⟨.bool, true⟩) (κ ⟨.bool, false⟩)
  | .neq => nilB l (κ ⟨.bool, false⟩) (κ ⟨.bool, true⟩)
  | _ => none
noncomputable def binV (P : Program) (op : BinOp) (t : TypeId) (x y : Dv) (κ : Dv → Option ρ) : Option ρ :=
  match x, y with
  | ⟨.int k, a⟩, ⟨.int k', b⟩ => binII op k k' a b κ
  | ⟨.bool, a⟩, ⟨.bool, b⟩ => match binBB op a b, eqT P 20 .bool t with | some d, true => κ d | _, _ => none
  | ⟨.str, a⟩, ⟨.str, b⟩ => binSS op a b κ
  | ⟨.pair a b, x⟩, ⟨t', y⟩ => match castT t' (.pair a b) y, eqT P 20 (.pair a b) t && !P.eqGuardType P.depth t with
    | some y, true => match eqV (.pair a b) x y with
      | some r => match op with | .eql => κ ⟨.bool, r⟩ | .neq => κ ⟨.bool, !r⟩ | _ => none
      | none => none
    | _, _ => none
  | _, _ => none
def maxI (k : IntKind) (a b : Int) : Dv := ⟨.int k, if b > a then b else a⟩
def minI (k : IntKind) (a b : Int) : Dv := ⟨.int k, if b < a then b else a⟩
def maxV (l : List Dv) : Option Dv :=
  match l with
  | [⟨.int k, a⟩, ⟨.int _, b⟩] => some (maxI k a b)
  | _ => none
def minV (l : List Dv) : Option Dv :=
  match l with
  | [⟨.int k, a⟩, ⟨.int _, b⟩] => some (minI k a b)
  | _ => none
def lenL {t : Ty} (l : List t.den) : Dv := ⟨.int .i64, (l.length : Int)⟩
def lenS (s : ByteArray) : Dv := ⟨.int .i64, (s.size : Int)⟩
def intD (n : Int) : Dv := ⟨.int .i64, n⟩
def lens (P : Program) (t : TypeId) (d : Dv) : Option Dv :=
  match d with
  | ⟨.sl _ _, l⟩ => match isSlT P t with | true => some (lenL l) | false => none
  | ⟨.osl _ _, l⟩ => match isSlT P t with | true => some (lenL l) | false => none
  | ⟨.nils, _⟩ => match isSlT P t with | true => some (intD 0) | false => none
  | ⟨.str, s⟩ => match isStrT P t with | true => some (lenS s) | false => none
  | _ => none
/-- What an append's second argument adds. -/
def elOwn (d : Dv) : Bool := match d.1 with | .osl _ t => t.hasOwn | .sl _ t => t.hasOwn | _ => true
def added (st : St) (x : Operand) : Option (Dv × St) :=
  match x with
  | .tmp s => match st s with
    | .val d => match elOwn d with | true => frzP st s [] | false => some (d, st)
    | .al s' p _ => match getP st s' p with
      | some d => match elOwn d with | true => frzP st s' p | false => some (d, st)
      | none => none
    | _ => none
  | _ => none
/-- What an append begins with: the list, and where it stood is left empty. -/
def begun (st : St) (x : Operand) : Option (Dv × St) :=
  match x with
  | .tmp s => match st s with
    | .val d => match d.1.hasOwn with | true => some (d, takeS st s) | false => some (d, st)
    | .al s' [] _ => match st s' with | .val d => some (d, takeS st s') | _ => none
    | .al s' p _ => match getP st s' p with
      | some d => match putP st s' p ⟨.hole, ()⟩ with | some st1 => some (d, st1) | none => none
      | none => none
    | _ => none
  | x => match opd st x with | .val d => some (d, st) | _ => none
def castL (t u : Ty) (l : List t.den) : Option (List u.den) :=
  match h : t.sub u with
  | true => some (cast (congrArg List (Ty.den_of_sub h)) l)
  | false => none
def listOf (d : Dv) : Option ((t : Ty) × List t.den) :=
  match d with
  | ⟨.sl _ t, l⟩ => some ⟨t, l⟩
  | ⟨.osl _ t, l⟩ => some ⟨t, l⟩
  | _ => none
/-- A type's zero value has its cells. -/
def zsz (P : Program) (t : TypeId) : Bool :=
  match P.info? t with
  | some i => match i.zero with
    | some v => Nat.beq v.cells.size i.size
    | none => false
  | none => false
def appV (P : Program) (t : TypeId) (d e : Dv) (κ : Dv → Option ρ) : Option ρ :=
  match listOf e with
  | none => none
  | some ⟨u, m⟩ => match isSl P t u with
    | none => none
    | some ei => match Nat.blt 0 (P.bytesOf ei) && zsz P ei, d with
      | true, ⟨.nils, _⟩ => match castL u u.frz m with
        | some m => brB (room m.length (P.bytesOf ei)) fun z => match z with | true => κ ⟨.osl true u.frz, m⟩ | false => none
        | none => none
      | true, ⟨.osl f u0, l⟩ => match castL u u0 m with
        | some m => brB (room (List.length l + m.length) (P.bytesOf ei)) fun z => match z with | true => κ ⟨.osl f u0, List.append l m⟩ | false => none
        | none => none
      | _, _ => none
/-- So many zeros, appended to nothing. -/
def zerosOk (n : Int) (b : Nat) : Bool := decide (0 ≤ n) && room n.toNat b
def repT (t : Ty) (n : Int) : Dv := ⟨.osl true t, List.replicate n.toNat t.dflt⟩
def appZ (P : Program) (t : TypeId) (n : Int) (κ : Dv → Option ρ) : Option ρ :=
  match P.underlying t with
  | some (.slice e) => match tyOf P 100 e with
    | some ty => match Nat.beq (P.cellsOf e) ty.sz && Nat.blt 0 (P.bytesOf e) && zeroB P e ty && Nat.blt 0 ty.sz with
      | true => brB (zerosOk n (P.bytesOf e)) fun z => match z with | true => κ (repT ty n) | false => none
      | false => none
    | none => none
  | _ => none
/-- A bound of a slice expression. -/
def bnd (st : St) (o : Option Operand) (dft : Int) : Option Int :=
  match o with
  | none => some dft
  | some x => match opd st x with | .val ⟨.int _, n⟩ => some n | _ => none
def inS (lo hi : Int) (n : Nat) : Bool := decide (0 ≤ lo) && decide (lo ≤ hi) && decide (hi ≤ n)
def cutL {t : Ty} (l : List t.den) (lo hi : Int) : List t.den := (l.take hi.toNat).drop lo.toNat
def strD (s : ByteArray) (lo hi : Int) : Dv := ⟨.str, s.extract lo.toNat hi.toNat⟩
/-- A slice type whose elements take room. -/
def slOk (P : Program) (t : TypeId) : Bool := match P.underlying t with | some (.slice e) => Nat.blt 0 (P.cellsOf e) | _ => false
def cutV (P : Program) (t : TypeId) (st : St) (d : Dv) (lo hi : Option Operand) (κ : Dv → Option ρ) : Option ρ :=
  match d with
  | ⟨.str, s⟩ => match isStrT P t, bnd st lo 0, bnd st hi (ByteArray.size s) with
    | true, some l, some h => brB (inS l h (ByteArray.size s)) fun z => match z with | true => κ (strD s l h) | false => none
    | _, _, _ => none
  | ⟨.sl f u, s⟩ => match isSl P t u, bnd st lo 0, bnd st hi (List.length s) with
    | some _, some l, some h => brB (inS l h (List.length s)) fun z => match z with | true => κ ⟨.sl f u, cutL s l h⟩ | false => none
    | _, _, _ => none
  | ⟨.nils, _⟩ => match slOk P t, bnd st lo 0, bnd st hi 0 with
    | true, some l, some h => brB (l == 0 && h == 0) fun z => match z with | true => κ ⟨.nils, ()⟩ | false => none
    | _, _, _ => none
  | ⟨.osl f u, s⟩ => match isSl P t u, lo, bnd st hi (List.length s) with
    | some _, none, some h => brB (inS 0 h (List.length s)) fun z => match z with | true => κ ⟨.osl f u, cutL s 0 h⟩ | false => none
    | _, _, _ => none
  | _ => none
def nthOp (l : List Oper) (n : Nat) : Option Oper :=
  match l, n with
  | [], _ => none
  | o :: _, 0 => some o
  | _ :: r, n + 1 => nthOp r n
/-- Where a function's captured variable is shared from here on. -/
def capt (st : St) : List Operand → Option (List Dv × St)
  | [] => some ([], st)
  | .tmp s :: xs => match st s with
    | .val d => match d.1.hasOwn with
      | false => match capt st xs with | some (ds, st2) => some (d :: ds, st2) | none => none
      | true => match frzP st s [] with
        | some (d, st1) => match capt st1 xs with | some (ds, st2) => some (d :: ds, st2) | none => none
        | none => none
    | _ => none
  | _ :: _ => none
/-- What a function may hand out: where something is lent to it, only what is no part of that. -/
def Ty.okR (bor : Bool) : Ty → Bool
  | .sl f t => (f || !bor) && t.okR bor | .osl _ t => t.okR bor | .optr _ t => t.okR bor | .sptr t => !bor && t.okR bor
  | .pair a b => a.okR bor && b.okR bor | .arr _ t => t.okR bor | .hole => false | _ => true
def Ent.borrows : Ent → Bool
  | .al _ _ _ => true | .ref _ _ _ => true | _ => false
/-- A call: the first of the table's functions whose shape the arguments have. -/
def callV (C : Cx ρ) (st : St) (f : FuncId) (es : List Ent) (κ : Ent → Option ρ) : Nat → List Fn → Option ρ
  | _, [] => none
  | v, F :: Fs => match Nat.beq F.fid f with
    | true => match argL st 0 (C.fn v).ps es with
      | some h => match (C.fn v).rs.all (Ty.okR (es.any Ent.borrows)) && mkB (C.fn v) with
        | true => Option.bind (C.D v 0 h) fun r => κ (resF (C.fn v) (HR.dvs (C.fn v).rs r))
        | false => none
      | none => callV C st f es κ (v + 1) Fs
    | false => callV C st f es κ (v + 1) Fs
def ends (ds : List Dv) : List Ent := ds.map Ent.val
def inoF (f : FuncId) : List Fn → Bool
  | [] => false
  | F :: Fs => match Nat.beq F.fid f with
    | true => match F.ino with | [] => false | _ => true
    | false => inoF f Fs
/-- The slot whose box an operand lends. -/
def lentS (st : St) (x : Operand) : Option Nat :=
  match x with
  | .tmp s => match st s with
    | .val ⟨.optr _ _, _⟩ => some s
    | .ref s' [.d] _ => some s'
    | _ => none
  | _ => none
/-- The arguments, the first one a box in hand. -/
def argI (st : St) (lt : Dv) : (ps : List LS) → List Ent → Option (LL (idx 0 ps))
  | .v (.optr f u) :: r, _ :: es => match coe (.optr f u) lt.1 lt.2, argL st 1 r es with | some x, some y => some (x, y) | _, _ => none
  | _, _ => none
/-- The last one of a list apart. -/
def lastD' : List Dv → Option (List Dv × Dv)
  | [] => none
  | [d] => some ([], d)
  | d :: e :: l => match lastD' (e :: l) with | some (r, x) => some (d :: r, x) | none => none
/-- A slot's box comes back, and its names with it. -/
def back (st0 st : St) (s : Nat) (f : Bool) (u : Ty) (y : u.den) : St := fun x => match Nat.beq x s with
  | true => .val ⟨.optr f u, y⟩
  | false => match st0 x with
    | .ref s' [.d] _ => match Nat.beq s' s with | true => .ref s [.d] u | false => st x
    | _ => st x
/-- A call to which a slot's box is given in hand; it comes back behind the results. -/
def callI (C : Cx ρ) (st0 st : St) (f : FuncId) (s : Nat) (lt : Dv) (es : List Ent) (κ : St → Ent → Option ρ) : Nat → List Fn → Option ρ
  | _, [] => none
  | v, F :: Fs => match Nat.beq F.fid f with
    | true => match argI st lt (C.fn v).ps es with
      | some h => match (C.fn v).rs.all (Ty.okR (es.any Ent.borrows)) && (match (C.fn v).mkf with | none => true | some _ => false) with
        | true => Option.bind (C.D v 0 h) fun r => match lastD' (HR.dvs (C.fn v).rs r) with
          | some (ds, ⟨.optr f u, y⟩) => κ (back st0 st s f u y) (resE ds)
          | _ => none
        | false => none
      | none => callI C st0 st f s lt es κ (v + 1) Fs
    | false => callI C st0 st f s lt es κ (v + 1) Fs
/-- .. its first argument's. -/
def callJ (C : Cx ρ) (st : St) (f : FuncId) (args : List Operand) (ds : List Dv) (κ : St → Ent → Option ρ) : Option ρ :=
  match args with
  | [] => none
  | x :: _ => match lentS st x with
    | some s => match st s with
      | .val ⟨.optr g u, y⟩ => callI C st (takeS st s) f s ⟨.optr g u, y⟩ (entsOf (takeS st s) args ++ ends ds) κ 0 C.tab
      | _ => none
    | none => none
def asFn : Ent → Option (FuncId × List Dv)
  | .fn f ds => some (f, ds) | _ => none
def out (st : St) (o : Option Nat) (κ : St → Option ρ) (e : Ent) : Option ρ := κ (setS st o e)
def xMove (st : St) (x : Operand) (κ : St → Ent → Option ρ) : Option ρ :=
  match seen st x with
  | .dead => match takeV st x with
    | some (d, st1) => κ st1 (.val d)
    | none => match x with
      | .tmp s => match st s with
        | .tup l => κ (takeS st s) (.tup l)
        | _ => none
      | _ => none
  | e => κ st e
def xAssign (st : St) (x : Operand) (κ : St → Ent → Option ρ) : Option ρ :=
  match opd st x with
  | .ref s p t => κ st (.ref s p t)
  | .fn f ds => κ st (.fn f ds)
  | _ => match takeV st x with | some (d, st1) => κ st1 (.val d) | none => none
def flatE (e : Ent) : Option Dv := match e with | .val d => (match d.1.hasOwn with | false => some d | true => none) | _ => none
def xPick (st : St) (c a b : Operand) (κ : St → Ent → Option ρ) : Option ρ :=
  match opd st c with
  | .val ⟨.bool, z⟩ => brB z fun z => match flatE (opd st (match z with | true => a | false => b)) with
    | some d => κ st (.val d)
    | none => none
  | _ => none
def xAlloc (P : Program) (st : St) (elem : TypeId) (κ : St → Ent → Option ρ) : Option ρ :=
  match tyOf P 100 elem with
  | some t => match zeroB P elem t.nilz with | true => κ st (.val ⟨.optr true t.nilz, t.nilz.dflt⟩) | false => none
  | none => none
def xBox (st : St) (x : Operand) (κ : St → Ent → Option ρ) : Option ρ :=
  match useV st x with
  | some (d, st1) => κ st1 (.val ⟨.optr true d.1, d.2⟩)
  | none => none
def isArr (P : Program) (t : TypeId) (n : Nat) (ty : Ty) : Bool :=
  match P.underlying t with
  | some (.array m e) => Nat.beq m n && fits P e ty
  | _ => false
/-- An array type whose items take room. -/
def isPArr (P : Program) (t : TypeId) (n : Nat) (ty : Ty) : Bool :=
  match P.underlying t with
  | some (.array m e) => Nat.beq m n && Nat.beq (P.cellsOf e) ty.sz && Nat.blt 0 ty.sz
  | _ => false
def ipath (n : Nat) : List Step := [.i n]
def xBuildArr (P : Program) (st : St) (t : TypeId) (parts : List (Nat × Operand)) (κ : St → Ent → Option ρ) : Option ρ :=
  match tyOf P 100 t, useAll st (VB + 1) (parts.map (·.2)) with
  | some (.arr n u), some (ds, st1) => match isArr P t n u && parts.all (fun q => Nat.blt q.1 n) && zeroB P t (.arr n u) with
    | true => match putParts (.arr n u) (Ty.arr n u).dflt ((parts.map fun q => ipath q.1).zip ds) with
      | some d => κ (clr st1) (.val d)
      | none => none
    | false => none
  | _, _ => none
def xBuild (P : Program) (st : St) (t : TypeId) (parts : List (Nat × Operand)) (κ : St → Ent → Option ρ) : Option ρ :=
  match isStruct P t with
  | false => xBuildArr P st t parts κ
  | true => match tyOf P 100 t, useAll st (VB + 1) (parts.map (·.2)) with
  | some ty, some (ds, st1) => match layB P t ty.nilz && zeroB P t ty.nilz with
   | false => none
   | true => match putParts ty.nilz ty.nilz.dflt ((parts.map fun q => fpath q.1).zip ds) with
    | some d => κ (clr st1) (.val d)
    | none => none
  | _, _ => none
def xBuildSlice (P : Program) (st : St) (t : TypeId) (n : Nat) (parts : List (Nat × Operand)) (κ : St → Ent → Option ρ) : Option ρ :=
  match parts with
  | [] => match Nat.beq n 0, slOk P t with
    | true, true => κ st (.val ⟨.nils, ()⟩)
    | _, _ => none
  | parts => match useAll st (VB + 1) (parts.map (·.2)) with
  | some (ds, st1) => match inOrder 0 (parts.map (·.1)) && Nat.beq parts.length n && Nat.ble n 1000, ds with
    | true, d :: _ => match isSl P t d.1.frz, lstOf d.1.frz ds with
      | some e, some l => match zsz P e && Nat.ble (n * d.1.frz.sz) 16777216 && !d.1.frz.hasOwn with
        | true => κ (clr st1) (.val ⟨.osl true d.1.frz, l⟩)
        | false => none
      | _, _ => none
    | _, _ => none
  | none => none
def refOf (st : St) (a : Operand) : Option (Nat × List Step) :=
  match a with
  | .tmp s => match st s with
    | .ref s' p _ => some (s', p)
    | .val ⟨.optr _ _, _⟩ => some (s, [.d])
    | _ => none
  | _ => none
def xLoad (P : Program) (st : St) (t : TypeId) (a : Operand) (κ : St → Ent → Option ρ) : Option ρ :=
  match refOf st a with
  | some (s, p) => match getP st s p with
    | some ⟨ty, x⟩ => match fits P t ty with
      | true => match ty with
        | .osl _ u => κ st (.al s p u)
        | .optr _ u => κ st (.ref s (p ++ [.d]) u)
        | ty => match ty.hasOwn with
          | true => match frzP st s p with | some (d, st1) => κ st1 (.val d) | none => none
          | false => κ st (.val ⟨ty, x⟩)
      | false => none
    | none => none
  | none => match opd st a with
    | .val ⟨.sptr ty, x⟩ => match fits P t ty && !ty.hasOwn with | true => κ st (.val ⟨ty, x⟩) | false => none
    | _ => none
def weakP : List Step → Bool
  | [] => false
  | .i _ :: _ => true
  | _ :: p => weakP p
/-- A value for a place: in a list it becomes one of the list's type. -/
def forP (st : St) (s : Nat) (p : List Step) (d : Dv) : Option Dv :=
  match weakP p with
  | false => some d
  | true => match getP st s p with
    | some old => match coe old.1 d.1 d.2 with | some y => some ⟨old.1, y⟩ | none => none
    | none => none
def xStore (P : Program) (st : St) (t : TypeId) (a x : Operand) (κ : St → Option ρ) : Option ρ :=
  match useV st x, refOf st a with
  | some (d, st1), some _ => match refOf (setS st1 (some VB) (.val d)) a with
    | some (s, p) => match getP st1 s p with
      | some old => match fits P t d.1 && Nat.beq d.1.sz old.1.sz with
        | true => match forP st1 s p d with
          | some d => match putP st1 s p d with | some st2 => κ st2 | none => none
          | none => none
        | false => none
      | none => none
    | none => none
  | _, _ => none
def xNilCheck (st : St) (x : Operand) (κ : St → Ent → Option ρ) : Option ρ :=
  match seen st x with
  | .ref s p t => κ st (.ref s p t)
  | .fn f ds => κ st (.fn f ds)
  | .val ⟨.sptr t, y⟩ => κ st (.val ⟨.sptr t, y⟩)
  | _ => none
def isPtrT (P : Program) (t : TypeId) : Bool := match P.underlying t with | some (.pointer _) => true | _ => false
def isNil (y : Operand) : Bool := match y with | .const (.slice none 0 0) => true | _ => false
noncomputable def nilD (op : BinOp) (d : Dv) (κ : Dv → Option ρ) : Option ρ :=
  match d with
  | ⟨.sl _ u, l⟩ => nilV op (t := u) l κ
  | ⟨.osl _ u, l⟩ => nilV op (t := u) l κ
  | ⟨.nils, _⟩ => nilV op (t := .unit) [] κ
  | _ => none
noncomputable def xBin (P : Program) (st : St) (op : BinOp) (t : TypeId) (x y : Operand) (κ : St → Ent → Option ρ) : Option ρ :=
  match isNil y with
  | true => match lookV st x, isSlT P t with
    | some d, true => nilD op d fun d => κ st (.val d)
    | _, _ => none
  | false => match lookV st x, lookV st y with
  | some a, some b => binV P op t a b fun d => κ st (.val d)
  | _, _ => match refOf st x, opd st y, isPtrT P t with
    | some _, .val ⟨.nilp, _⟩, true => match op with | .eql => κ st (.val ⟨.bool, false⟩) | .neq => κ st (.val ⟨.bool, true⟩) | _ => none
    | _, _, _ => none
def negI (k : IntKind) (n : Int) : Dv := ⟨.int k, k.wrap (0 - n)⟩
def unV (op : UnOp) (d : Dv) : Option Dv :=
  match d with
  | ⟨.bool, b⟩ => match op with | .not => some ⟨.bool, !b⟩ | _ => none
  | ⟨.int k, n⟩ => match op with
    | .neg => some (negI k n)
    | .xor => binI .xor k (if k.signed then -1 else k.max) n
    | _ => none
  | _ => none
def xConvert (P : Program) (st : St) (src dst : TypeId) (x : Operand) (κ : St → Ent → Option ρ) : Option ρ :=
  match opd st x with
  | .val ⟨.int _, n⟩ => match P.underlying src, P.underlying dst with
    | some (.int _), some (.int k) => κ st (.val ⟨.int k, k.wrap n⟩)
    | _, _ => none
  | _ => none
def makeB (n m : Int) (b : Nat) : Bool := decide (0 ≤ n) && decide (n ≤ m) && room m.toNat b
def repD (t : Ty) (n : Int) : Dv := ⟨.osl true t, List.replicate n.toNat t.dflt⟩
def xMakeSlice (P : Program) (st : St) (t : TypeId) (l c : Operand) (κ : St → Ent → Option ρ) : Option ρ :=
  match opd st l, opd st c with
  | .val ⟨.int _, n⟩, .val ⟨.int _, m⟩ => match P.underlying t with
    | some (.slice e) => match tyOf P 100 e with
      | some ty => match Nat.beq (P.cellsOf e) ty.sz && Nat.blt 0 (P.bytesOf e) && zeroB P e ty with
        | true => brB (makeB n m (P.bytesOf e)) fun z => match z with
          | true => κ st (.val (repD ty n))
          | false => none
        | false => none
      | none => none
    | _ => none
  | _, _ => none
def cutA {t : Ty} (f : Bool) (l : List t.den) (lo hi : Int) : Dv := ⟨.sl f t, cutL l lo hi⟩
/-- A piece of an array variable: the variable is shared from here on. -/
def xSliceArr (P : Program) (st : St) (t : TypeId) (s : Nat) (lo hi : Option Operand) (κ : St → Ent → Option ρ) : Option ρ :=
  match st s with
  | .val ⟨.optr f (.arr m u), l⟩ => match isPArr P t m u, frzP st s [], bnd st lo 0, bnd st hi m with
    | true, some (_, st1), some a, some b => match u.hasOwn with
      | false => brB (inS a b m) fun z => match z with | true => κ st1 (.val (cutA (t := u) f l a b)) | false => none
      | true => none
    | _, _, _, _ => none
  | _ => none
def xSlice (P : Program) (st : St) (t : TypeId) (x : Operand) (lo hi : Option Operand) (κ : St → Ent → Option ρ) : Option ρ :=
  match isSlT P t || isStrT P t with
  | false => match refOf st x with
    | some (s, [.d]) => xSliceArr P st t s lo hi κ
    | _ => none
  | true => match x with
  | .tmp s => match st s with
    | .al s' [] _ => match lo with
      | none => match st s' with
        | .val d => cutV P t st d lo hi fun d => κ (takeS st s') (.val d)
        | _ => none
      | some _ => match frzP st s' [] with
        | some (d, st1) => cutV P t st1 d lo hi fun d => κ st1 (.val d)
        | none => none
    | .al s' p _ => match frzP st s' p with
      | some (d, st1) => cutV P t st1 d lo hi fun d => κ st1 (.val d)
      | none => none
    | .val d => match d.1.hasOwn with
      | true => cutV P t st d lo hi fun d => κ (takeS st s) (.val d)
      | false => cutV P t st d lo hi fun d => κ st (.val d)
    | _ => none
  | _ => none
def xFieldAddr (P : Program) (st : St) (t : TypeId) (x : Operand) (f : Nat) (κ : St → Ent → Option ρ) : Option ρ :=
  match refOf st x with
  | some (s, p) => match getP st s p with
    | some base => match layB P t base.1, get (fpath f) base.1 base.2 with
      | true, some d => match Nat.blt 0 d.1.sz with
        | true => κ st (.ref s (p ++ fpath f) d.1)
        | false => none
      | _, _ => none
    | none => none
  | none => match opd st x with
    | .val ⟨.sptr ty, y⟩ => match layB P t ty, get (fpath f) ty y with
      | true, some d => match Nat.blt 0 d.1.sz && !d.1.hasOwn with
        | true => κ st (.val ⟨.sptr d.1, d.2⟩)
        | false => none
      | _, _ => none
    | _ => none
def xField (P : Program) (st : St) (t : TypeId) (x : Operand) (f : Nat) (κ : St → Ent → Option ρ) : Option ρ :=
  match opd st x with
  | .val ⟨ty, y⟩ => match layB P t ty, get (fpath f) ty y with
    | true, some d => match d.1.hasOwn with | false => κ st (.val d) | true => none
    | _, _ => none
  | _ => none
def idxV (P : Program) (st : St) (t : TypeId) (e : Ent) (s0 : Option Nat) (n : Int) (κ : St → Ent → Option ρ) : Option ρ :=
  match e with
  | .val ⟨.sl _ u, l⟩ => match isSl P t u, u.hasOwn with
    | some _, false => brB (inB n (List.length l)) fun z => match z with | true => κ st (.val ⟨.sptr u, rd l n.toNat⟩) | false => none
    | _, _ => none
  | .val ⟨.osl _ u, l⟩ => match isSl P t u, s0 with
    | some _, some s => brB (inB n (List.length l)) fun z => match z with | true => κ st (.ref s [.i n.toNat] u) | false => none
    | _, _ => none
  | .al s p _ => match getP st s p with
    | some ⟨.osl _ u, l⟩ => match isSl P t u with
      | some _ => brB (inB n (List.length l)) fun z => match z with | true => κ st (.ref s (p ++ [.i n.toNat]) u) | false => none
      | none => none
    | _ => none
  | _ => none
def slotOf (x : Operand) : Option Nat := match x with | .tmp s => some s | _ => none
def xIndexAddr (P : Program) (st : St) (t : TypeId) (x i : Operand) (κ : St → Ent → Option ρ) : Option ρ :=
  match opd st i with
  | .val ⟨.int _, n⟩ => match refOf st x with
    | some (s, p) => match getP st s p with
      | some ⟨.arr m u, _⟩ => match isArr P t m u with
        | true => brB (inB n m) fun z => match z with | true => κ st (.ref s (p ++ [.i n.toNat]) u) | false => none
        | false => none
      | _ => none
    | none => match opd st x with
      | .val ⟨.sptr (.arr m u), l⟩ => match isArr P t m u && !u.hasOwn with
        | true => brB (inB n m) fun z => match z with | true => κ st (.val ⟨.sptr u, rd (t := u) l n.toNat⟩) | false => none
        | false => none
      | e => idxV P st t e (slotOf x) n κ
  | _ => none
def byteN (s : ByteArray) (n : Nat) : Int := ((s[n]?).getD 0).toNat
def byteD (s : ByteArray) (n : Int) : Dv := ⟨.int .u8, byteN s n.toNat⟩
def xIndex (P : Program) (st : St) (t : TypeId) (x i : Operand) (κ : St → Ent → Option ρ) : Option ρ :=
  match opd st i, opd st x with
  | .val ⟨.int _, n⟩, .val ⟨.str, s⟩ => match isStrT P t with
    | true => brB (inB n (ByteArray.size s)) fun z => match z with | true => κ st (.val (byteD s n)) | false => none
    | false => none
  | .val ⟨.int _, n⟩, .val ⟨.arr m u, l⟩ => match isArr P t m u && !u.hasOwn with
    | true => brB (inB n m) fun z => match z with | true => κ st (.val ⟨u, rd (t := u) l n.toNat⟩) | false => none
    | false => none
  | _, _ => none
def nthD (l : List Dv) (n : Nat) : Option Dv :=
  match l, n with
  | [], _ => none
  | d :: _, 0 => some d
  | _ :: r, n + 1 => nthD r n
def outD (l : List Dv) (n : Nat) : List Dv :=
  match l, n with
  | [], _ => []
  | _ :: r, 0 => ⟨.hole, ()⟩ :: r
  | d :: r, n + 1 => d :: outD r n
def xExtract (st : St) (x : Operand) (n : Nat) (κ : St → Ent → Option ρ) : Option ρ :=
  match x with
  | .tmp s => match st s with
    | .tup l => match nthD l n with
      | some d => match d.1.beq .hole, d.1.hasOwn with
        | true, _ => none
        | false, true => κ (setS st (some s) (.tup (outD l n))) (.val d)
        | false, false => κ st (.val d)
      | none => none
    | _ => none
  | _ => none
def xLen (P : Program) (st : St) (x : Operand) (t : TypeId) (κ : St → Ent → Option ρ) : Option ρ :=
  match lookV st x with
  | some d => match lens P t d with | some r => κ st (.val r) | none => none
  | none => none
def notDead (e : Ent) : Bool := match e with | .dead => false | _ => true
def isI64 (P : Program) (t : TypeId) : Bool := match P.underlying t with | some (.int .i64) => true | _ => false
def xAppend (P : Program) (st : St) (x y : Operand) (t t' : TypeId) (κ : St → Ent → Option ρ) : Option ρ :=
  match isI64 P t' with
  | true => match opd st x, opd st y with
    | .val ⟨.nils, _⟩, .val ⟨.int .i64, n⟩ => appZ P t n fun r => κ st (.val r)
    | _, _ => none
  | false => match begun st x with
  | some (d, st1) => match added (setS st1 (some VB) (.val d)) y, isSlT P t' && notDead (opd st1 y) with
    | some (e, st2), true => appV P t d e fun r => κ (clr st2) (.val r)
    | _, _ => none
  | none => none
def xMM (st : St) (f : List Dv → Option Dv) (x y : Operand) (κ : St → Ent → Option ρ) : Option ρ :=
  match lookV st x, lookV st y with
  | some a, some b => match f [a, b] with | some d => κ st (.val d) | none => none
  | _, _ => none
def xBuiltin (P : Program) (st : St) (b : Builtin) (args : List Operand) (ts : List TypeId) (κ : St → Ent → Option ρ) : Option ρ :=
  match b, args, ts with
  | .len, [x], [t] => xLen P st x t κ
  | .cap, [x], [t] => match opd st x, isSlT P t with | .val ⟨.nils, _⟩, true => κ st (.val (intD 0)) | _, _ => none
  | .append, [x, y], [t, t'] => xAppend P st x y t t' κ
  | .max, [x, y], _ => xMM st maxV x y κ
  | .min, [x, y], _ => xMM st minV x y κ
  | _, _, _ => none
noncomputable def exec1 (C : Cx ρ) (st : St) (o : Oper) (κ : St → Option ρ) : Option ρ :=
  match o.op with
  | .move x => xMove st x fun st e => κ (setS st o.dst e)
  | .assign x => xAssign st x fun st e => κ (setS st o.dst e)
  | .pick c a b => xPick st c a b fun st e => κ (setS st o.dst e)
  | .alloc elem => xAlloc C.P st elem fun st e => κ (setS st o.dst e)
  | .box _ x => xBox st x fun st e => κ (setS st o.dst e)
  | .build t parts => xBuild C.P st t parts.toList fun st e => κ (setS st o.dst e)
  | .buildSlice t n parts => xBuildSlice C.P st t n parts.toList fun st e => κ (setS st o.dst e)
  | .load t a => xLoad C.P st t a fun st e => κ (setS st o.dst e)
  | .store t a x => xStore C.P st t a x fun st => κ (setS st o.dst .dead)
  | .nilCheck x => xNilCheck st x fun st e => κ (setS st o.dst e)
  | .binOp op t x y _ => xBin C.P st op t x y fun st e => κ (setS st o.dst e)
  | .unOp op _ x => match lookV st x with
    | some d => match unV op d with | some r => κ (setS st o.dst (.val r)) | none => none
    | none => none
  | .convert src dst x => xConvert C.P st src dst x fun st e => κ (setS st o.dst e)
  | .makeFunc (.func f) first captured => match first.toList, capt st captured.toList with
    | [], some (ds, st1) => κ (setS st1 o.dst (.fn f ds))
    | _, _ => none
  | .makeSlice t l c => xMakeSlice C.P st t l c fun st e => κ (setS st o.dst e)
  | .slice t x lo hi none => xSlice C.P st t x lo hi fun st e => κ (setS st o.dst e)
  | .fieldAddr t x f => xFieldAddr C.P st t x f fun st e => κ (setS st o.dst e)
  | .field t x f => xField C.P st t x f fun st e => κ (setS st o.dst e)
  | .indexAddr t x i => xIndexAddr C.P st t x i fun st e => κ (setS st o.dst e)
  | .index t x i => xIndex C.P st t x i fun st e => κ (setS st o.dst e)
  | .extract x n => xExtract st x n fun st e => κ (setS st o.dst e)
  | .call { callee := .builtin b, args, argTypes } => xBuiltin C.P st b args.toList argTypes.toList fun st e => κ (setS st o.dst e)
  | .call { callee := .value f, args, argTypes := _ } => match asFn (opd st f) with
    | some (f, ds) => match inoF f C.tab with
      | true => callJ C st f args.toList ds fun st e => κ (setS st o.dst e)
      | false => callV C st f (entsOf st args.toList ++ ends ds) (fun e => κ (setS st o.dst e)) 0 C.tab
    | none => none
  | _ => none
def setB (st : St) (s : Nat) (b : Bool) : St := fun s' => match Nat.beq s' s with | true => .val ⟨.bool, b⟩ | false => st s'
def memN (n : Nat) : List Nat → Bool
  | [] => false
  | m :: r => match Nat.beq m n with | true => true | false => memN n r
/-- One operation, if it is wanted. -/
noncomputable def step1 (C : Cx ρ) (all : List Oper) (st : St) (o : Oper) (κ : St → Option ρ) : Option ρ :=
  match o.guard with
  | none => exec1 C st o κ
  | some (j, w) => match nthOp all j with
    | some oj => match oj.dst with
      | some s => match st s with
        | .val ⟨.bool, b⟩ => brB b fun z => match z == w with
          | true => exec1 C (setB st s z) o κ
          | false => κ (setS (setB st s z) o.dst (.tup []))
        | .tup [] => κ (setS st o.dst (.tup []))
        | _ => none
      | none => none
    | none => none
noncomputable def execOps (C : Cx ρ) (all : List Oper) : List Oper → St → (St → Option ρ) → Option ρ
  | [], st, κ => κ st
  | o :: os, st, κ => step1 C all st o fun st1 => execOps C all os st1 κ
/-! Regions that draw their order. -/
def flatO (st : St) (x : Operand) : Bool := match opd st x with | .val d => !d.1.hasOwn | _ => false
def ownT (st : St) (x : Operand) : Bool := match x with | .tmp s => (match st s with | .val d => d.1.hasOwn | _ => false) | _ => false
/-- An operation that changes nothing but what it writes. -/
def quietOp (P : Program) (tab : List Fn) (st : St) (o : Oper) : Bool :=
  match o.op with
  | .move x => match seen st x with | .dead => false | _ => true
  | .assign x => flatO st x
  | .load _ a => match refOf st a with
    | some (s, p) => match getP st s p with
      | some d => match d.1 with | .osl _ _ => true | .optr _ _ => true | ty => !ty.hasOwn
      | none => false
    | none => true
  | .alloc _ => true
  | .nilCheck _ => true
  | .binOp _ _ _ _ _ => true
  | .unOp _ _ _ => true
  | .convert _ _ _ => true
  | .fieldAddr _ _ _ => true
  | .field _ _ _ => true
  | .indexAddr _ _ _ => true
  | .index _ _ _ => true
  | .extract x n => match x with
    | .tmp s => match st s with | .tup l => (match nthD l n with | some d => !d.1.hasOwn | none => false) | _ => false
    | _ => false
  | .build _ parts => parts.toList.all fun q => flatO st q.2
  | .buildSlice _ _ parts => (parts.toList.all fun q => flatO st q.2) || (match parts.toList with | [q] => ownT st q.2 | _ => false)
  | .slice t x _ _ none => (isSlT P t || isStrT P t) && flatO st x
  | .call { callee := .builtin .len, args := _, argTypes := _ } => true
  | .call { callee := .value f, args, argTypes } => match asFn (opd st f) with
    | some (f, _) => match inoF f tab with
      | false => true
      | true => match args.toList, argTypes.toList with
        | .tmp z :: _, [] => (match st z with | .val ⟨.optr _ _, _⟩ => true | _ => false)
        | _, _ => false
    | none => true
  | .call { callee := .builtin .append, args, argTypes } => match args.toList, argTypes.toList with
    | [.tmp s, y], [_, t'] => !isI64 P t' && (match st s with | .val _ => true | _ => false) && (match y with | .tmp s2 => (match st s2 with | .val d => !elOwn d | _ => false) | _ => false)
    | _, _ => false
  | .store _ a x => match a, o.dst with
    | .tmp s, none => flatO st x && (match st s, lookV st x with | .val ⟨.optr _ t, _⟩, some d => !t.hasOwn && d.1.beq t | _, _ => false)
    | _, _ => false
  | _ => false
def slots : List Operand → List Nat
  | [] => []
  | .tmp s :: r => s :: slots r
  | _ :: r => slots r
def optO (x : Option Operand) : List Operand := match x with | some x => [x] | none => []
/-- What an operation reads. -/
def readO : Op → List Operand
  | .move x => [x] | .assign x => [x] | .nilCheck x => [x] | .load _ a => [a] | .binOp _ _ x y _ => [x, y] | .unOp _ _ x => [x] | .convert _ _ x => [x]
  | .fieldAddr _ x _ => [x] | .field _ x _ => [x] | .indexAddr _ x i => [x, i] | .index _ x i => [x, i] | .extract x _ => [x]
  | .build _ parts => parts.toList.map (·.2) | .buildSlice _ _ parts => parts.toList.map (·.2)
  | .slice _ x lo hi _ => x :: (optO lo ++ optO hi)
  | .call { callee := .value f, args, argTypes := _ } => f :: args.toList
  | .call { callee := .builtin _, args, argTypes := _ } => args.toList
  | .store _ a x => [a, x]
  | _ => []
def dstL (o : Oper) : List Nat := match o.dst with | some d => [d] | none => []
def guardL (all : List Oper) (o : Oper) : List Nat := match o.guard with | some (j, _) => (match nthOp all j with | some oj => dstL oj | none => []) | none => []
def lk (all : List Oper) (o : Oper) : List Nat := guardL all o ++ slots (readO o.op)
/-- What it changes besides. -/
def xw (o : Oper) : List Nat :=
  match o.op with
  | .call { callee := .builtin .append, args, argTypes := _ } => slots (args.toList.take 1)
  | .store _ a _ => slots [a]
  | .buildSlice _ _ parts => match parts.toList with | [q] => slots [q.2] | _ => []
  | .call { callee := .value _, args, argTypes } => match argTypes.toList with | [] => slots (args.toList.take 1) | _ => []
  | _ => []
def wr (o : Oper) : List Nat := dstL o ++ xw o
/-- Nothing is owned where the block's results go. -/
def blkOk (st : St) : List (Bool × Oper) → Bool
  | [] => true
  | (true, _) :: _ => true
  | (false, o) :: r => ((dstL o).all fun s => !(st s).owns) && blkOk st r
/-- What the block changes besides its results. -/
def wrL : List (Bool × Oper) → List Nat
  | [] => []
  | (true, _) :: _ => []
  | (false, o) :: r => xw o ++ wrL r
/-- What the block cuts. -/
def slcL : List (Bool × Oper) → List Nat
  | [] => []
  | (true, _) :: _ => []
  | (false, o) :: r => (match o.op with | .slice _ x (some _) _ _ => slots [x] | _ => []) ++ slcL r
/-- .. under another name. -/
def movL (sl : List Nat) : List (Bool × Oper) → List Nat
  | [] => []
  | (true, _) :: _ => []
  | (false, o) :: r => (match o.op, o.dst with | .move (.tmp y), some d => (match memN d sl with | true => [y] | false => []) | _, _ => []) ++ movL sl r
/-- A slot loses its other names. -/
def dropS (s : Nat) (st : St) : St := fun x => (st x).drop s
def dropAll (st : St) : List Nat → St
  | [] => st
  | s :: l => match (st s).owns with
    | true => dropAll (dropS s st) l
    | false => dropAll st l
def dropK (st : St) (κ : St → Option ρ) : List Nat → Option ρ
  | [] => κ st
  | s :: l => match (st s).owns with
    | true => dropK (dropS s st) κ l
    | false => dropK st κ l
def frzAll (st : St) : List Nat → St
  | [] => st
  | s :: l => match st s with
    | .val ⟨.osl _ _, _⟩ => (match frzP st s [] with | some (_, st1) => frzAll st1 l | none => frzAll st l)
    | _ => frzAll st l
def frzK (st : St) (κ : St → Option ρ) : List Nat → Option ρ
  | [] => κ st
  | s :: l => match st s with
    | .val ⟨.osl _ _, _⟩ => (match frzP st s [] with | some (_, st1) => frzK st1 κ l | none => frzK st κ l)
    | _ => frzK st κ l
def prep (st : St) (os : List (Bool × Oper)) : St := dropAll (frzAll st (movL (slcL os) os)) (wrL os)
def prepK (st : St) (os : List (Bool × Oper)) (κ : St → Option ρ) : Option ρ := frzK st (fun st1 => dropK st1 κ (wrL os)) (movL (slcL os) os)
noncomputable def execD (C : Cx ρ) (all : List Oper) : Bool → List (Bool × Oper) → St → (St → Option ρ) → Option ρ
  | _, [], st, κ => κ st
  | _, (true, o) :: os, st, κ => step1 C all st o fun st1 => execD C all true os st1 κ
  | true, (false, o) :: os, st, κ => prepK st ((false, o) :: os) fun st1 => match blkOk st1 ((false, o) :: os) && quietOp C.P C.tab st1 o with
    | true => step1 C all st1 o fun st2 => execD C all false os st2 κ
    | false => none
  | false, (false, o) :: os, st, κ => match quietOp C.P C.tab st o with
    | true => step1 C all st o fun st1 => execD C all false os st1 κ
    | false => none
/-- An edge that always binds. -/
def edgeB (e : Edge) : Bool := match e.ground with | .textOnly _ => false | .gcOnly _ => false | _ => true
def nthN (l : List Nat) (n : Nat) : Nat := match l, n with | [], _ => 0 | a :: _, 0 => a | _ :: r, n + 1 => nthN r n
def ancE (ms : List Nat) : List Edge → Nat
  | [] => 0
  | e :: es => match edgeB e with
    | true => Nat.lor (Nat.lor (Nat.shiftLeft 1 e.on) (nthN ms e.on)) (ancE ms es)
    | false => ancE ms es
/-- Of each operation all that come ahead of it in any order. -/
def ancs : List Nat → List Oper → List Nat
  | ms, [] => ms
  | ms, o :: os => ancs (ms ++ [ancE ms o.after.toList]) os
def bef (ms : List Nat) (m p : Nat) : Bool := Nat.testBit (nthN ms p) m
def pivotB (ms : List Nat) (n p : Nat) : Bool := (List.range n).all fun j => Nat.beq j p || (match Nat.blt j p with | true => bef ms j p | false => bef ms p j)
def disj (a b : List Nat) : Bool := a.all fun x => !memN x b
def pairB (all : List Oper) (ms : List Nat) (m p : Nat) (om op : Oper) : Bool :=
  bef ms m p || (disj (wr om) (lk all op) && disj (dstL om) (wr op) && (bef ms p m || disj (wr om) (wr op)))
def enumO {α : Type} : Nat → List α → List (Nat × α)
  | _, [] => []
  | n, a :: l => (n, a) :: enumO (n + 1) l
def backB : Nat → List Oper → Bool
  | _, [] => true
  | n, o :: os => (o.after.toList.all fun e => !edgeB e || Nat.blt e.on n) && backB (n + 1) os
/-- One operation, its number, and whether its place is bound. -/
abbrev Tr := Nat × Bool × Oper
/-- A copy of a slot that nobody writes: it may come at any time; who reads it may read that slot. -/
def lazO (P : Program) (all : List Oper) (i : Nat) (o : Oper) : Option (Nat × Nat) :=
  match o.op, o.guard, o.dst with
  | .move (.tmp x), none, some d => match isPtrT P o.type && Nat.blt d VB && !memN d [x] && (enumO 0 all).all fun q => !memN x (dstL q.2) && (Nat.beq q.1 i || !memN d (dstL q.2)) && (match q.2.guard with | some (j, _) => !memN j [i] | none => true) with
    | true => some (d, x)
    | false => none
  | _, _, _ => none
def subX (m : List (Nat × Nat)) : Operand → Operand
  | .tmp d => match asso d m with | some x => .tmp x | none => .tmp d
  | x => x
/-- Whether a call is of a function to which a box is lent. -/
def isInoC (tab : List Fn) : Operand → Bool
  | .func f => inoF f tab
  | _ => false
/-- An operation as it is reckoned: copies looked through; a call that is lent a box has no types. -/
def mapOp (tab : List Fn) (s : Operand → Operand) : Op → Op
  | .move x => .move (s x) | .assign x => .assign (s x) | .pick c a b => .pick (s c) (s a) (s b)
  | .box t x => .box t (s x) | .load t a => .load t (s a) | .store t a x => .store t (s a) (s x) | .nilCheck x => .nilCheck (s x)
  | .build t ps => .build t (ps.map fun q => (q.1, s q.2)) | .buildSlice t n ps => .buildSlice t n (ps.map fun q => (q.1, s q.2))
  | .binOp op t x y t2 => .binOp op t (s x) (s y) t2 | .unOp op t x => .unOp op t (s x) | .convert a b x => .convert a b (s x)
  | .makeSlice t l c => .makeSlice t (s l) (s c) | .slice t x lo hi mx => .slice t (s x) (lo.map s) (hi.map s) (mx.map s)
  | .fieldAddr t x f => .fieldAddr t (s x) f | .field t x f => .field t (s x) f | .indexAddr t x i => .indexAddr t (s x) (s i) | .index t x i => .index t (s x) (s i)
  | .extract x n => .extract (s x) n
  | .call { callee := .value f, args, argTypes := _ } => .call { callee := .value (s f), args := args.map s, argTypes := match isInoC tab f with | true => #[] | false => #[0] }
  | .call { callee := .builtin b, args, argTypes } => .call { callee := .builtin b, args := args.map s, argTypes }
  | o => o
def mapO (tab : List Fn) (s : Operand → Operand) (o : Oper) : Oper := { o with op := mapOp tab s o.op }
def pivL (L ms : List Nat) (n p : Nat) : Bool := (List.range n).all fun j => Nat.beq j p || memN j L || (match Nat.blt j p with | true => bef ms j p | false => bef ms p j)
/-- A region that draws its order, looked at: the operations as they are reckoned, which are bound to one place. -/
def trs (L : List Nat) (ms : List Nat) (all' : List Oper) : List Tr := (enumO 0 all').filterMap fun q => match memN q.1 L with | true => none | false => some (q.1, pivL L ms all'.length q.1, q.2)
structure Drw where
  all : List Oper
  ds : List Nat
  os : List (Bool × Oper)
/-- .. 'L': the copies' numbers, 'm': what they are copies of. -/
def statL (P : Program) (tab : List Fn) (L : List Nat) (m : List (Nat × Nat)) (all : List Oper) : Option Drw :=
  let ms := ancs [] all
  let all' := all.map (mapO tab (subX m))
  let T := trs L ms all'
  match backB 0 all && ((enumO 0 all).all fun q => match memN q.1 L, lazO P all q.1 q.2 with | true, some (d, x) => (match asso d m with | some x' => Nat.beq x' x | none => false) | true, none => false | false, _ => true) &&
    ((enumO 0 all).all fun q => memN q.1 L || (q.2.op.operands.toList.all fun x => match x with | .tmp d => (match asso d m with | some _ => (enumO 0 all).all fun p => !memN d (dstL p.2) || bef ms p.1 q.1 | none => true) | _ => true)) &&
    (all.all fun o => match o.op with | .select _ _ => false | _ => true) &&
    (m.all fun dx => (enumO 0 all).any fun q => memN q.1 L && memN dx.1 (dstL q.2)) &&
    (T.filter fun t => !t.2.1).all (fun m => (wr m.2.2).all fun s => Nat.blt s VB) &&
    (T.filter fun t => !t.2.1).all (fun m => (T.filter fun t => !t.2.1).all fun p => Nat.beq m.1 p.1 || pairB all' ms m.1 p.1 m.2.2 p.2.2) with
  | true => some ⟨all', m.map (·.1), T.map (·.2)⟩
  | false => none
/-- The copies: such as are not bound to a place. -/
def lazC (P : Program) (all : List Oper) : List (Nat × Nat × Nat) :=
  (enumO 0 all).filterMap fun q => match pivL [] (ancs [] all) all.length q.1, lazO P all q.1 q.2 with | false, some dx => some (q.1, dx) | _, _ => none
def statD (P : Program) (tab : List Fn) (all : List Oper) : Option Drw :=
  match statL P tab ((lazC P all).map (·.1)) ((lazC P all).map (·.2)) all with
  | some r => some r
  | none => statL P tab [] [] all
/-- Slots are left empty. -/
def takeAll (st : St) : List Nat → St
  | [] => st
  | s :: l => takeAll (takeS st s) l
def noI : List Step → Bool
  | [] => true
  | .i _ :: _ => false
  | _ :: p => noI p
/-- Places are shared from here on. -/
def frzH (st : St) : List (Nat × List Step) → St
  | [] => st
  | (s, p) :: l => match noI p, frzP st s p with
    | true, some (_, st1) => frzH st1 l
    | _, _ => frzH st l
inductive Ex where
  | nor | ext (id : Nat) | rt
/-- What stands around a piece of code. -/
inductive Fr where
  | sq (b : Code) (kb : Nat) | blk (id : Nat) | lp (b : Code) (key : Nat) | sk
end
/-- One result at a function's end. -/
def res1 (P : Program) (st : St) (r : ResultVar) : Option (Dv × St) :=
  match r with
  | .tmp t => match lowX (.tmp t) with | true => takeV st (.tmp t) | false => none
  | .cell a t => match lowX (.tmp a) with
    | true => xLoad P st t (.tmp a) fun st1 e => match e with | .val d => some (d, st1) | _ => none
    | false => none
/-- The results at a function's end. -/
def resV (P : Program) (st : St) (b : Nat) : List ResultVar → Option (List Dv × St)
  | [] => some ([], st)
  | x :: r => match res1 P st x with
    | some (d, st1) => match resV P (setS st1 (some b) (.val d)) (b + 1) r with | some (ds, st2) => some (d :: ds, st2) | none => none
    | none => none
section
variable (P : Program) (tab : List Fn)
def fnAt (v : Nat) : Fn := tab.getD v fn0
abbrev DD := (v : Nat) → (key : Nat) → LL ((fnAt tab v).sh key) → Option (HR (fnAt tab v).rs)
def finV (F : Fn) (st : St) : Option (HR F.rs) :=
  match F.mkf with
  | none => match resV P st (VB + 1) (F.f.results.toList ++ F.ino.map ResultVar.tmp) with
    | some (ds, _) => HR.of F.rs ds
    | none => none
  | some g => match F.f.results.toList, F.ino with
    | [.tmp t], [] => match st t with
      | .fn f ds => match Nat.beq f g && mkB F with | true => HR.of F.rs ds | false => none
      | _ => none
    | _, _ => none
variable (D : DD tab) (v : Nat)
def Rv : Type := HR (fnAt tab v).rs
/-- A point of the function, from which another function goes on. -/
def jump (key : Nat) (st : St) : Option (HR (fnAt tab v).rs) :=
  match namesOk ((fnAt tab v).sh key) ((fnAt tab v).sh key) with
  | true => match projL st ((fnAt tab v).sh key) with
    | some h => D v key h
    | none => none
  | false => none
def isPt (key : Nat) : Bool := match asso key (fnAt tab v).pts with | some _ => true | none => false
noncomputable def exec : Code → Nat → St → (Ex → St → Option (HR (fnAt tab v).rs)) → Option (HR (fnAt tab v).rs)
  | .skip, _, st, κ => κ .nor st
  | .label _, _, st, κ => κ .nor st
  | .ret, _, st, κ => κ .rt st
  | .exit id, _, st, κ => κ (.ext id) st
  | .region _ ops false, _, st, κ => execOps ⟨P, tab, D⟩ ops.toList ops.toList st (κ .nor)
  | .region _ ops true, key, st, κ => match statD P tab ops.toList with
    | some d => execD ⟨P, tab, D⟩ d.all true d.os (takeAll (frzH st (match asso key (fnAt tab v).hints with | some l => l | none => [])) d.ds) (κ .nor)
    | none => none
  | .seq a b, key, st, κ => exec a (2 * key) st fun e st1 => match e with
    | .nor => match isPt tab v (2 * key + 1) with
      | true => jump tab D v (2 * key + 1) st1
      | false => exec b (2 * key + 1) st1 κ
    | e => κ e st1
  | .cond c a b, key, st, κ => match opd st c with
    | .val ⟨.bool, z⟩ => brB z fun z => match z with
      | true => exec a (2 * key) st κ
      | false => exec b (2 * key + 1) st κ
    | _ => none
  | .block id b, key, st, κ => exec b (2 * key) st fun e st1 => match e with
    | .ext id' => match Nat.beq id' id with | true => κ .nor st1 | false => κ (.ext id') st1
    | e => κ e st1
  | .loop _, key, st, _ => jump tab D v key st
  | .scope b, key, st, κ => exec b (2 * key) st κ
  | _, _, _, _ => none
/-- The piece of code at a key, and what stands around it, the innermost first. -/
def sub (root : Code) : List Bool → Option (Code × Nat × List Fr)
  | [] => some (root, 1, [])
  | d :: p => match sub root p with
    | some (.seq a b, key, fs) => match d with
      | false => some (a, 2 * key, .sq b (2 * key + 1) :: fs)
      | true => some (b, 2 * key + 1, .sk :: fs)
    | some (.cond _ a b, key, fs) => match d with
      | false => some (a, 2 * key, .sk :: fs)
      | true => some (b, 2 * key + 1, .sk :: fs)
    | some (.block id b, key, fs) => match d with
      | false => some (b, 2 * key, .blk id :: fs)
      | true => none
    | some (.loop b, key, fs) => match d with
      | false => some (b, 2 * key, .lp b key :: fs)
      | true => none
    | some (.scope b, key, fs) => match d with
      | false => some (b, 2 * key, .sk :: fs)
      | true => none
    | _ => none
def dec : Nat → Nat → List Bool
  | 0, _ => []
  | n + 1, key => match Nat.ble key 1 with
    | true => []
    | false => (Nat.beq (key % 2) 1) :: dec n (key / 2)
noncomputable def kap : List Fr → Ex → St → Option (HR (fnAt tab v).rs)
  | [], .nor, st => finV P (fnAt tab v) st
  | [], .rt, st => finV P (fnAt tab v) st
  | [], .ext _, _ => none
  | .sq b kb :: fs, e, st => match e with
    | .nor => match isPt tab v kb with
      | true => jump tab D v kb st
      | false => exec P tab D v b kb st (kap fs)
    | e => kap fs e st
  | .blk id :: fs, e, st => match e with
    | .ext id' => match Nat.beq id' id with | true => kap fs .nor st | false => kap fs (.ext id') st
    | e => kap fs e st
  | .lp _ key :: fs, e, st => match e with
    | .nor => jump tab D v key st
    | e => kap fs e st
  | .sk :: fs, e, st => kap fs e st
noncomputable def from_ (key : Nat) (st : St) : Option (HR (fnAt tab v).rs) :=
  match (fnAt tab v).f.body with
  | some root => match key with
    | 0 => exec P tab D v root 1 st (kap P tab D v [])
    | key => match sub root (dec 300 key) with
      | some (.loop b, k, fs) => match Nat.beq k key with
        | true => exec P tab D v b (2 * k) st (kap P tab D v (.lp b k :: fs))
        | false => none
      | some (c, k, fs) => match Nat.beq k key with
        | true => exec P tab D v c k st (kap P tab D v fs)
        | false => none
      | none => none
  | none => none
end
/-- What all functions of a table come to, by at most so many calls and cuts one in the other. -/
noncomputable def den (P : Program) (tab : List Fn) : Nat → DD tab
  | 0 => fun _ _ _ => none
  | k + 1 => fun v key h => from_ P tab (den P tab k) v key (mkSt ((fnAt tab v).sh key) h)
end Go.Proofs.Ytlmcalffemklnaa.Rf
namespace Go.Proofs.Ytlmcalffemklnaa.Rf
abbrev I : Ty := .int .i64
abbrev U : Ty := .int .u64
abbrev Y : Ty := .int .u8
def w64 (n : Int) : Int := IntKind.i64.wrap n
def wu64 (n : Int) : Int := IntKind.u64.wrap n
def wu8 (n : Int) : Int := IntKind.u8.wrap n
def wi32 (n : Int) : Int := IntKind.i32.wrap n
def wu32 (n : Int) : Int := IntKind.u32.wrap n
def shlI (k : IntKind) (a b : Int) : Int := k.wrap (a * 2 ^ min b.toNat k.bits)
def shrI (k : IntKind) (a b : Int) : Int := a.fdiv (2 ^ min b.toNat k.bits)
def andI (k : IntKind) (a b : Int) : Int := k.wrap (BitVec.ofInt k.bits a &&& BitVec.ofInt k.bits b).toNat
def orI (k : IntKind) (a b : Int) : Int := k.wrap (BitVec.ofInt k.bits a ||| BitVec.ofInt k.bits b).toNat
def xorI (k : IntKind) (a b : Int) : Int := k.wrap (BitVec.ofInt k.bits a ^^^ BitVec.ofInt k.bits b).toNat
def andnI (k : IntKind) (a b : Int) : Int := k.wrap (BitVec.ofInt k.bits a &&& ~~~ (BitVec.ofInt k.bits b)).toNat
def cutl {α : Type} (l : List α) (lo hi : Int) : List α := (l.take hi.toNat).drop lo.toNat
end Go.Proofs.Ytlmcalffemklnaa.Rf
namespace Go.Proofs.Ytlmcalffemklnaa.Rf
/-- Which place holds the header of a block that the walk owns. -/
abbrev Own := Nat → Option (Nat × List Step)
/-- Which blocks what is shared may lie in: such as may be handed out by any function, and such as only may where nothing is lent. -/
structure Fl where
  t : Nat → Prop
  s : Nat → Prop
  ts : ∀ b, t b → s b
def Fl.at (F : Fl) (f : Bool) (b : Nat) : Prop := match f with | true => F.t b | false => F.s b
theorem Fl.mono (F : Fl) {f f' : Bool} {b : Nat} (h : (f || !f') = true) (k : F.at f b) : F.at f' b := by
  cases f <;> cases f' <;> first | exact k | exact F.ts b k | cases h
def mem (w : World) (b : Nat) (o : Nat) : Option Value := w.cell? ⟨b, o, none⟩
def writable (w : World) (b n : Nat) : Prop := ∃ c e, w.heap[b]? = some (.cells c e (0, 0)) ∧ n ≤ c.size
/-- What is read out of cells is this value. -/
def Rd (w : World) (ow : Own) (bs : Fl) : (t : Ty) → Nat → List Step → (Nat → Option Value) → Nat → t.den → Prop
  | .int k, _, _, g, o, x => g o = some (.int k x)
  | .bool, _, _, g, o, x => g o = some (.bool x)
  | .str, _, _, g, o, x => g o = some (.string x)
  | .nils, _, _, g, o, _ => ∃ a, g o = some (.slice a 0 0)
  | .nilp, _, _, g, o, _ => g o = some (.pointer none)
  | .hole, _, _, g, o, _ => ∃ v : Value, g o = some v ∧ v.oneCell' = true
  | .unit, _, _, _, _, _ => True
  | .pair a b, s, p, g, o, x => Rd w ow bs a s (p ++ [.l]) g o x.1 ∧ Rd w ow bs b s (p ++ [.r]) g (o + a.sz) x.2
  | .arr n t, s, p, g, o, x => List.length x = n ∧ ∀ i, i < n → Rd w ow bs t s (p ++ [.i i]) g (o + i * t.sz) (rd x i)
  | .sptr t, s, p, g, o, x => ∃ b o', g o = some (.pointer (some ⟨b, o', none⟩)) ∧ ow b = none ∧ bs.at false b ∧ b < w.heap.size ∧ Rd w ow bs t s p (mem w b) o' x
  | .optr f t, s, p, g, o, x => ∃ b, g o = some (.pointer (some ⟨b, 0, none⟩)) ∧ ow b = some (s, p) ∧ bs.at f b ∧ writable w b t.sz ∧ Rd w ow bs t s (p ++ [.d]) (mem w b) 0 x
  | .sl f t, s, p, g, o, x => ∃ a len cap, g o = some (.slice a len cap) ∧ List.length x = len ∧ len ≤ cap ∧ (len ≠ 0 → ∃ b o', a = some ⟨b, o', none⟩ ∧ ow b = none ∧ bs.at f b ∧ b < w.heap.size ∧
      ∀ i, i < len → Rd w ow bs t s p (mem w b) (o' + i * t.sz) (rd x i))
  | .osl f t, s, p, g, o, x => ∃ a len cap, g o = some (.slice a len cap) ∧ List.length x = len ∧ len ≤ cap ∧ (cap ≠ 0 → ∃ b o', a = some ⟨b, o', none⟩ ∧ ow b = some (s, p) ∧ bs.at f b ∧
      writable w b (o' + cap * t.sz) ∧ ∀ i, i < len → Rd w ow bs t s (p ++ [.i i]) (mem w b) (o' + i * t.sz) (rd x i))
theorem mem_of {w w' : World} {b : Nat} (h : w'.heap[b]? = w.heap[b]?) : mem w' b = mem w b := by
  funext o; exact World.cell?_of_block (w := w) (w' := w') (a := ⟨b, o, none⟩) h
theorem writable.lt {w : World} {b n : Nat} (h : writable w b n) : b < w.heap.size := by
  obtain ⟨c, e, h, _⟩ := h
  exact (Array.getElem?_eq_some_iff.1 h).1
theorem writable.of {w w' : World} {b n : Nat} (h : writable w b n) (e : w'.heap[b]? = w.heap[b]?) : writable w' b n := by
  obtain ⟨c, t, h, k⟩ := h; exact ⟨c, t, e.trans h, k⟩
theorem Rd.frame {w w' : World} {ow ow' : Own} {bs : Fl} (hs : w.heap.size ≤ w'.heap.size) : (t : Ty) → {s s' : Nat} → {p p' : List Step} → {g g' : Nat → Option Value} → {o o' : Nat} → {x : t.den} →
    (∀ i, i < t.sz → g' (o' + i) = g (o + i)) →
    (∀ b, b < w.heap.size → ow b = none → ow' b = none ∧ w'.heap[b]? = w.heap[b]?) →
    (∀ b q, b < w.heap.size → ow b = some (s, p ++ q) → ow' b = some (s', p' ++ q) ∧ w'.heap[b]? = w.heap[b]?) →
    Rd w ow bs t s p g o x → Rd w' ow' bs t s' p' g' o' x
  | .int k, _, _, _, _, _, _, o, _, _, hg, _, _, h => by simp only [Rd] at h ⊢; rw [← h]; simpa [Ty.sz] using hg 0
  | .bool, _, _, _, _, _, _, o, _, _, hg, _, _, h => by simp only [Rd] at h ⊢; rw [← h]; simpa [Ty.sz] using hg 0
  | .str, _, _, _, _, _, _, o, _, _, hg, _, _, h => by simp only [Rd] at h ⊢; rw [← h]; simpa [Ty.sz] using hg 0
  | .nils, _, _, _, _, _, _, o, _, _, hg, _, _, h => by simp only [Rd] at h ⊢; obtain ⟨a, h⟩ := h; exact ⟨a, by rw [← h]; simpa [Ty.sz] using hg 0⟩
  | .nilp, _, _, _, _, _, _, o, _, _, hg, _, _, h => by simp only [Rd] at h ⊢; rw [← h]; simpa [Ty.sz] using hg 0
  | .hole, _, _, _, _, _, _, o, _, _, hg, _, _, h => by simp only [Rd] at h ⊢; obtain ⟨v, h, h1⟩ := h; exact ⟨v, by rw [← h]; simpa [Ty.sz] using hg 0, h1⟩
  | .unit, _, _, _, _, _, _, _, _, _, _, _, _, _ => by simp only [Rd]
  | .pair a b, s, s', p, p', g, g', o, o', x, hg, hn, hl, h => by
    simp only [Rd] at h ⊢
    refine ⟨Rd.frame hs a (fun i hi => hg i (by simp only [Ty.sz]; omega)) hn (fun b' q hb hq => ?_) h.1, Rd.frame hs b (fun i hi => ?_) hn (fun b' q hb hq => ?_) h.2⟩
    · rw [List.append_assoc] at hq ⊢; exact hl b' _ hb hq
    · have := hg (a.sz + i) (by simp only [Ty.sz]; omega); rw [← Nat.add_assoc, ← Nat.add_assoc] at this; exact this
    · rw [List.append_assoc] at hq ⊢; exact hl b' _ hb hq
  | .arr n t, s, s', p, p', g, g', o, o', x, hg, hn, hl, h => by
    simp only [Rd] at h ⊢
    refine ⟨h.1, fun i hi => Rd.frame hs t (fun j hj => ?_) hn (fun b' q hb hq => ?_) (h.2 i hi)⟩
    · have : i * t.sz + j < n * t.sz := by
        have := Nat.mul_le_mul_right t.sz (Nat.succ_le_of_lt hi); rw [Nat.succ_mul] at this; omega
      have := hg (i * t.sz + j) (by simpa only [Ty.sz] using this); rw [← Nat.add_assoc, ← Nat.add_assoc] at this; exact this
    · rw [List.append_assoc] at hq ⊢; exact hl b' _ hb hq
  | .sptr t, s, s', p, p', g, g', o, o', x, hg, hn, hl, h => by
    simp only [Rd] at h ⊢
    obtain ⟨b, o1, h1, h2, hc, hb, h3⟩ := h
    obtain ⟨k1, k2⟩ := hn b hb h2
    exact ⟨b, o1, by rw [← h1]; simpa [Ty.sz] using hg 0, k1, hc, by omega, by rw [mem_of k2]; exact Rd.frame hs t (fun i _ => rfl) hn hl h3⟩
  | .optr f t, s, s', p, p', g, g', o, o', x, hg, hn, hl, h => by
    simp only [Rd] at h ⊢
    obtain ⟨b, h1, h2, hf, hw, h3⟩ := h
    obtain ⟨k1, k2⟩ := hl b [] hw.lt (by simpa using h2)
    exact ⟨b, by rw [← h1]; simpa [Ty.sz] using hg 0, by simpa using k1, hf, hw.of k2, by rw [mem_of k2]; exact Rd.frame hs t (fun i _ => rfl) hn (fun b' q hb hq => by rw [List.append_assoc] at hq ⊢; exact hl b' _ hb hq) h3⟩
  | .sl f t, s, s', p, p', g, g', o, o', x, hg, hn, hl, h => by
    simp only [Rd] at h ⊢
    obtain ⟨a, len, cap, h1, h2, hle, h3⟩ := h
    refine ⟨a, len, cap, by rw [← h1]; simpa [Ty.sz] using hg 0, h2, hle, fun h0 => ?_⟩
    obtain ⟨b, o1, ha, hb, hf, hlt, hi⟩ := h3 h0
    obtain ⟨k1, k2⟩ := hn b hlt hb
    exact ⟨b, o1, ha, k1, hf, by omega, fun i hlt => by rw [mem_of k2]; exact Rd.frame hs t (fun j _ => rfl) hn hl (hi i hlt)⟩
  | .osl f t, s, s', p, p', g, g', o, o', x, hg, hn, hl, h => by
    simp only [Rd] at h ⊢
    obtain ⟨a, len, cap, h1, h2, hle, h3⟩ := h
    refine ⟨a, len, cap, by rw [← h1]; simpa [Ty.sz] using hg 0, h2, hle, fun h0 => ?_⟩
    obtain ⟨b, o1, ha, hb, hf, hw, hi⟩ := h3 h0
    obtain ⟨k1, k2⟩ := hl b [] hw.lt (by simpa using hb)
    exact ⟨b, o1, ha, by simpa using k1, hf, hw.of k2, fun i hlt => by rw [mem_of k2]; exact Rd.frame hs t (fun j _ => rfl) hn (fun b' q hb hq => by rw [List.append_assoc] at hq ⊢; exact hl b' _ hb hq) (hi i hlt)⟩
/-- What is not owned may stand anywhere, and needs only what is shared. -/
theorem Rd.flat {w w' : World} {ow ow' : Own} {bs : Fl} (hs : w.heap.size ≤ w'.heap.size) : (t : Ty) → t.hasOwn = false → {s s' : Nat} → {p p' : List Step} → {g g' : Nat → Option Value} → {o o' : Nat} → {x : t.den} →
    (∀ i, i < t.sz → g' (o' + i) = g (o + i)) →
    (∀ b, b < w.heap.size → ow b = none → ow' b = none ∧ w'.heap[b]? = w.heap[b]?) →
    Rd w ow bs t s p g o x → Rd w' ow' bs t s' p' g' o' x
  | .int k, _, _, _, _, _, _, _, o, _, _, hg, _, h => by simp only [Rd] at h ⊢; rw [← h]; simpa [Ty.sz] using hg 0
  | .bool, _, _, _, _, _, _, _, o, _, _, hg, _, h => by simp only [Rd] at h ⊢; rw [← h]; simpa [Ty.sz] using hg 0
  | .str, _, _, _, _, _, _, _, o, _, _, hg, _, h => by simp only [Rd] at h ⊢; rw [← h]; simpa [Ty.sz] using hg 0
  | .nils, _, _, _, _, _, _, _, o, _, _, hg, _, h => by simp only [Rd] at h ⊢; obtain ⟨a, h⟩ := h; exact ⟨a, by rw [← h]; simpa [Ty.sz] using hg 0⟩
  | .nilp, _, _, _, _, _, _, _, o, _, _, hg, _, h => by simp only [Rd] at h ⊢; rw [← h]; simpa [Ty.sz] using hg 0
  | .unit, _, _, _, _, _, _, _, _, _, _, _, _, _ => by simp only [Rd]
  | .pair a b, ht, s, s', p, p', g, g', o, o', x, hg, hn, h => by
    simp only [Ty.hasOwn, Bool.or_eq_false_iff] at ht
    simp only [Rd] at h ⊢
    refine ⟨Rd.flat hs a ht.1 (fun i hi => hg i (by simp only [Ty.sz]; omega)) hn h.1, Rd.flat hs b ht.2 (fun i hi => ?_) hn h.2⟩
    have := hg (a.sz + i) (by simp only [Ty.sz]; omega); rw [← Nat.add_assoc, ← Nat.add_assoc] at this; exact this
  | .arr n t, ht, s, s', p, p', g, g', o, o', x, hg, hn, h => by
    simp only [Rd] at h ⊢
    refine ⟨h.1, fun i hi => Rd.flat hs t ht (fun j hj => ?_) hn (h.2 i hi)⟩
    have : i * t.sz + j < n * t.sz := by
      have := Nat.mul_le_mul_right t.sz (Nat.succ_le_of_lt hi); rw [Nat.succ_mul] at this; omega
    have := hg (i * t.sz + j) (by simpa only [Ty.sz] using this); rw [← Nat.add_assoc, ← Nat.add_assoc] at this; exact this
  | .sptr t, ht, s, s', p, p', g, g', o, o', x, hg, hn, h => by
    simp only [Rd] at h ⊢
    obtain ⟨b, o1, h1, h2, hc, hb, h3⟩ := h
    obtain ⟨k1, k2⟩ := hn b hb h2
    exact ⟨b, o1, by rw [← h1]; simpa [Ty.sz] using hg 0, k1, hc, by omega, by rw [mem_of k2]; exact Rd.flat hs t ht (fun i _ => rfl) hn h3⟩
  | .sl f t, ht, s, s', p, p', g, g', o, o', x, hg, hn, h => by
    simp only [Rd] at h ⊢
    obtain ⟨a, len, cap, h1, h2, hle, h3⟩ := h
    refine ⟨a, len, cap, by rw [← h1]; simpa [Ty.sz] using hg 0, h2, hle, fun h0 => ?_⟩
    obtain ⟨b, o1, ha, hb, hf, hlt, hi⟩ := h3 h0
    obtain ⟨k1, k2⟩ := hn b hlt hb
    exact ⟨b, o1, ha, k1, hf, by omega, fun i hlt => by rw [mem_of k2]; exact Rd.flat hs t ht (fun j _ => rfl) hn (hi i hlt)⟩
/-- A value in a slot. -/
def VR (w : World) (ow : Own) (bs : Fl) (d : Dv) (s : Nat) (p : List Step) (v : Value) : Prop :=
  (d.1.agg = true ↔ ∃ cs, v = .agg cs) ∧ v.cells.size = d.1.sz ∧ Rd w ow bs d.1 s p (fun o => v.cells[o]?) 0 d.2
theorem VR.frame {w w' : World} {ow ow' : Own} {bs : Fl} {d : Dv} {s s' : Nat} {p p' : List Step} {v : Value} (hs : w.heap.size ≤ w'.heap.size)
    (hn : ∀ b, b < w.heap.size → ow b = none → ow' b = none ∧ w'.heap[b]? = w.heap[b]?)
    (hl : ∀ b q, b < w.heap.size → ow b = some (s, p ++ q) → ow' b = some (s', p' ++ q) ∧ w'.heap[b]? = w.heap[b]?) (h : VR w ow bs d s p v) : VR w' ow' bs d s' p' v :=
  ⟨h.1, h.2.1, Rd.frame hs d.1 (fun _ _ => rfl) hn hl h.2.2⟩
theorem VR.flat {w w' : World} {ow ow' : Own} {bs : Fl} {d : Dv} {s s' : Nat} {p p' : List Step} {v : Value} (ht : d.1.hasOwn = false) (hs : w.heap.size ≤ w'.heap.size)
    (hn : ∀ b, b < w.heap.size → ow b = none → ow' b = none ∧ w'.heap[b]? = w.heap[b]?) (h : VR w ow bs d s p v) : VR w' ow' bs d s' p' v :=
  ⟨h.1, h.2.1, Rd.flat hs d.1 ht (fun _ _ => rfl) hn h.2.2⟩
def cellAt (w : World) (v : Value) (b : Option Nat) (o : Nat) : Option Value := match b with | none => v.cells[o]? | some b => mem w b o
/-- Where a place lies, as its headers tell. -/
def walk (w : World) (v : Value) : List Step → Ty → Option Nat → Nat → Option (Ty × Option Nat × Nat)
  | [], t, b, o => some (t, b, o)
  | .l :: q, .pair a _, b, o => walk w v q a b o
  | .r :: q, .pair a c, b, o => walk w v q c b (o + a.sz)
  | .i n :: q, .arr m u, b, o => if n < m then walk w v q u b (o + n * u.sz) else none
  | .d :: q, .optr _ u, b, o => match cellAt w v b o with | some (.pointer (some ⟨b1, 0, none⟩)) => walk w v q u (some b1) 0 | _ => none
  | .i n :: q, .osl _ u, b, o => match cellAt w v b o with | some (.slice (some ⟨b1, o1, none⟩) len _) => if n < len then walk w v q u (some b1) (o1 + n * u.sz) else none | _ => none
  | _, _, _, _ => none
theorem walk_append (w : World) (v : Value) : ∀ (p q : List Step) (t : Ty) (b : Option Nat) (o : Nat),
    walk w v (p ++ q) t b o = (walk w v p t b o).bind fun r => walk w v q r.1 r.2.1 r.2.2
  | [], q, t, b, o => rfl
  | .l :: p, q, t, b, o => by cases t <;> simp only [walk, List.cons_append, Option.bind_none]; exact walk_append w v p q _ _ _
  | .r :: p, q, t, b, o => by cases t <;> simp only [walk, List.cons_append, Option.bind_none]; exact walk_append w v p q _ _ _
  | .i n :: p, q, t, b, o => by
    cases t <;> simp only [walk, List.cons_append, Option.bind_none]
    · split
      · split
        · exact walk_append w v p q _ _ _
        · rfl
      · rfl
    · split
      · exact walk_append w v p q _ _ _
      · rfl
  | .d :: p, q, t, b, o => by
    cases t <;> simp only [walk, List.cons_append, Option.bind_none]
    split
    · exact walk_append w v p q _ _ _
    · rfl
/-- What is read at a place. -/
theorem walk_read {w : World} {ow : Own} {bs : Fl} {v : Value} {s : Nat} : ∀ (p : List Step) {p0 : List Step} {t : Ty} {x : t.den} {b : Option Nat} {o : Nat} {t' : Ty} {b' : Option Nat} {o' : Nat},
    Rd w ow bs t s p0 (cellAt w v b) o x → walk w v p t b o = some (t', b', o') → ∃ y, get p t x = some ⟨t', y⟩ ∧ Rd w ow bs t' s (p0 ++ p) (cellAt w v b') o' y
  | [], p0, t, x, b, o, t', b', o', h, hw => by
    simp only [walk, Option.some.injEq, Prod.mk.injEq] at hw
    obtain ⟨rfl, rfl, rfl⟩ := hw
    exact ⟨x, rfl, by simpa using h⟩
  | .l :: p, p0, t, x, b, o, t', b', o', h, hw => by
    cases t <;> simp only [walk, reduceCtorEq] at hw
    simp only [Rd] at h
    obtain ⟨y, h1, h2⟩ := walk_read p h.1 hw
    exact ⟨y, h1, by rw [List.append_assoc] at h2; exact h2⟩
  | .r :: p, p0, t, x, b, o, t', b', o', h, hw => by
    cases t <;> simp only [walk, reduceCtorEq] at hw
    simp only [Rd] at h
    obtain ⟨y, h1, h2⟩ := walk_read p h.2 hw
    exact ⟨y, h1, by rw [List.append_assoc] at h2; exact h2⟩
  | .i n :: p, p0, t, x, b, o, t', b', o', h, hw => by
    cases t <;> simp only [walk, reduceCtorEq] at hw
    · simp only [Rd] at h
      obtain ⟨a, len, cap, h1, h2, hle, h3⟩ := h
      simp only [h1] at hw
      split at hw
      · rename_i b1 o1 len' cap' e
        simp only [Option.some.injEq, Value.slice.injEq] at e
        obtain ⟨rfl, rfl, rfl⟩ := e
        split at hw
        · rename_i hn
          obtain ⟨b2, o2, e, _, _, _, hi⟩ := h3 (by omega)
          simp only [Option.some.injEq, Addr.mk.injEq] at e
          obtain ⟨rfl, rfl, _⟩ := e
          obtain ⟨y, k1, k2⟩ := walk_read p (b := some b1) (hi n hn) hw
          exact ⟨y, k1, by rw [List.append_assoc] at k2; exact k2⟩
        · cases hw
      · cases hw
    · split at hw
      · rename_i hn
        simp only [Rd] at h
        obtain ⟨y, h1, h2⟩ := walk_read p (h.2 n hn) hw
        exact ⟨y, h1, by rw [List.append_assoc] at h2; exact h2⟩
      · cases hw
  | .d :: p, p0, t, x, b, o, t', b', o', h, hw => by
    cases t <;> simp only [walk, reduceCtorEq] at hw
    simp only [Rd] at h
    obtain ⟨b1, h1, h2, _, _, h3⟩ := h
    simp only [h1] at hw
    obtain ⟨y, k1, k2⟩ := walk_read p (b := some b1) h3 hw
    exact ⟨y, k1, by rw [List.append_assoc] at k2; exact k2⟩
end Go.Proofs.Ytlmcalffemklnaa.Rf
namespace Go.Proofs.Ytlmcalffemklnaa.Rf
theorem cast_pair {A A' B B' : Type} (h1 : A = A') (h2 : B = B') (h : (A × B) = (A' × B')) (x : A × B) : cast h x = (cast h1 x.1, cast h2 x.2) := by
  subst h1; subst h2; rfl
theorem cast_getD {A B : Type} (h : A = B) (h' : List A = List B) (l : List A) (a : A) (b : B) (i : Nat) (hi : i < l.length) : (cast h' l).getD i b = cast h (l.getD i a) := by
  subst h; simp [hi]
theorem cast_length {A B : Type} (h : A = B) (h' : List A = List B) (l : List A) : (cast h' l).length = l.length := by
  subst h; rfl
theorem rd_cast {t u : Ty} (h : t.den = u.den) (h' : List t.den = List u.den) (l : List t.den) (i : Nat) (hi : i < l.length) : rd (t := u) (cast h' l) i = cast h (rd l i) :=
  cast_getD h h' l _ _ i hi
theorem Ty.sz_subF : (a b : Ty) → a.subF b = true → a.sz = b.sz := by
  intro a
  induction a with
  | pair a c iha ihc => intro b h; cases b <;> simp_all [Ty.subF, Ty.sz]; rw [iha _ h.1, ihc _ h.2]
  | arr n t ih => intro b h; cases b <;> simp_all [Ty.subF, Ty.sz]; rw [ih _ h.2]
  | _ => intro b h; cases b <;> simp_all [Ty.subF, Ty.sz]
theorem Ty.agg_subF : (a b : Ty) → a.subF b = true → a.agg = b.agg := by
  intro a b h; cases a <;> cases b <;> simp_all [Ty.subF, Ty.agg]
/-- What is taken for less: read as before, once nobody owns it. -/
theorem Rd.frz {w : World} {ow ow' : Own} {bs : Fl} (hn : ∀ b, ow b = none → ow' b = none) (t : Ty) : (u : Ty) → (h : t.subF u = true) → {s s' : Nat} → {p p' : List Step} → {g : Nat → Option Value} → {o : Nat} → {x : t.den} →
    (∀ b q, ow b = some (s, p ++ q) → ow' b = none) → Rd w ow bs t s p g o x → Rd w ow' bs u s' p' g o (cast (Ty.den_of_subF h) x) := by
  induction t with
  | int k => intro u h; have h' := h; cases u <;> simp only [Ty.subF, Bool.false_eq_true, decide_eq_true_eq] at h'; subst h'; intro s s' p p' g o x hl hr; exact hr
  | bool => intro u h; have h' := h; cases u <;> simp only [Ty.subF, Bool.false_eq_true] at h'; intro s s' p p' g o x hl hr; exact hr
  | str => intro u h; have h' := h; cases u <;> simp only [Ty.subF, Bool.false_eq_true] at h'; intro s s' p p' g o x hl hr; exact hr
  | nils => intro u h; have h' := h; cases u <;> simp only [Ty.subF, Bool.false_eq_true] at h'; intro s s' p p' g o x hl hr; exact hr
  | nilp => intro u h; have h' := h; cases u <;> simp only [Ty.subF, Bool.false_eq_true] at h'; intro s s' p p' g o x hl hr; exact hr
  | hole => intro u h; have h' := h; cases u <;> simp only [Ty.subF, Bool.false_eq_true] at h'
  | unit => intro u h; have h' := h; cases u <;> simp only [Ty.subF, Bool.false_eq_true] at h'; intro s s' p p' g o x hl hr; exact hr
  | sl f t ih =>
    intro u h; have h' := h; cases u <;> simp only [Ty.subF, Bool.false_eq_true, Bool.and_eq_true] at h'
    rename_i f' t'
    intro s s' p p' g o x hl hr
    have e := Ty.den_of_subF h'.2
    simp only [Rd] at hr ⊢
    obtain ⟨a, len, cap, h1, h2, hle, h3⟩ := hr
    refine ⟨a, len, cap, h1, (cast_length e _ x).trans h2, hle, fun h0 => ?_⟩
    obtain ⟨b, o1, ha, hb, hf, hlt, hi⟩ := h3 h0
    refine ⟨b, o1, ha, hn b hb, bs.mono h'.1 hf, hlt, fun i hi' => ?_⟩
    have k := ih _ h'.2 (p' := p') (s' := s') hl (hi i hi')
    rw [← rd_cast e (congrArg List e) x i (by rw [h2]; exact hi')] at k
    rw [← Ty.sz_subF _ _ h'.2]; exact k
  | osl f t ih =>
    intro u h; have h' := h; cases u <;> simp only [Ty.subF, Bool.false_eq_true, Bool.and_eq_true] at h'
    rename_i f' t'
    intro s s' p p' g o x hl hr
    have e := Ty.den_of_subF h'.2
    simp only [Rd] at hr ⊢
    obtain ⟨a, len, cap, h1, h2, hle, h3⟩ := hr
    refine ⟨a, len, cap, h1, (cast_length e _ x).trans h2, hle, fun h0 => ?_⟩
    obtain ⟨b, o1, ha, hb, hf, hw, hi⟩ := h3 (by omega)
    refine ⟨b, o1, ha, hl b [] (by simpa using hb), bs.mono h'.1 hf, hw.lt, fun i hi' => ?_⟩
    have k := ih _ h'.2 (p' := p') (s' := s') (fun b' q hq => hl b' (.i i :: q) (by rw [List.append_assoc] at hq; exact hq)) (hi i hi')
    rw [← rd_cast e (congrArg List e) x i (by rw [h2]; exact hi')] at k
    rw [← Ty.sz_subF _ _ h'.2]; exact k
  | optr f t ih =>
    intro u h; have h' := h; cases u <;> simp only [Ty.subF, Bool.false_eq_true] at h'
    rename_i t'
    intro s s' p p' g o x hl hr
    simp only [Rd] at hr ⊢
    obtain ⟨b, h1, h2, hf, hw, h3⟩ := hr
    exact ⟨b, 0, h1, hl b [] (by simpa using h2), bs.mono (f := f) (by cases f <;> rfl) hf, hw.lt, ih _ h' (fun b' q hq => hl b' (.d :: q) (by rw [List.append_assoc] at hq; exact hq)) h3⟩
  | sptr t ih =>
    intro u h; have h' := h; cases u <;> simp only [Ty.subF, Bool.false_eq_true] at h'
    intro s s' p p' g o x hl hr
    simp only [Rd] at hr ⊢
    obtain ⟨b, o1, h1, h2, hc, hb, h3⟩ := hr
    exact ⟨b, o1, h1, hn b h2, hc, hb, ih _ h' hl h3⟩
  | pair a c iha ihc =>
    intro u h; have h' := h; cases u <;> simp only [Ty.subF, Bool.false_eq_true, Bool.and_eq_true] at h'
    intro s s' p p' g o x hl hr
    have e := cast_pair (Ty.den_of_subF h'.1) (Ty.den_of_subF h'.2) (Ty.den_of_subF h) x
    simp only [Rd] at hr ⊢
    have k1 := iha _ h'.1 (s' := s') (p' := p' ++ [.l]) (fun b' q hq => hl b' (.l :: q) (by rw [List.append_assoc] at hq; exact hq)) hr.1
    have k2 := ihc _ h'.2 (s' := s') (p' := p' ++ [.r]) (fun b' q hq => hl b' (.r :: q) (by rw [List.append_assoc] at hq; exact hq)) hr.2
    rw [Ty.sz_subF _ _ h'.1] at k2
    constructor
    · rw [show (cast (Ty.den_of_subF h) x).1 = cast (Ty.den_of_subF h'.1) x.1 from congrArg Prod.fst e]; exact k1
    · rw [show (cast (Ty.den_of_subF h) x).2 = cast (Ty.den_of_subF h'.2) x.2 from congrArg Prod.snd e]; exact k2
  | arr n t ih =>
    intro u h; have h' := h; cases u <;> simp only [Ty.subF, Bool.false_eq_true, Bool.and_eq_true] at h'
    rename_i n' t'
    intro s s' p p' g o x hl hr
    have hnn : n = n' := by simpa using h'.1
    subst hnn
    have e := Ty.den_of_subF h'.2
    simp only [Rd] at hr ⊢
    refine ⟨(cast_length e _ x).trans hr.1, fun i hi' => ?_⟩
    have k := ih _ h'.2 (p' := p' ++ [.i i]) (s' := s') (fun b' q hq => hl b' (.i i :: q) (by rw [List.append_assoc] at hq; exact hq)) (hr.2 i hi')
    rw [← rd_cast e (congrArg List e) x i (by rw [hr.1]; exact hi')] at k
    rw [← Ty.sz_subF _ _ h'.2]; exact k
/-- .. of the labels under a place some are given up. -/
def Less (ow ow' : Own) (s : Nat) (p : List Step) : Prop :=
  (∀ b, ow b = none → ow' b = none) ∧ ∀ b l, ow b = some l → ow' b = some l ∨ (ow' b = none ∧ ∃ q, l = (s, p ++ q))
theorem Less.refl (ow : Own) (s : Nat) (p : List Step) : Less ow ow s p := ⟨fun _ h => h, fun _ _ h => .inl h⟩
theorem Less.up {ow ow' : Own} {s : Nat} {p q : List Step} (h : Less ow ow' s (p ++ q)) : Less ow ow' s p :=
  ⟨h.1, fun b l hl => (h.2 b l hl).imp id fun ⟨k, r, e⟩ => ⟨k, q ++ r, by rw [e, List.append_assoc]⟩⟩
theorem Less.trans {ow ow1 ow2 : Own} {s : Nat} {p : List Step} (h : Less ow ow1 s p) (k : Less ow1 ow2 s p) : Less ow ow2 s p :=
  ⟨fun b hb => k.1 b (h.1 b hb), fun b l hl => by
    rcases h.2 b l hl with h1 | ⟨h1, hq⟩
    · exact k.2 b l h1
    · exact .inr ⟨k.1 b h1, hq⟩⟩
open Classical in
/-- All labels under a place given up. -/
noncomputable def frzO (ow : Own) (s : Nat) (p : List Step) : Own := fun b => if ∃ q, ow b = some (s, p ++ q) then none else ow b
theorem frzO_less (ow : Own) (s : Nat) (p : List Step) : Less ow (frzO ow s p) s p := by
  constructor
  · intro b h; unfold frzO; split <;> simp_all
  · intro b l h; unfold frzO
    split
    · rename_i hq; obtain ⟨q, hq⟩ := hq; rw [h] at hq; simp only [Option.some.injEq] at hq; exact .inr ⟨rfl, q, hq⟩
    · exact .inl h
theorem frzO_at (ow : Own) (s : Nat) (p : List Step) (b : Nat) (q : List Step) (h : ow b = some (s, p ++ q)) : frzO ow s p b = none := by
  unfold frzO; rw [if_pos ⟨q, h⟩]
theorem sz_castE {t u : Ty} {x : t.den} {y : u.den} (h : castE t u x = some y) : t = u := by
  unfold castE at h; split at h
  · rename_i e; exact Ty.eq_of_beq _ _ e
  · cases h
theorem castE_eq {t : Ty} {x y : t.den} (h : castE t t x = some y) : y = x := by
  unfold castE at h; split at h
  · simpa using h.symm
  · cases h
theorem Rd.frzFlat {w : World} {ow : Own} {bs : Fl} (t u : Ty) (h1 : t.hasOwn = false) (h : t.subF u = true) {s s' : Nat} {p p' : List Step} {g : Nat → Option Value} {o : Nat} {x : t.den}
    (hr : Rd w ow bs t s p g o x) : Rd w ow bs u s' p' g o (cast (Ty.den_of_subF h) x) := by
  have k := Rd.flat (ow' := fun b => (ow b).map fun _ => (0, [])) (w' := w) (s' := 1) (p' := []) (Nat.le_refl _) t h1 (fun _ _ => rfl) (fun b _ h => ⟨by simp [h], rfl⟩) hr
  exact Rd.frz (fun b hb => by simpa using hb) t u h (fun b q hq => by simp at hq) k
theorem Rd.castT {w : World} {ow : Own} {bs : Fl} {t u : Ty} {s : Nat} {p : List Step} {g : Nat → Option Value} {o : Nat} {x : t.den} {y : u.den}
    (h : castT t u x = some y) (hr : Rd w ow bs t s p g o x) : ∃ ow', Less ow ow' s p ∧ Rd w ow' bs u s p g o y := by
  unfold Rf.castT at h
  split at h
  · rename_i hs
    simp only [Option.some.injEq] at h
    subst h
    rcases Ty.sub_cases hs with rfl | hf | ⟨f, t1, t2, rfl, rfl, h1, h2⟩
    · exact ⟨ow, .refl _ _ _, hr⟩
    · exact ⟨frzO ow s p, frzO_less _ _ _, Rd.frz (frzO_less ow s p).1 _ _ hf (frzO_at ow s p) hr⟩
    · refine ⟨ow, .refl _ _ _, ?_⟩
      have e := Ty.den_of_subF h2
      simp only [Rd] at hr ⊢
      obtain ⟨a, len, cap, k1, k2, hle, k3⟩ := hr
      refine ⟨a, len, cap, k1, (cast_length e _ x).trans k2, hle, fun h0 => ?_⟩
      obtain ⟨b, o1, ha, hb, hf, hw, hi⟩ := k3 h0
      rw [← Ty.sz_subF _ _ h2]
      refine ⟨b, o1, ha, hb, hf, hw, fun i hi' => ?_⟩
      have k := Rd.frzFlat _ _ h1 h2 (s' := s) (p' := p ++ [.i i]) (hi i hi')
      rw [← rd_cast e (congrArg List e) x i (by rw [k2]; exact hi')] at k
      exact k
  · cases h
theorem Rd.nilsList {w : World} {ow : Own} {bs : Fl} {s : Nat} {p : List Step} {g : Nat → Option Value} {o : Nat} {f : Bool} {t : Ty} {x : Ty.nils.den} (h : Rd w ow bs .nils s p g o x) :
    Rd w ow bs (.sl f t) s p g o ([] : List t.den) ∧ Rd w ow bs (.osl f t) s p g o ([] : List t.den) := by
  simp only [Rd] at h ⊢
  obtain ⟨a, h⟩ := h
  exact ⟨⟨a, 0, 0, h, rfl, Nat.le_refl _, fun h => absurd rfl h⟩, a, 0, 0, h, rfl, Nat.le_refl _, fun h => absurd rfl h⟩
theorem Ty.sz_sub {a b : Ty} (h : a.sub b = true) : a.sz = b.sz := by
  rcases Ty.sub_cases h with rfl | h | ⟨f, t, t', rfl, rfl, _, h⟩
  · rfl
  · exact Ty.sz_subF _ _ h
  · rfl
theorem sz_castT {t u : Ty} {x : t.den} {y : u.den} (h : castT t u x = some y) : t.sz = u.sz := by
  unfold Rf.castT at h; split at h
  · rename_i hs; exact Ty.sz_sub hs
  · cases h
theorem agg_castT {t u : Ty} {x : t.den} {y : u.den} (h : castT t u x = some y) : t.agg = u.agg := by
  unfold Rf.castT at h; split at h
  · rename_i hs
    rcases Ty.sub_cases hs with rfl | h | ⟨f, t, t', rfl, rfl, _, h⟩
    · rfl
    · exact Ty.agg_subF _ _ h
    · rfl
  · cases h
theorem coe_sz : (u t : Ty) → {x : t.den} → {y : u.den} → coe u t x = some y → t.sz = u.sz ∧ t.agg = u.agg := by
  intro u
  induction u with
  | sl f u ih => intro t x y h; cases t <;> simp only [coe] at h <;> first | exact ⟨sz_castT h, agg_castT h⟩ | exact ⟨rfl, rfl⟩
  | osl f u ih => intro t x y h; cases t <;> simp only [coe] at h <;> first | exact ⟨sz_castT h, agg_castT h⟩ | exact ⟨rfl, rfl⟩
  | optr f u ih => intro t x y h; cases t <;> simp only [coe] at h <;> first | exact ⟨sz_castT h, agg_castT h⟩ | exact ⟨rfl, rfl⟩
  | pair a b iha ihb =>
    intro t x y h
    cases t <;> simp only [coe] at h <;> try exact ⟨sz_castT h, agg_castT h⟩
    split at h
    · exact ⟨sz_castT h, agg_castT h⟩
    · split at h
      · rename_i e1 e2
        exact ⟨by simp only [Ty.sz]; rw [(iha _ e1).1, (ihb _ e2).1], rfl⟩
      · cases h
  | _ => intro t x y h; cases t <;> simp only [coe] at h <;> exact ⟨sz_castT h, agg_castT h⟩
theorem writable.sz {w : World} {b n m : Nat} (h : writable w b n) (e : n = m) : writable w b m := e ▸ h
/-- A value taken for one of another type, where it stands. -/
theorem Rd.coe {w : World} {bs : Fl} : (u t : Ty) → {ow : Own} → {s : Nat} → {p : List Step} → {g : Nat → Option Value} → {o : Nat} → {x : t.den} → {y : u.den} → Rf.coe u t x = some y → Rd w ow bs t s p g o x →
    ∃ ow', Less ow ow' s p ∧ Rd w ow' bs u s p g o y := by
  intro u
  induction u with
  | sl f u ih =>
    intro t ow s p g o x y h hr
    cases t <;> simp only [Rf.coe] at h <;> try exact Rd.castT h hr
    obtain rfl := Option.some.inj h
    exact ⟨ow, .refl _ _ _, (Rd.nilsList hr).1⟩
  | osl f u ih =>
    intro t ow s p g o x y h hr
    cases t <;> simp only [Rf.coe] at h <;> try exact Rd.castT h hr
    obtain rfl := Option.some.inj h
    exact ⟨ow, .refl _ _ _, (Rd.nilsList hr).2⟩
  | optr f u ih =>
    intro t ow s p g o x y h hr
    cases t <;> simp only [Rf.coe] at h <;> try exact Rd.castT h hr
    rename_i f' t
    split at h
    · rename_i hf
      have : f = f' := by simpa using hf
      subst this
      simp only [Rd] at hr ⊢
      obtain ⟨b, h1, h2, hf, hw, h3⟩ := hr
      obtain ⟨ow', hl, hr⟩ := ih _ h h3
      refine ⟨ow', hl.up, b, h1, ?_, hf, hw.sz (coe_sz _ _ h).1, hr⟩
      rcases hl.2 b _ h2 with k | ⟨_, q, e⟩
      · exact k
      · exfalso
        have := congrArg (fun l => List.length (Prod.snd l)) e
        simp at this
    · cases h
  | pair a c iha ihc =>
    intro t ow s p g o x y h hr
    cases t <;> simp only [Rf.coe] at h <;> try exact Rd.castT h hr
    rename_i a' c'
    split at h
    · exact Rd.castT h hr
    · split at h
      · rename_i y1 z1 e1 e2
        obtain rfl := Option.some.inj h
        simp only [Rd] at hr ⊢
        obtain ⟨ow1, l1, r1⟩ := iha _ e1 hr.1
        have hr2 : Rd w ow1 bs c' s (p ++ [.r]) g (o + a'.sz) x.2 := by
          refine Rd.frame (Nat.le_refl _) c' (fun _ _ => rfl) (fun b _ hb => ⟨l1.1 b hb, rfl⟩) (fun b q _ hq => ⟨?_, rfl⟩) hr.2
          rcases l1.2 b _ hq with k | ⟨_, q', e⟩
          · exact k
          · exfalso
            have := congrArg Prod.snd e
            simp only [List.append_assoc, List.append_cancel_left_eq, List.cons_append, List.cons.injEq, reduceCtorEq, false_and] at this
        obtain ⟨ow2, l2, r2⟩ := ihc _ e2 hr2
        refine ⟨ow2, l1.up.trans l2.up, ?_, ?_⟩
        · refine Rd.frame (Nat.le_refl _) a (fun _ _ => rfl) (fun b _ hb => ⟨l2.1 b hb, rfl⟩) (fun b q _ hq => ⟨?_, rfl⟩) r1
          rcases l2.2 b _ hq with k | ⟨_, q', e⟩
          · exact k
          · exfalso
            have := congrArg Prod.snd e
            simp only [List.append_assoc, List.append_cancel_left_eq, List.cons_append, List.cons.injEq, reduceCtorEq, false_and] at this
        · rw [← (coe_sz _ _ e1).1]; exact r2
      · cases h
  | _ => intro t ow s p g o x y h hr; cases t <;> simp only [Rf.coe] at h <;> exact Rd.castT h hr
end Go.Proofs.Ytlmcalffemklnaa.Rf
namespace Go.Proofs.Ytlmcalffemklnaa.Rf
/-- In which block a place lies. -/
theorem walk_where {w : World} {ow : Own} {bs : Fl} {v : Value} {s : Nat} : ∀ (p : List Step) {p0 : List Step} {t : Ty} {x : t.den} {b0 : Option Nat} {o0 : Nat} {t' : Ty} {b o : Nat},
    Rd w ow bs t s p0 (cellAt w v b0) o0 x → walk w v p t b0 o0 = some (t', some b, o) →
    (b0 = some b ∧ o0 ≤ o ∧ o + t'.sz ≤ o0 + t.sz) ∨ (∃ q r, p = q ++ r ∧ r ≠ [] ∧ ow b = some (s, p0 ++ q) ∧ writable w b (o + t'.sz))
  | [], p0, t, x, b0, o0, t', b, o, h, hw => by
    simp only [walk, Option.some.injEq, Prod.mk.injEq] at hw
    obtain ⟨rfl, rfl, rfl⟩ := hw
    exact .inl ⟨rfl, Nat.le_refl _, Nat.le_refl _⟩
  | .l :: p, p0, t, x, b0, o0, t', b, o, h, hw => by
    cases t <;> simp only [walk, reduceCtorEq] at hw
    simp only [Rd] at h
    rcases walk_where p h.1 hw with ⟨e, h1, h2⟩ | ⟨q, r, e, hr, h1, h2⟩
    · exact .inl ⟨e, h1, by simp only [Ty.sz]; omega⟩
    · exact .inr ⟨.l :: q, r, by rw [e]; rfl, hr, by rw [h1, List.append_assoc]; rfl, h2⟩
  | .r :: p, p0, t, x, b0, o0, t', b, o, h, hw => by
    cases t <;> simp only [walk, reduceCtorEq] at hw
    simp only [Rd] at h
    rcases walk_where p h.2 hw with ⟨e, h1, h2⟩ | ⟨q, r, e, hr, h1, h2⟩
    · exact .inl ⟨e, by omega, by simp only [Ty.sz]; omega⟩
    · exact .inr ⟨.r :: q, r, by rw [e]; rfl, hr, by rw [h1, List.append_assoc]; rfl, h2⟩
  | .i n :: p, p0, t, x, b0, o0, t', b, o, h, hw => by
    cases t <;> simp only [walk, reduceCtorEq] at hw
    · rename_i f t
      simp only [Rd] at h
      obtain ⟨a, len, cap, h1, h2, hle, h3⟩ := h
      simp only [h1] at hw
      split at hw
      · rename_i b1 o1 len' cap' e
        simp only [Option.some.injEq, Value.slice.injEq] at e
        obtain ⟨rfl, rfl, rfl⟩ := e
        split at hw
        · rename_i hn
          obtain ⟨b2, o2, e, hb, _, hwr, hi⟩ := h3 (by omega)
          simp only [Option.some.injEq, Addr.mk.injEq] at e
          obtain ⟨rfl, rfl, _⟩ := e
          rcases walk_where p (b0 := some b1) (hi n hn) hw with ⟨e, k1, k2⟩ | ⟨q, r, e, hr, k1, k2⟩
          · simp only [Option.some.injEq] at e
            subst e
            refine .inr ⟨[], .i n :: p, rfl, by simp, by simpa using hb, ?_⟩
            obtain ⟨c, ty, hc, hs⟩ := hwr
            have := Nat.mul_le_mul_right t.sz (show n + 1 ≤ cap by omega)
            rw [Nat.succ_mul] at this
            exact ⟨c, ty, hc, by omega⟩
          · exact .inr ⟨.i n :: q, r, by rw [e]; rfl, hr, by rw [k1, List.append_assoc]; rfl, k2⟩
        · cases hw
      · cases hw
    · rename_i m t
      split at hw
      · rename_i hn
        simp only [Rd] at h
        rcases walk_where p (h.2 n hn) hw with ⟨e, h1, h2⟩ | ⟨q, r, e, hr, h1, h2⟩
        · have := Nat.mul_le_mul_right t.sz (show n + 1 ≤ m by omega)
          rw [Nat.succ_mul] at this
          exact .inl ⟨e, by omega, by simp only [Ty.sz]; omega⟩
        · exact .inr ⟨.i n :: q, r, by rw [e]; rfl, hr, by rw [h1, List.append_assoc]; rfl, h2⟩
      · cases hw
  | .d :: p, p0, t, x, b0, o0, t', b, o, h, hw => by
    cases t <;> simp only [walk, reduceCtorEq] at hw
    simp only [Rd] at h
    obtain ⟨b1, h1, h2, _, hwr, h3⟩ := h
    simp only [h1] at hw
    rcases walk_where p (b0 := some b1) h3 hw with ⟨e, k1, k2⟩ | ⟨q, r, e, hr, k1, k2⟩
    · simp only [Option.some.injEq] at e
      subst e
      obtain ⟨c, ty, hc, hs⟩ := hwr
      exact .inr ⟨[], .d :: p, rfl, by simp, by simpa using h2, c, ty, hc, by omega⟩
    · exact .inr ⟨.d :: q, r, by rw [e]; rfl, hr, by rw [k1, List.append_assoc]; rfl, k2⟩
/-- Some cells of one block hold something else. -/
structure Put (w w' : World) (b o n : Nat) : Prop where
  size : w'.heap.size = w.heap.size
  other : ∀ b', b' ≠ b → w'.heap[b']? = w.heap[b']?
  outside : ∀ j, (j < o ∨ o + n ≤ j) → mem w' b j = mem w b j
  wr : ∀ k, writable w b k → writable w' b k
theorem put_sz {w : World} {v : Value} {d : Dv} : ∀ (p : List Step) {t : Ty} {x : t.den} {b0 : Option Nat} {o0 : Nat} {t' : Ty} {b : Option Nat} {o : Nat} {T' : Ty} {x' : T'.den},
    walk w v p t b0 o0 = some (t', b, o) → d.1.sz = t'.sz → put p t x d = some ⟨T', x'⟩ → T'.sz = t.sz
  | [], t, x, b0, o0, t', b, o, T', x', hw, hd, hp => by
    simp only [walk, Option.some.injEq, Prod.mk.injEq] at hw
    simp only [put, Option.some.injEq] at hp
    rw [hw.1, ← hd, hp]
  | .l :: p, t, x, b0, o0, t', b, o, T', x', hw, hd, hp => by
    cases t <;> simp only [walk, reduceCtorEq] at hw
    simp only [put] at hp
    split at hp
    · rename_i a' y e
      simp only [Option.some.injEq, Sigma.mk.injEq] at hp
      obtain ⟨rfl, _⟩ := hp
      simp only [Ty.sz]; rw [put_sz p hw hd e]
    · cases hp
  | .r :: p, t, x, b0, o0, t', b, o, T', x', hw, hd, hp => by
    cases t <;> simp only [walk, reduceCtorEq] at hw
    simp only [put] at hp
    split at hp
    · rename_i a' y e
      simp only [Option.some.injEq, Sigma.mk.injEq] at hp
      obtain ⟨rfl, _⟩ := hp
      simp only [Ty.sz]; rw [put_sz p hw hd e]
    · cases hp
  | .i n :: p, t, x, b0, o0, t', b, o, T', x', hw, hd, hp => by
    cases t <;> simp only [walk, reduceCtorEq] at hw
    all_goals
      simp only [put] at hp
      split at hp
      · split at hp
        · simp only [Option.some.injEq, Sigma.mk.injEq] at hp
          obtain ⟨rfl, _⟩ := hp
          rfl
        · cases hp
      · cases hp
  | .d :: p, t, x, b0, o0, t', b, o, T', x', hw, hd, hp => by
    cases t <;> simp only [walk, reduceCtorEq] at hw
    simp only [put] at hp
    split at hp
    · simp only [Option.some.injEq, Sigma.mk.injEq] at hp
      obtain ⟨rfl, _⟩ := hp
      rfl
    · cases hp
theorem rd_set_ne {t : Ty} (l : List t.den) (n j : Nat) (y : t.den) (h : j ≠ n) : rd (l.set n y) j = rd l j := by
  unfold rd; simp only [List.getD_eq_getElem?_getD]; rw [List.getElem?_set_ne (fun e => h e.symm)]
theorem rd_set_eq {t : Ty} (l : List t.den) (n : Nat) (y : t.den) (h : n < l.length) : rd (l.set n y) n = y := by
  unfold rd; simp only [List.getD_eq_getElem?_getD]; rw [List.getElem?_set_self h]; rfl
theorem apart_range {n j z : Nat} (h : j ≠ n) : j * z + z ≤ n * z ∨ n * z + z ≤ j * z := by
  rcases Nat.lt_or_gt_of_ne h with h | h
  · left; have := Nat.mul_le_mul_right z (show j + 1 ≤ n from h); rw [Nat.succ_mul] at this; exact this
  · right; have := Nat.mul_le_mul_right z (show n + 1 ≤ j from h); rw [Nat.succ_mul] at this; exact this
section
variable {w w' : World} {ow ow' : Own} {bs : Fl} {v : Value} {s : Nat} {pt : List Step} {b o : Nat} {d : Dv}
/-- What lies beside the place that is written. -/
theorem beside (hP : Put w w' b o d.1.sz) (hno : ∀ b', ow b' = none → ow' b' = none)
    (hkeep : ∀ b' q, ow b' = some (s, q) → (¬ ∃ r, q = pt ++ r) → ow' b' = some (s, q)) {p0 p : List Step} {st st' : Step} (hne : st' ≠ st) (hpt : pt = p0 ++ st :: p)
    {lb : List Step} (hb : ow b = some (s, lb)) (hlb : lb.length ≤ p0.length ∨ ∃ q, lb = p0 ++ st :: q) :
    (∀ b', b' < w.heap.size → ow b' = none → ow' b' = none ∧ w'.heap[b']? = w.heap[b']?) ∧
    (∀ b' q, b' < w.heap.size → ow b' = some (s, (p0 ++ [st']) ++ q) → ow' b' = some (s, (p0 ++ [st']) ++ q) ∧ w'.heap[b']? = w.heap[b']?) := by
  constructor
  · intro b' _ h
    exact ⟨hno _ h, hP.other _ (by rintro rfl; rw [hb] at h; cases h)⟩
  · intro b' q _ h
    refine ⟨hkeep _ _ h ?_, hP.other _ ?_⟩
    · rintro ⟨r, e⟩
      rw [hpt, List.append_assoc, List.append_assoc, List.append_cancel_left_eq] at e
      simp only [List.cons_append, List.nil_append, List.cons.injEq] at e
      exact hne e.1
    · rintro rfl
      rw [hb] at h
      simp only [Option.some.injEq, Prod.mk.injEq, true_and] at h
      rcases hlb with hl | ⟨q', e⟩
      · have := congrArg List.length h; simp at this; omega
      · rw [e, List.append_assoc, List.append_cancel_left_eq] at h
        simp only [List.cons_append, List.nil_append, List.cons.injEq] at h
        exact hne h.1.symm
/-- A value is stored at a place. -/
theorem put_sound (hP : Put w w' b o d.1.sz) (hD : Rd w' ow' bs d.1 s pt (mem w' b) o d.2) (hno : ∀ b', ow b' = none → ow' b' = none)
    (hkeep : ∀ b' q, ow b' = some (s, q) → (¬ ∃ r, q = pt ++ r) → ow' b' = some (s, q)) :
    ∀ (p : List Step) {p0 : List Step} {T : Ty} {x : T.den} {b0 : Option Nat} {o0 : Nat} {T' : Ty} {x' : T'.den} {t : Ty}, pt = p0 ++ p →
    Rd w ow bs T s p0 (cellAt w v b0) o0 x → walk w v p T b0 o0 = some (t, some b, o) → d.1.sz = t.sz → put p T x d = some ⟨T', x'⟩ →
    (∀ b1, b0 = some b1 → ∃ q0, ow b1 = some (s, q0) ∧ q0.length < p0.length) → Rd w' ow' bs T' s p0 (cellAt w' v b0) o0 x'
  | [], p0, T, x, b0, o0, T', x', t, hpt, hR, hw, hd, hp, hb0 => by
    simp only [walk, Option.some.injEq, Prod.mk.injEq] at hw
    obtain ⟨rfl, rfl, rfl⟩ := hw
    simp only [put, Option.some.injEq] at hp
    subst hp
    rw [List.append_nil] at hpt
    subst hpt
    exact hD
  | st :: p, p0, T, x, b0, o0, T', x', t, hpt, hR, hw, hd, hp, hb0 => by
    have hW := walk_where (st :: p) hR hw
    obtain ⟨lb, hb, hlb⟩ : ∃ lb, ow b = some (s, lb) ∧ (lb.length ≤ p0.length ∨ ∃ q, lb = p0 ++ st :: q) := by
      rcases hW with ⟨e, _⟩ | ⟨q, r, e, hr, h1, _⟩
      · obtain ⟨q0, h1, h2⟩ := hb0 _ e; exact ⟨q0, h1, .inl (by omega)⟩
      · cases q with
        | nil => exact ⟨_, h1, .inl (by simp)⟩
        | cons a q => simp only [List.cons_append, List.cons.injEq] at e; rw [← e.1] at h1; exact ⟨_, h1, .inr ⟨q, rfl⟩⟩
    -- the cells beside, in the same block
    have hcell : ∀ j, (b0 = some b → j < o ∨ o + d.1.sz ≤ j) → cellAt w' v b0 j = cellAt w v b0 j := by
      intro j hj
      cases b0 with
      | none => rfl
      | some b1 =>
        by_cases hbb : b1 = b
        · subst hbb; exact hP.outside j (hj rfl)
        · show mem w' b1 j = mem w b1 j
          rw [mem_of (hP.other b1 hbb)]
    have hs : w.heap.size ≤ w'.heap.size := by rw [hP.size]; exact Nat.le_refl _
    -- the header itself, where the way leads on by it
    have hhead : (∃ q r, st :: p = q ++ r ∧ r ≠ [] ∧ ow b = some (s, p0 ++ q) ∧ writable w b (o + t.sz)) → cellAt w' v b0 o0 = cellAt w v b0 o0 := by
      rintro ⟨q, r, _, _, h1, _⟩
      refine hcell o0 (fun e => ?_)
      obtain ⟨q0, k1, k2⟩ := hb0 _ e
      rw [h1] at k1
      simp only [Option.some.injEq, Prod.mk.injEq, true_and] at k1
      have := congrArg List.length k1
      simp at this; omega
    cases T with
    | pair a c =>
      simp only [Rd] at hR
      cases st with
      | l =>
        simp only [walk] at hw
        simp only [put] at hp
        split at hp
        · rename_i a' y e
          obtain ⟨⟩ := Option.some.inj hp
          simp only [Rd]
          have hsz := put_sz p hw hd e
          obtain ⟨k1, k2⟩ := beside hP hno hkeep (st := .l) (st' := .r) (by simp) hpt hb hlb
          refine ⟨put_sound hP hD hno hkeep p (by rw [hpt, List.append_assoc]; rfl) hR.1 hw hd e (fun b1 h => by obtain ⟨q0, h1, h2⟩ := hb0 b1 h; exact ⟨q0, h1, by simp; omega⟩), ?_⟩
          rw [hsz]
          refine Rd.frame hs c (fun i hi => hcell _ (fun e => ?_)) k1 k2 hR.2
          rcases walk_where p hR.1 hw with ⟨_, h1, h2⟩ | ⟨q, r, e1, hr, h1, _⟩
          · right; omega
          · obtain ⟨q0, j1, j2⟩ := hb0 _ e
            rw [h1] at j1; simp only [Option.some.injEq, Prod.mk.injEq, true_and] at j1
            have := congrArg List.length j1; simp at this; omega
        · cases hp
      | r =>
        simp only [walk] at hw
        simp only [put] at hp
        split at hp
        · rename_i a' y e
          obtain ⟨⟩ := Option.some.inj hp
          simp only [Rd]
          obtain ⟨k1, k2⟩ := beside hP hno hkeep (st := .r) (st' := .l) (by simp) hpt hb hlb
          refine ⟨?_, put_sound hP hD hno hkeep p (by rw [hpt, List.append_assoc]; rfl) hR.2 hw hd e (fun b1 h => by obtain ⟨q0, h1, h2⟩ := hb0 b1 h; exact ⟨q0, h1, by simp; omega⟩)⟩
          refine Rd.frame hs a (fun i hi => hcell _ (fun e => ?_)) k1 k2 hR.1
          rcases walk_where p hR.2 hw with ⟨_, h1, h2⟩ | ⟨q, r, e1, hr, h1, _⟩
          · left; omega
          · obtain ⟨q0, j1, j2⟩ := hb0 _ e
            rw [h1] at j1; simp only [Option.some.injEq, Prod.mk.injEq, true_and] at j1
            have := congrArg List.length j1; simp at this; omega
        · cases hp
      | _ => simp only [walk, reduceCtorEq] at hw
    | arr m u =>
      cases st with
      | i n =>
        simp only [walk] at hw
        split at hw
        · rename_i hn
          simp only [put] at hp
          split at hp
          · rename_i t1 y e
            split at hp
            · rename_i y' ey
              obtain ⟨⟩ := Option.some.inj hp
              have e0 := sz_castE ey
              subst e0
              have e1 := castE_eq ey
              subst e1
              simp only [Rd] at hR ⊢
              refine ⟨List.length_set.trans hR.1, fun j hj => ?_⟩
              by_cases hjn : j = n
              · subst hjn
                rw [show rd (t := t1) (List.set x j y') j = y' from rd_set_eq _ _ _ (by rw [hR.1]; exact hn)]
                exact put_sound hP hD hno hkeep p (by rw [hpt, List.append_assoc]; rfl) (hR.2 j hn) hw hd e (fun b1 h => by obtain ⟨q0, h1, h2⟩ := hb0 b1 h; exact ⟨q0, h1, by simp; omega⟩)
              · rw [show rd (t := t1) (List.set x n y') j = rd (t := t1) x j from rd_set_ne _ _ _ _ hjn]
                obtain ⟨k1, k2⟩ := beside hP hno hkeep (st := .i n) (st' := .i j) (by simp [hjn]) hpt hb hlb
                refine Rd.frame hs _ (fun i hi => hcell _ (fun e => ?_)) k1 k2 (hR.2 j hj)
                rcases walk_where p (hR.2 n hn) hw with ⟨_, h1, h2⟩ | ⟨q, r, e1, hr, h1, _⟩
                · have := apart_range (z := t1.sz) hjn; omega
                · obtain ⟨q0, j1, j2⟩ := hb0 _ e
                  rw [h1] at j1; simp only [Option.some.injEq, Prod.mk.injEq, true_and] at j1
                  have := congrArg List.length j1; simp at this; omega
            · cases hp
          · cases hp
        · cases hw
      | _ => simp only [walk, reduceCtorEq] at hw
    | optr f u =>
      cases st with
      | d =>
        simp only [put] at hp
        split at hp
        · rename_i t1 y e
          obtain ⟨⟩ := Option.some.inj hp
          simp only [Rd] at hR ⊢
          obtain ⟨b1, h1, h2, hf, hwr, h3⟩ := hR
          simp only [walk, h1] at hw
          have hcross : ∃ q r, Step.d :: p = q ++ r ∧ r ≠ [] ∧ ow b = some (s, p0 ++ q) ∧ writable w b (o + t.sz) := by
            rcases walk_where p (b0 := some b1) h3 hw with ⟨e, k1, k2⟩ | ⟨q, r, e, hr, k1, k2⟩
            · simp only [Option.some.injEq] at e
              subst e
              obtain ⟨c, ty, hc, hsz⟩ := hwr
              exact ⟨[], .d :: p, rfl, by simp, by simpa using h2, c, ty, hc, by omega⟩
            · exact ⟨.d :: q, r, by rw [e]; rfl, hr, by rw [k1, List.append_assoc]; rfl, k2⟩
          have hszT := put_sz (b0 := some b1) p hw hd e
          refine ⟨b1, by rw [hhead hcross]; exact h1, hkeep _ _ h2 ?_, hf, ?_, ?_⟩
          · rintro ⟨r, e⟩
            rw [hpt] at e
            have := congrArg List.length e; simp at this
          · rw [hszT]
            by_cases hbb : b1 = b
            · subst hbb; exact hP.wr _ hwr
            · exact hwr.of (hP.other _ hbb)
          · exact put_sound (b0 := some b1) hP hD hno hkeep p (by rw [hpt, List.append_assoc]; rfl) h3 hw hd e (fun b2 h => by simp only [Option.some.injEq] at h; subst h; exact ⟨p0, h2, by simp⟩)
        · cases hp
      | _ => simp only [walk, reduceCtorEq] at hw
    | osl f u =>
      cases st with
      | i n =>
        simp only [put] at hp
        split at hp
        · rename_i t1 y e
          split at hp
          · rename_i y' ey
            obtain ⟨⟩ := Option.some.inj hp
            have e0 := sz_castE ey
            subst e0
            have e1 := castE_eq ey
            subst e1
            simp only [Rd] at hR ⊢
            obtain ⟨a, len, cap, h1, h2, hle, h3⟩ := hR
            simp only [walk, h1] at hw
            split at hw
            · rename_i b1 o1 len' cap' ee
              simp only [Option.some.injEq, Value.slice.injEq] at ee
              obtain ⟨rfl, rfl, rfl⟩ := ee
              split at hw
              · rename_i hn
                obtain ⟨b2, o2, ee, hb1, hf, hwr, hi⟩ := h3 (by omega)
                simp only [Option.some.injEq, Addr.mk.injEq] at ee
                obtain ⟨rfl, rfl, _⟩ := ee
                have hww := walk_where p (b0 := some b1) (hi n hn) hw
                have hcross : ∃ q r, Step.i n :: p = q ++ r ∧ r ≠ [] ∧ ow b = some (s, p0 ++ q) ∧ writable w b (o + t.sz) := by
                  rcases hww with ⟨e, k1, k2⟩ | ⟨q, r, e, hr, k1, k2⟩
                  · simp only [Option.some.injEq] at e
                    subst e
                    obtain ⟨c, ty, hc, hsz⟩ := hwr
                    have := Nat.mul_le_mul_right t1.sz (show n + 1 ≤ cap by omega)
                    rw [Nat.succ_mul] at this
                    exact ⟨[], .i n :: p, rfl, by simp, by simpa using hb1, c, ty, hc, by omega⟩
                  · exact ⟨.i n :: q, r, by rw [e]; rfl, hr, by rw [k1, List.append_assoc]; rfl, k2⟩
                refine ⟨_, len, cap, by rw [hhead hcross]; exact h1, List.length_set.trans h2, hle, fun h0 => ⟨b1, o1, rfl, hkeep _ _ hb1 ?_, hf, ?_, fun j hj => ?_⟩⟩
                · rintro ⟨r, e⟩
                  rw [hpt] at e
                  have := congrArg List.length e; simp at this
                · by_cases hbb : b1 = b
                  · subst hbb; exact hP.wr _ hwr
                  · exact hwr.of (hP.other _ hbb)
                · by_cases hjn : j = n
                  · subst hjn
                    rw [show rd (t := t1) (List.set x j y') j = y' from rd_set_eq _ _ _ (by rw [h2]; exact hn)]
                    exact put_sound (b0 := some b1) hP hD hno hkeep p (by rw [hpt, List.append_assoc]; rfl) (hi j hn) hw hd e (fun b2 h => by simp only [Option.some.injEq] at h; subst h; exact ⟨p0, hb1, by simp⟩)
                  · rw [show rd (t := t1) (List.set x n y') j = rd (t := t1) x j from rd_set_ne _ _ _ _ hjn]
                    obtain ⟨k1, k2⟩ := beside hP hno hkeep (st := .i n) (st' := .i j) (by simp [hjn]) hpt hb hlb
                    refine Rd.frame hs _ (fun i hi' => ?_) k1 k2 (hi j hj)
                    by_cases hbb : b1 = b
                    · subst hbb
                      refine hP.outside _ ?_
                      rcases hww with ⟨_, j1, j2⟩ | ⟨q, r, e1, hr, j1, _⟩
                      · have := apart_range (z := t1.sz) hjn; omega
                      · rw [hb1] at j1; simp only [Option.some.injEq, Prod.mk.injEq, true_and] at j1
                        have := congrArg List.length j1; simp at this
                    · rw [mem_of (hP.other _ hbb)]
              · cases hw
            · cases hw
          · cases hp
        · cases hp
      | _ => simp only [walk, reduceCtorEq] at hw
    | _ => cases st <;> simp only [walk, reduceCtorEq] at hw
end
end Go.Proofs.Ytlmcalffemklnaa.Rf
